/- What the functions of the program compute, part 2, for ClaimsOthers. No condition. -/
import Derived.Test.YtnfppojnmdohnaaGreatDoorP4a
import Derived.Test.YtnfppojnmdohnaaGreatDoorQ5
set_option linter.unusedVariables false
set_option linter.unusedSimpArgs false
open Nat renaming reduceAdd → qq, reduceSub → qx, reduceMul → qz, reduceLT → qv, reduceLeDiff → qk, reduceBEq → qy
namespace Go.AM
open Go
def Ye (V:List Bool):List AV:=V.map .bool
theorem Wi (x y:Int):Zz false [1] (I x) (I y)=some (x==y):=by simp only [go_sem,qy,qq,reduceIte]
theorem Z2W (K:List Int) (V:List Bool) (hl:V.length=K.length) (x:Int) {h:Hp} {b:Nat} (hb:h[b]? = some (.map (K.map I) (Ye V))):
 ∃ c,W5 h false [1] false (.bool false) (.mp b) (I x)=some (.bool c):=by
 simp only [W5,hb,QW,Wi];rcases Uq (ag:=false) (kk:=[1]) (enc:=I) (eq:=fun a b=>a==b) Wi x K 0 with ⟨h1,h2⟩ | ⟨j,h1,h2,h3,h4⟩
 ·rw [h1];exact ⟨false,rfl⟩
 ·have:(Ye V)[j]? = some (.bool (V[j]'(by omega))):=by
   unfold Ye;rw [List.getElem?_map,List.getElem?_eq_getElem (by omega)];rfl
  rw [h1];simp only [this];exact ⟨_,rfl⟩
theorem Z2X (K:List Int) (V:List Bool) (hl:V.length=K.length) (x:Int) (c:Bool) {h:Hp} {b:Nat} (hb:h[b]? = some (.map (K.map I) (Ye V))):
 ∃ (K':List Int) (V':List Bool),V'.length=K'.length∧K'.length≤K.length+1∧YK h false [1] (.mp b) (I x) (.bool c)=some (.bot,setH h b (.map (K'.map I) (Ye V'))):=by
 simp only [YK,hb,Yo,Wi];rcases Uq (ag:=false) (kk:=[1]) (enc:=I) (eq:=fun a b=>a==b) Wi x K 0 with ⟨h1,h2⟩ | ⟨j,h1,h2,h3,h4⟩
 ·rw [h1];refine ⟨K++[x],V++[c],by simp [hl],by simp,?_⟩
  simp [Ye,ZM,ZH]
 ·rw [h1];refine ⟨K,V.set j c,by simp [hl],by omega,?_⟩
  simp [Ye,ZM,ZH,List.map_set]
def Vm (a b:Int):Bool:=a==b
def Y2 (p:Pair):Bool:=QM p.a 0 0&&(QM p.b 0 0&&!(p.a==p.b))
def QV (l:List Pair) (i:Nat):List Int:=(l.take i).foldl (fun K p=>Qi Vm K p.b) []
def UB (l:List Pair):Bool:=Zu (fun i p=>Y2 p&&!(QV l i).any (Vm p.b)) 0 l
theorem WJ:(0≤(0:Int)∧(0:Int) < ((2:Nat):Int))=True:=by simp
theorem XL:(0≤(1:Int)∧(1:Int) < ((2:Nat):Int))=True:=by simp
theorem Z2Y (a17 a1:AV) (ha17:∀ n,bel n a17=true) (ha1:∀ n,bel n a1=true) (l:List Pair) (hl:l.length≤1000):
 ∃ fr' h',Zg rE [1,3,4,17,18,19,24,25,26] c88L0b [(1,a1),(3,.mp 0),(4,.int .i64 0),(17,a17),(18,.int .i64 2),(19,.int .i64 0),(24,.isl false false 2 (l.map Pair.enc)),(25,I l.length),(26,.int .i64 0)] [.map [] []] =
  some (if UB l=true then .exit 2 else .ret,fr',h')∧
  (UB l=true→(get fr' 1=a1∧get fr' 2=.bot∧get fr' 3=.mp 0∧get fr' 17=a17∧get fr' 18=.int .i64 2∧get fr' 19=.int .i64 0)∧∃ (K:List Int) (V:List Bool),V.length=K.length∧h'=[.map (K.map I) (Ye V)])∧(UB l=false→get fr' 2=.bool false∧get fr' 1=a1∧get fr' 3=.mp 0∧get fr' 17=a17∧get fr' 18=.int .i64 2∧get fr' 19=.int .i64 0):=by
 have hbA:∀ n (K:List Int),Zd n (K.map I)=true:=fun n K=>ZN _ (Zw (fun t=>rfl) K)
 have hbT:∀ n k,Zd n (ZO k)=true:=fun n k=>ZN _ (Ut k)
 have n0:((0:Int)).toNat=0:=rfl;have n1:((1:Int)).toNat=1:=rfl;have z0:((0:Int)==0)=true:=rfl;have L:=Jk (E:=rE) (live:=[1,3,4,17,18,19,24,25,26]) (b:=c88L0b) l (fun i p=>Y2 p&&!(QV l i).any (Vm p.b))
  (fun i=>[(1,a1),(3,.mp 0),(4,.int .i64 0),(17,a17),(18,.int .i64 2),(19,.int .i64 0),(24,.isl false false 2 (l.map Pair.enc)),(25,I l.length),(26,I i)])
  (fun i=>[.map ((QV l i).map I) (ZO (QV l i).length)]) 2
  (fun fr h=>(get fr 1=a1∧get fr 2=.bot∧get fr 3=.mp 0∧get fr 17=a17∧get fr 18=.int .i64 2∧get fr 19=.int .i64 0)∧h=[.map ((QV l l.length).map I) (ZO (QV l l.length).length)])
  (fun fr h=>get fr 2=.bool false∧get fr 1=a1∧get fr 3=.mp 0∧get fr 17=a17∧get fr 18=.int .i64 2∧get fr 19=.int .i64 0) (fun i=>rfl)
  (fun i x hx hP=>by
   have hg:=Z6 (f:=Pair.enc) hx;have hi:=Zh (Z7 hx);have hw:=Zx (n:=i) (by have:=Z7 hx;omega)
   have hf:QV l (i+1)=Qi Vm (QV l i) x.b:=Us _ [] hx;have hp:=fun hh=>Ur (ag:=false) (kk:=[1]) (enc:=I) (eq:=Vm) Wi (QV l i) x.b (h:=.map ((QV l i).map I) (ZO (QV l i).length)::hh) (b:=0) rfl
   have hq:=fun hh=>H5 (ag:=false) (kk:=[1]) (enc:=I) (eq:=Vm) Wi (QV l i) x.b (h:=.map ((QV l i).map I) (ZO (QV l i).length)::hh) (b:=0) rfl
   rw [hf];generalize QV l i=K at hp hq hP ⊢;simp only [Y2,Bool.and_eq_true,Bool.not_eq_true'] at hP;obtain ⟨⟨h1,h2,h3⟩,h4⟩:=hP;refine ⟨_,by simp only [go_sem,qy,qq,qv,qk,reduceIte,c88L0b,hg,hi,hw,Pair.enc,WJ,XL,n0,n1,Nat.zero_mul,Nat.mul_one,Nat.one_mul,if_true,Qc,h1,h2,h3,z0,hq,hp,h4,hbA,hbT,ha17,ha1];rfl,?_⟩
   simp only [go_sem,qy,qq,qv,qk,reduceIte])
  (fun i x hx hP=>by
   have hg:=Z6 (f:=Pair.enc) hx;have hi:=Zh (Z7 hx);have hq:=fun hh=>H5 (ag:=false) (kk:=[1]) (enc:=I) (eq:=Vm) Wi (QV l i) x.b (h:=.map ((QV l i).map I) (ZO (QV l i).length)::hh) (b:=0) rfl
   generalize QV l i=K at hq hP ⊢;unfold Y2 at hP;cases h1:QM x.a 0 0 with
   | false=>
    refine ⟨_,_,by simp only [go_sem,qy,qq,qv,qk,reduceIte,c88L0b,hg,hi,Pair.enc,WJ,XL,n0,n1,Nat.zero_mul,Nat.mul_one,Nat.one_mul,if_true,Qc,h1,hbA,hbT,ha17,ha1];rfl,?_⟩
    refine ⟨?_,?_,?_,?_,?_,?_⟩<;>simp only [go_sem,qy,qq,qv,qk,reduceIte]
   | true=>
   cases h2:QM x.b 0 0 with
   | false=>
    refine ⟨_,_,by simp only [go_sem,qy,qq,qv,qk,reduceIte,c88L0b,hg,hi,Pair.enc,WJ,XL,n0,n1,Nat.zero_mul,Nat.mul_one,Nat.one_mul,if_true,Qc,h1,h2,hbA,hbT,ha17,ha1];rfl,?_⟩
    refine ⟨?_,?_,?_,?_,?_,?_⟩<;>simp only [go_sem,qy,qq,qv,qk,reduceIte]
   | true=>
   cases h3:x.a==x.b with
   | true=>
    refine ⟨_,_,by simp only [go_sem,qy,qq,qv,qk,reduceIte,c88L0b,hg,hi,Pair.enc,WJ,XL,n0,n1,Nat.zero_mul,Nat.mul_one,Nat.one_mul,if_true,Qc,h1,h2,h3,hbA,hbT,ha17,ha1];rfl,?_⟩
    refine ⟨?_,?_,?_,?_,?_,?_⟩<;>simp only [go_sem,qy,qq,qv,qk,reduceIte]
   | false=>
    have h4:K.any (Vm x.b)=true:=by simpa [h1,h2,h3] using hP
    refine ⟨_,_,by simp only [go_sem,qy,qq,qv,qk,reduceIte,c88L0b,hg,hi,Pair.enc,WJ,XL,n0,n1,Nat.zero_mul,Nat.mul_one,Nat.one_mul,if_true,Qc,h1,h2,h3,z0,hq,h4,hbA,hbT,ha17,ha1];rfl,?_⟩
    refine ⟨?_,?_,?_,?_,?_,?_⟩<;>simp only [go_sem,qy,qq,qv,qk,reduceIte])
  (⟨_,_,by simp only [go_sem,qy,qq,qv,qk,reduceIte,c88L0b,ZG];rfl,by refine ⟨⟨?_,?_,?_,?_,?_,?_⟩,?_⟩<;>simp only [go_sem,qy,qq,qv,qk,reduceIte]⟩)
 obtain ⟨fr',h',h1,h2,h3⟩:=L;refine ⟨fr',h',h1,fun h=>?_,h3⟩
 obtain ⟨h4,h5⟩:=h2 h;refine ⟨h4,QV l l.length,List.replicate (QV l l.length).length true,by simp,?_⟩
 rw [h5];simp [Ye,ZO]
theorem Z2Z (a17 a1:AV) (ha17:∀ n,bel n a17=true) (ha1:∀ n,bel n a1=true) (l:List Pair) (hl:l.length≤1000) (K0:List Int) (V0:List Bool) (hK0:V0.length=K0.length):
 ∃ fr' h',Zg rE [1,3,4,17,18,19,24,25,26] c88L0b [(1,a1),(3,.mp 0),(4,.int .i64 1),(17,a17),(18,.int .i64 2),(19,.int .i64 1),(24,.isl false false 2 (l.map Pair.enc)),(25,I l.length),(26,.int .i64 0)] [.map (K0.map I) (Ye V0)] =
  some (if l.all Y2=true then .exit 2 else .ret,fr',h')∧
  (l.all Y2=true→(get fr' 1=a1∧get fr' 2=.bot∧get fr' 3=.mp 0∧get fr' 17=a17∧get fr' 18=.int .i64 2∧get fr' 19=.int .i64 1)∧∃ o,h'=[o]∧∀ n,Zj n o=true)∧(l.all Y2=false→get fr' 2=.bool false∧get fr' 1=a1∧get fr' 3=.mp 0∧get fr' 17=a17∧get fr' 18=.int .i64 2∧get fr' 19=.int .i64 1):=by
 have hbA:∀ n (K:List Int),Zd n (K.map I)=true:=fun n K=>ZN _ (Zw (fun t=>rfl) K)
 have hbT:∀ n (V:List Bool),Zd n (Ye V)=true:=fun n V=>ZN _ (Zw (fun t=>rfl) V)
 have n0:((0:Int)).toNat=0:=rfl;have n1:((1:Int)).toNat=1:=rfl;have z0:((1:Int)==0)=false:=rfl
 suffices G:∀ (post pre:List Pair) (K:List Int) (V:List Bool),l=pre++post→V.length=K.length→
  ∃ fr' h',Zg rE [1,3,4,17,18,19,24,25,26] c88L0b [(1,a1),(3,.mp 0),(4,.int .i64 1),(17,a17),(18,.int .i64 2),(19,.int .i64 1),(24,.isl false false 2 (l.map Pair.enc)),(25,I l.length),(26,I pre.length)] [.map (K.map I) (Ye V)] =
  some (if post.all Y2=true then .exit 2 else .ret,fr',h')∧
  (post.all Y2=true→(get fr' 1=a1∧get fr' 2=.bot∧get fr' 3=.mp 0∧get fr' 17=a17∧get fr' 18=.int .i64 2∧get fr' 19=.int .i64 1)∧∃ o,h'=[o]∧∀ n,Zj n o=true)∧(post.all Y2=false→get fr' 2=.bool false∧get fr' 1=a1∧get fr' 3=.mp 0∧get fr' 17=a17∧get fr' 18=.int .i64 2∧get fr' 19=.int .i64 1) from G l [] K0 V0 rfl hK0
 intro post;induction post with
 | nil=>
  intro pre K V hp hKV;have hlen:l.length=pre.length:=by rw [hp];simp
  have hf:decide ((pre.length:Int) < (l.length:Int))=false:=by rw [hlen];exact ZG _
  refine ⟨_,_,Q7 rfl (by simp only [go_sem,qy,qq,reduceIte,c88L0b,hf];rfl) (by simp),fun _=>⟨?_,_,rfl,fun n=>by simp only [go_sem,qy,qq,reduceIte,hbA,hbT]⟩,fun h=>by simp at h⟩
  refine ⟨?_,?_,?_,?_,?_,?_⟩<;>simp only [go_sem,qy,qq,reduceIte]
 | cons x post ih=>
  intro pre K V hp hKV;have hx:l[pre.length]? = some x:=by rw [hp];simp
  have hg:=Z6 (f:=Pair.enc) hx;have hi:=Zh (Z7 hx);have hlx:=Z7 hx;have hw:=Zx (n:=pre.length) (by omega)
  rw [List.all_cons];cases h1:QM x.a 0 0 with
  | false=>
   have hP:Y2 x=false:=by simp [Y2,h1]
   rw [hP,Bool.false_and];refine ⟨_,_,Q7 rfl (by simp only [go_sem,qy,qq,qv,qk,reduceIte,c88L0b,hg,hi,Pair.enc,WJ,XL,n0,n1,Nat.zero_mul,Nat.mul_one,Nat.one_mul,if_true,Qc,h1,hbA,hbT,ha17,ha1];rfl) (by simp),fun h=>(by cases h),fun _=>?_⟩
   refine ⟨?_,?_,?_,?_,?_,?_⟩<;>simp only [go_sem,qy,qq,reduceIte]
  | true=>
  cases h2:QM x.b 0 0 with
  | false=>
   have hP:Y2 x=false:=by simp [Y2,h2]
   rw [hP,Bool.false_and];refine ⟨_,_,Q7 rfl (by simp only [go_sem,qy,qq,qv,qk,reduceIte,c88L0b,hg,hi,Pair.enc,WJ,XL,n0,n1,Nat.zero_mul,Nat.mul_one,Nat.one_mul,if_true,Qc,h1,h2,hbA,hbT,ha17,ha1];rfl) (by simp),fun h=>(by cases h),fun _=>?_⟩
   refine ⟨?_,?_,?_,?_,?_,?_⟩<;>simp only [go_sem,qy,qq,reduceIte]
  | true=>
  cases h3:x.a==x.b with
  | true=>
   have hP:Y2 x=false:=by simp only [Y2,h3,Bool.not_true,Bool.and_false]
   rw [hP,Bool.false_and];refine ⟨_,_,Q7 rfl (by simp only [go_sem,qy,qq,qv,qk,reduceIte,c88L0b,hg,hi,Pair.enc,WJ,XL,n0,n1,Nat.zero_mul,Nat.mul_one,Nat.one_mul,if_true,Qc,h1,h2,h3,hbA,hbT,ha17,ha1];rfl) (by simp),fun h=>(by cases h),fun _=>?_⟩
   refine ⟨?_,?_,?_,?_,?_,?_⟩<;>simp only [go_sem,qy,qq,reduceIte]
  | false=>
   have hP:Y2 x=true:=by simp only [Y2,h1,h2,h3,Bool.not_false,Bool.and_self]
   rw [hP,Bool.true_and];obtain ⟨c,hq⟩:=Z2W K V hKV x.b (h:=[.map (K.map I) (Ye V),.row 2 [.agg [I x.a,I x.b]]]) (b:=0) rfl;obtain ⟨K',V',hKV',_,hput⟩:=Z2X K V hKV x.b c (h:=[.map (K.map I) (Ye V),.row 2 [.agg [I x.a,I x.b]]]) (b:=0) rfl;obtain ⟨fr',h',h4,h5⟩:=ih (pre++[x]) K' V' (by simp [hp]) hKV'
   refine ⟨fr',h',?_,h5⟩;rw [←h4];have hl1:((pre++[x]).length:Int)=((pre.length+1:Nat):Int):=by simp
   rw [hl1];cases c<;>exact (Yt rfl (by simp only [go_sem,qy,qq,qv,qk,reduceIte,c88L0b,hg,hi,hw,Pair.enc,WJ,XL,n0,n1,Nat.zero_mul,Nat.mul_one,Nat.one_mul,if_true,Qc,h1,h2,h3,z0,hq,hput,hbA,hbT,ha17,ha1];rfl)).trans (by simp only [go_sem,qy,qq,qv,qk,reduceIte])
def chN (s:Sta):Nat→Int→Bool
 | 0,at'=>!decide (at' ≥ 0)
 | k+1,at'=>bif decide (at' ≥ 0) then chN s k (XJ s at') else true
theorem Fl (s:Sta) (hs:StS s) (a71 a72 a73:AV) (h:Hp):∀ k n at',n+k=s.Merged.length+1→
 ∃ fr',Zg rE [1,10,11,71,72,73] c88L2b [(1,.iptr false [.isl false false 6 (s.Regions.map Region.enc),.isl false false 5 (s.Streets.map Street.enc),.isl false false 4 (s.Buildings.map Building.enc),.isl false false 16 (s.Doors.map Door.enc),.isl false false 6 (s.Units.map Unit'.enc),.isl false false 2 (s.Merged.map Pair.enc),.isl false false 2 (s.Rulings.map Pair.enc)]),(10,I at'),(11,I (n:Nat)),(71,a71),(72,a72),(73,a73)] h =
  some (if chN s k at'=true then .exit 6 else .ret,fr',h)∧(chN s k at'=true→get fr' 2=.bot∧get fr' 1=.iptr false [.isl false false 6 (s.Regions.map Region.enc),.isl false false 5 (s.Streets.map Street.enc),.isl false false 4 (s.Buildings.map Building.enc),.isl false false 16 (s.Doors.map Door.enc),.isl false false 6 (s.Units.map Unit'.enc),.isl false false 2 (s.Merged.map Pair.enc),.isl false false 2 (s.Rulings.map Pair.enc)]∧get fr' 71=a71∧get fr' 72=a72∧get fr' 73=a73)∧(chN s k at'=false→get fr' 2=.bool false∧get fr' 1=.iptr false [.isl false false 6 (s.Regions.map Region.enc),.isl false false 5 (s.Streets.map Street.enc),.isl false false 4 (s.Buildings.map Building.enc),.isl false false 16 (s.Doors.map Door.enc),.isl false false 6 (s.Units.map Unit'.enc),.isl false false 2 (s.Merged.map Pair.enc),.isl false false 2 (s.Rulings.map Pair.enc)]∧get fr' 71=a71∧get fr' 72=a72∧get fr' 73=a73):=by
 intro k;induction k with
 | zero=>
  intro n at' hn;unfold chN;cases h1:decide (at' ≥ 0) with
  | false=>
   refine ⟨_,Q7 rfl (by simp only [go_sem,qy,qq,reduceIte,c88L2b,h1,GH];rfl) (by simp),fun _=>?_,fun hh=>(by simp at hh)⟩
   refine ⟨?_,?_,?_,?_,?_⟩<;>simp only [go_sem,qy,qq,reduceIte]
  | true=>
   have h2:decide ((n:Int) > (s.Merged.length:Int))=true:=decide_eq_true (by omega)
   refine ⟨_,Q7 rfl (by simp only [go_sem,qy,qq,reduceIte,c88L2b,h1,h2,GH];rfl) (by simp),fun hh=>(by simp at hh),fun _=>?_⟩
   refine ⟨?_,?_,?_,?_,?_⟩<;>simp only [go_sem,qy,qq,reduceIte]
 | succ k ih=>
  intro n at' hn;unfold chN;cases h1:decide (at' ≥ 0) with
  | false=>
   refine ⟨_,Q7 rfl (by simp only [go_sem,qy,qq,reduceIte,c88L2b,h1,GH];rfl) (by simp),fun _=>?_,fun hh=>(by simp at hh)⟩
   refine ⟨?_,?_,?_,?_,?_⟩<;>simp only [go_sem,qy,qq,reduceIte]
  | true=>
   have h2:decide ((n:Int) > (s.Merged.length:Int))=false:=decide_eq_false (by omega)
   have hm:=hs.merged;have hw:=Zx (n:=n) (by omega)
   have ht:=NJ s hs at';obtain ⟨fr',h3,h4⟩:=ih (n+1) (XJ s at') (by omega)
   rw [cond_true];refine ⟨fr',?_,h4⟩;rw [←h3];exact (Yt rfl (by simp only [go_sem,qy,qq,qv,qk,reduceIte,c88L2b,h1,h2,hw,ht,GH];rfl)).trans (by simp only [go_sem,qy,qq,qv,qk,reduceIte])
def WK (s:Sta):Bool:=UB s.Merged&&(s.Rulings.all Y2&&s.Merged.all (fun p=>chN s (s.Merged.length+1) p.b))
theorem Z30 (s:Sta) (hs:StS s) (o:AObj) (ho:∀ n,Zj n o=true):
 ∃ fr',Zg rE [1,71,72,73] c88L3b [(1,.iptr false [.isl false false 6 (s.Regions.map Region.enc),.isl false false 5 (s.Streets.map Street.enc),.isl false false 4 (s.Buildings.map Building.enc),.isl false false 16 (s.Doors.map Door.enc),.isl false false 6 (s.Units.map Unit'.enc),.isl false false 2 (s.Merged.map Pair.enc),.isl false false 2 (s.Rulings.map Pair.enc)]),(71,.isl false false 2 (s.Merged.map Pair.enc)),(72,I s.Merged.length),(73,.int .i64 0)] [o] =
  some (if s.Merged.all (fun p=>chN s (s.Merged.length+1) p.b)=true then .exit 4 else .ret,fr',[o])∧(s.Merged.all (fun p=>chN s (s.Merged.length+1) p.b)=false→get fr' 2=.bool false):=by
 have n1:((1:Int)).toNat=1:=rfl;generalize ha:AV.iptr false [.isl false false 6 (s.Regions.map Region.enc),.isl false false 5 (s.Streets.map Street.enc),.isl false false 4 (s.Buildings.map Building.enc),.isl false false 16 (s.Doors.map Door.enc),.isl false false 6 (s.Units.map Unit'.enc),.isl false false 2 (s.Merged.map Pair.enc),.isl false false 2 (s.Rulings.map Pair.enc)]=a;have hba:∀ n,bel n a=true:=fun n=>by rw [←ha];rfl
 have L:=Uf (E:=rE) (live:=[1,71,72,73]) (b:=c88L3b) (h:=[o]) s.Merged (fun _ p=>chN s (s.Merged.length+1) p.b) (fun i=>[(1,a),(71,.isl false false 2 (s.Merged.map Pair.enc)),(72,I s.Merged.length),(73,I i)]) 4 (fun fr=>get fr 2=.bool false) (fun i=>rfl)
  (fun i x hx hP=>by
   have hg:=Z6 (f:=Pair.enc) hx;have hi:=Zh (Z7 hx);have hw:=Zx (n:=i) (by have:=Z7 hx;have:=hs.merged;omega)
   obtain ⟨fr',h1,h2,_⟩:=Fl s hs (.isl false false 2 (s.Merged.map Pair.enc)) (I s.Merged.length) (I i) [o,.row 2 [.agg [I x.a,I x.b]]] (s.Merged.length+1) 0 x.b (by omega)
   rw [hP,if_pos rfl,ha] at h1;obtain ⟨q2,q1,q71,q72,q73⟩:=h2 hP;rw [ha] at q1;have h1':Zg rE [1,10,11,71,72,73] c88L2b [(1,a),(10,I x.b),(11,.int .i64 0),(71,.isl false false 2 (s.Merged.map Pair.enc)),(72,I s.Merged.length),(73,I i)] [o,.row 2 [.agg [I x.a,I x.b]]]=_:=h1;refine ⟨_,by simp only [go_sem,qy,qq,qv,qk,reduceIte,c88L3b,c88L2,hg,hi,hw,Pair.enc,XL,n1,Nat.mul_one,if_true,h1',q1,q2,q71,q72,q73,ho,hba];rfl,?_⟩
   simp only [go_sem,qy,qq,qv,qk,reduceIte])
  (fun i x hx hP=>by
   have hg:=Z6 (f:=Pair.enc) hx;have hi:=Zh (Z7 hx);obtain ⟨fr',h1,_,h2⟩:=Fl s hs (.isl false false 2 (s.Merged.map Pair.enc)) (I s.Merged.length) (I i) [o,.row 2 [.agg [I x.a,I x.b]]] (s.Merged.length+1) 0 x.b (by omega)
   rw [hP,ha] at h1;obtain ⟨q2,q1,q71,q72,q73⟩:=h2 hP;rw [ha] at q1;have h1':Zg rE [1,10,11,71,72,73] c88L2b [(1,a),(10,I x.b),(11,.int .i64 0),(71,.isl false false 2 (s.Merged.map Pair.enc)),(72,I s.Merged.length),(73,I i)] [o,.row 2 [.agg [I x.a,I x.b]]]=_:=h1;refine ⟨_,by simp only [go_sem,qy,qq,qv,qk,reduceIte,c88L3b,c88L2,hg,hi,Pair.enc,XL,n1,Nat.mul_one,if_true,h1',q1,q2,q71,q72,q73,ho,hba,Bool.false_eq_true];rfl,?_⟩
   simp only [go_sem,qy,qq,qv,qk,reduceIte])
  (⟨_,by simp only [go_sem,qy,qq,qv,qk,reduceIte,c88L3b,ZG];rfl⟩)
 rw [QE] at L;exact L
theorem Z31 (s:Sta) (hs:StS s):pfn rE 88 [stA s]=some (.bool (WK s)):=by
 have hbA:∀ n (K:List Int),Zd n (K.map I)=true:=fun n K=>ZN _ (Zw (fun t=>rfl) K)
 have hbT:∀ n (V:List Bool),Zd n (Ye V)=true:=fun n V=>ZN _ (Zw (fun t=>rfl) V)
 have e0:ixG [AV.isl false false 2 (s.Merged.map Pair.enc),.isl false false 2 (s.Rulings.map Pair.enc)] 0=some (.isl false false 2 (s.Merged.map Pair.enc)):=rfl;have e1:ixG [AV.isl false false 2 (s.Merged.map Pair.enc),.isl false false 2 (s.Rulings.map Pair.enc)] 1=some (.isl false false 2 (s.Rulings.map Pair.enc)):=rfl;have d02:decide ((0:Int) < 2)=true:=rfl;have d12:decide ((1:Int) < 2)=true:=rfl;have d22:decide ((2:Int) < 2)=false:=rfl;have w0:IntKind.i64.wrap ((0:Int)+1)=1:=rfl;have w1:IntKind.i64.wrap ((1:Int)+1)=2:=rfl;have c2:(((0+1+1:Nat):Nat):Int)=2:=rfl;have c2':((2:Nat):Int)=2:=rfl;obtain ⟨f1,g1,hm1,hm2,hm3⟩:=Z2Y (.isl false false 1 [.isl false false 2 (s.Merged.map Pair.enc),.isl false false 2 (s.Rulings.map Pair.enc)]) (.iptr false [.isl false false 6 (s.Regions.map Region.enc),.isl false false 5 (s.Streets.map Street.enc),.isl false false 4 (s.Buildings.map Building.enc),.isl false false 16 (s.Doors.map Door.enc),.isl false false 6 (s.Units.map Unit'.enc),.isl false false 2 (s.Merged.map Pair.enc),.isl false false 2 (s.Rulings.map Pair.enc)]) (fun n=>rfl) (fun n=>rfl) s.Merged hs.merged
 rw [Z5 (f:=88) rfl rfl];unfold WK;cases c1:UB s.Merged with
 | false=>
  rw [c1] at hm1;obtain ⟨q2,q1,q3,q17,q18,q19⟩:=hm3 c1;have R:∃ fr h,Zg rE [1,3,17,18,19] c88L1b [(1,.iptr false [.isl false false 6 (s.Regions.map Region.enc),.isl false false 5 (s.Streets.map Street.enc),.isl false false 4 (s.Buildings.map Building.enc),.isl false false 16 (s.Doors.map Door.enc),.isl false false 6 (s.Units.map Unit'.enc),.isl false false 2 (s.Merged.map Pair.enc),.isl false false 2 (s.Rulings.map Pair.enc)]),(3,.mp 0),(17,.isl false false 1 [.isl false false 2 (s.Merged.map Pair.enc),.isl false false 2 (s.Rulings.map Pair.enc)]),(18,.int .i64 2),(19,.int .i64 0)] [.map [] []]=some (.ret,fr,h)∧get fr 2=.bool false:=by
   refine ⟨_,_,Q7 rfl (by simp only [go_sem,qy,qq,qv,qk,reduceIte,c88L1b,c88L0,e0,d02,hm1,q1,q2,q3,q17,q18,q19,Bool.false_eq_true];rfl) (by simp),?_⟩
   simp only [go_sem,qy,qq,qv,qk,reduceIte]
  obtain ⟨fr,h,hR,hq⟩:=R;simp only [go_sem,qy,qq,qv,qk,reduceIte,c88,c88L1,c2',hR,hq]
 | true=>
  rw [c1,if_pos rfl] at hm1;obtain ⟨⟨q1,q2,q3,q17,q18,q19⟩,K,V,hKV,rfl⟩:=hm2 c1;obtain ⟨f2,g2,hr1,hr2,hr3⟩:=Z2Z (.isl false false 1 [.isl false false 2 (s.Merged.map Pair.enc),.isl false false 2 (s.Rulings.map Pair.enc)]) (.iptr false [.isl false false 6 (s.Regions.map Region.enc),.isl false false 5 (s.Streets.map Street.enc),.isl false false 4 (s.Buildings.map Building.enc),.isl false false 16 (s.Doors.map Door.enc),.isl false false 6 (s.Units.map Unit'.enc),.isl false false 2 (s.Merged.map Pair.enc),.isl false false 2 (s.Rulings.map Pair.enc)]) (fun n=>rfl) (fun n=>rfl) s.Rulings hs.rulings K V hKV
  have R1:=Yt (E:=rE) (live:=[1,3,17,18,19]) (b:=c88L1b) (fr:=[(1,.iptr false [.isl false false 6 (s.Regions.map Region.enc),.isl false false 5 (s.Streets.map Street.enc),.isl false false 4 (s.Buildings.map Building.enc),.isl false false 16 (s.Doors.map Door.enc),.isl false false 6 (s.Units.map Unit'.enc),.isl false false 2 (s.Merged.map Pair.enc),.isl false false 2 (s.Rulings.map Pair.enc)]),(3,.mp 0),(17,.isl false false 1 [.isl false false 2 (s.Merged.map Pair.enc),.isl false false 2 (s.Rulings.map Pair.enc)]),(18,.int .i64 2),(19,.int .i64 0)]) (h:=[.map [] []]) rfl (by simp only [go_sem,qy,qq,qv,qk,reduceIte,c88L1b,c88L0,e0,d02,w0,hm1,q1,q2,q3,q17,q18,q19];rfl)
  simp only [go_sem,qy,qq,qv,qk,reduceIte] at R1;cases c3:s.Rulings.all Y2 with
  | false=>
   rw [c3] at hr1;obtain ⟨p2,p1,p3,p17,p18,p19⟩:=hr3 c3;have R:∃ fr h,Zg rE [1,3,17,18,19] c88L1b [(1,.iptr false [.isl false false 6 (s.Regions.map Region.enc),.isl false false 5 (s.Streets.map Street.enc),.isl false false 4 (s.Buildings.map Building.enc),.isl false false 16 (s.Doors.map Door.enc),.isl false false 6 (s.Units.map Unit'.enc),.isl false false 2 (s.Merged.map Pair.enc),.isl false false 2 (s.Rulings.map Pair.enc)]),(3,.mp 0),(17,.isl false false 1 [.isl false false 2 (s.Merged.map Pair.enc),.isl false false 2 (s.Rulings.map Pair.enc)]),(18,.int .i64 2),(19,.int .i64 1)] [.map (K.map I) (Ye V)]=some (.ret,fr,h)∧get fr 2=.bool false:=by
    refine ⟨_,_,Q7 rfl (by simp only [go_sem,qy,qq,qv,qk,reduceIte,c88L1b,c88L0,e1,d12,hr1,p1,p2,p3,p17,p18,p19,Bool.false_eq_true];rfl) (by simp),?_⟩
    simp only [go_sem,qy,qq,qv,qk,reduceIte]
   obtain ⟨fr,h,hR,hq⟩:=R;simp only [go_sem,qy,qq,qv,qk,reduceIte,c88,c88L1,c2',R1,hR,hq]
  | true=>
   rw [c3,if_pos rfl] at hr1;obtain ⟨⟨p1,p2,p3,p17,p18,p19⟩,o,rfl,ho⟩:=hr2 c3;have R2:=Yt (E:=rE) (live:=[1,3,17,18,19]) (b:=c88L1b) (fr:=[(1,.iptr false [.isl false false 6 (s.Regions.map Region.enc),.isl false false 5 (s.Streets.map Street.enc),.isl false false 4 (s.Buildings.map Building.enc),.isl false false 16 (s.Doors.map Door.enc),.isl false false 6 (s.Units.map Unit'.enc),.isl false false 2 (s.Merged.map Pair.enc),.isl false false 2 (s.Rulings.map Pair.enc)]),(3,.mp 0),(17,.isl false false 1 [.isl false false 2 (s.Merged.map Pair.enc),.isl false false 2 (s.Rulings.map Pair.enc)]),(18,.int .i64 2),(19,.int .i64 1)]) (h:=[.map (K.map I) (Ye V)]) rfl (by simp only [go_sem,qy,qq,qv,qk,reduceIte,c88L1b,c88L0,e1,d12,w1,hr1,p1,p2,p3,p17,p18,p19];rfl)
   simp only [go_sem,qy,qq,qv,qk,reduceIte] at R2;have R3:=Q7 (E:=rE) (live:=[1,3,17,18,19]) (b:=c88L1b) (fr:=[(1,.iptr false [.isl false false 6 (s.Regions.map Region.enc),.isl false false 5 (s.Streets.map Street.enc),.isl false false 4 (s.Buildings.map Building.enc),.isl false false 16 (s.Doors.map Door.enc),.isl false false 6 (s.Units.map Unit'.enc),.isl false false 2 (s.Merged.map Pair.enc),.isl false false 2 (s.Rulings.map Pair.enc)]),(3,.mp 0),(17,.isl false false 1 [.isl false false 2 (s.Merged.map Pair.enc),.isl false false 2 (s.Rulings.map Pair.enc)]),(18,.int .i64 2),(19,.int .i64 2)]) (h:=[o]) rfl (by simp only [go_sem,qy,qq,qv,qk,reduceIte,c88L1b,d22];rfl) (by simp)
   obtain ⟨f4,h4,h5⟩:=Z30 s hs o ho;cases c4:s.Merged.all (fun p=>chN s (s.Merged.length+1) p.b) with
   | true=>rw [c4,if_pos rfl] at h4;simp only [go_sem,qy,qq,qv,qk,reduceIte,c88,c88L1,c88L3,c2',R1,R2,R3,h4]
   | false=>rw [c4] at h4;simp only [go_sem,qy,qq,qv,qk,reduceIte,c88,c88L1,c88L3,c2',R1,R2,R3,h4,h5 c4,Bool.false_eq_true]
end Go.AM
namespace Go.AM
open Go
theorem c84_eq:c84=.seq s84p0 (.seq s84p1 (.seq s84p2 (.seq s84p3 (.seq s84p4 (.seq s84p5 (.seq s84p6 (.seq s84p7 (.seq s84p8 (.seq s84p9 (.seq s84p10 .ret)))))))))):=rfl
def Zo (d:Door):AV:=.agg [.str d.Id,.str d.Building,.str d.Street,I d.Owner,I d.Number.N,.str d.Number.Letter,I d.Number.Num,I d.Number.Den,I d.Point.X,I d.Point.Y,I d.From,I d.Ended,.isl false d.After.ex 1 (d.After.l.map encS),I d.Why,I d.Office,.str d.Veil]
def exD (d:Door):Bool:=d.Ended==-1
def K8 (s:Sta) (i:Int) (d:Door):Bool:=d.After.l.all fun id=>!decide (Zn s id≤i)
def Yf (d:Door):Int:=(d.After.l.length:Int)
def He (d:Door):Bool:=
 bif d.Why==12 then Yf d==0 else bif d.Why==11 then Yf d==0&&Z3 d.Veil emp else bif d.Why==9 then ZD (Yf d) 2 8&&Z3 d.Veil emp else bif d.Why==10 then Yf d==1&&Z3 d.Veil emp else false
def UC (d:Door):Bool:=(((!(exD d==(d.Why==0)))||(exD d&&decide (Yf d > 0)))||(!exD d&&!He d))||!Jq d.After.l
def NM (d:Door):Event:=⟨0,0,0,0,d.Office,d.Id,emp,d.Veil,⟨false,[]⟩,⟨false,[]⟩,⟨0,emp,0,0⟩,⟨0,0⟩,⟨false,[]⟩,⟨false,[]⟩⟩
def Hf (d:Door):Event:=⟨0,0,0,0,0,d.Id,d.Building,d.Street,⟨false,[]⟩,⟨false,[]⟩,d.Number,d.Point,⟨false,[]⟩,⟨false,[]⟩⟩
def NN (d:Door):Bool:=Z3 d.Building emp&&(Z3 d.Street emp&&(QL d.Number ⟨0,emp,0,0⟩&&(QK d.Point ⟨0,0⟩&&Q9 { NM d with Kind:=15 })))
def WL (s:Sta) (k:Int):Int:=match s.Buildings[k.toNat]? with | some b=>b.Ended | none=>0
def QF (s:Sta) (k:Int):Int:=match s.Streets[k.toNat]? with | some b=>b.Ended | none=>0
def NO (s:Sta) (d:Door):Bool:=((d.Office != 0||decide (Y1 s d.Building < 0))||decide (ZL s d.Street < 0))||(exD d&&(WL s (Y1 s d.Building) != -1||QF s (ZL s d.Street) != -1))
def Hg (s:Sta) (i:Int) (d:Door):Bool:=
 K8 s i d&&(!UC d&&(bif Z3 d.Veil emp then !NO s d&&Q9 { Hf d with Kind:=6 } else NN d))
structure DoS (d:Door):Prop where
 after:d.After.l.length≤100
 id:d.Id.size≤1000
 building:d.Building.size≤1000
 street:d.Street.size≤1000
 veil:d.Veil.size≤1000
abbrev stI (s:Sta):AV:=.iptr false [.isl false false 6 (s.Regions.map Region.enc),.isl false false 5 (s.Streets.map Street.enc),.isl false false 4 (s.Buildings.map Building.enc),.isl false false 16 (s.Doors.map Door.enc),.isl false false 6 (s.Units.map Unit'.enc),.isl false false 2 (s.Merged.map Pair.enc),.isl false false 2 (s.Rulings.map Pair.enc)]
theorem Z32 (s:Sta) (hs:StS s) (i:Int) (d:Door) (hd:DoS d):∃ fr',Zg rE [1,2,5,6,22,23,24] c84L0b [(1,I i),(2,stI s),(5,.ptr 0 0 0 1),(6,.bool (exD d)),(22,.isl false d.After.ex 1 (d.After.l.map encS)),(23,I d.After.l.length),(24,.int .i64 0)] [.row 16 [Zo d]] =
 some (if K8 s i d=true then .exit 0 else .ret,fr',[.row 16 [Zo d]])∧(K8 s i d=true→get fr' 2=stI s∧get fr' 4=.bot∧get fr' 5=.ptr 0 0 0 1∧get fr' 6=.bool (exD d))∧(K8 s i d=false→get fr' 4=.bool false):=by
 have L:=QT (E:=rE) (live:=[1,2,5,6,22,23,24]) (b:=c84L0b) (h:=[.row 16 [Zo d]]) d.After.l (fun _ id=>!decide (Zn s id≤i))
  (fun j=>[(1,I i),(2,stI s),(5,.ptr 0 0 0 1),(6,.bool (exD d)),(22,.isl false d.After.ex 1 (d.After.l.map encS)),(23,I d.After.l.length),(24,I j)]) 0
  (fun fr=>get fr 2=stI s∧get fr 4=.bot∧get fr 5=.ptr 0 0 0 1∧get fr 6=.bool (exD d)) (fun fr=>get fr 4=.bool false) (fun j=>rfl)
  (fun j x hx hP=>by
   have hg:=Z6 (f:=encS) hx;have hi:=Zh (Z7 hx);have hw:=Zx (n:=j) (by have:=Z7 hx;have:=hd.after;omega)
   have hf:=find_ok s hs x;have hP':decide (Zn s x≤i)=false:=by simpa using hP
   refine ⟨_,by simp only [go_sem,qy,qq,qv,qk,reduceIte,c84L0b,hg,hi,hw,encS,hf,hP'];rfl,?_⟩
   simp only [go_sem,qy,qq,qv,qk,reduceIte])
  (fun j x hx hP=>by
   have hg:=Z6 (f:=encS) hx;have hi:=Zh (Z7 hx);have hf:=find_ok s hs x;have hP':decide (Zn s x≤i)=true:=by simpa using hP
   refine ⟨_,by simp only [go_sem,qy,qq,qv,qk,reduceIte,c84L0b,hg,hi,encS,hf,hP'];rfl,?_⟩
   simp only [go_sem,qy,qq,qv,qk,reduceIte])
  (⟨_,by simp only [go_sem,qy,qq,qv,qk,reduceIte,c84L0b,ZG];rfl,by refine ⟨?_,?_,?_,?_⟩<;>simp only [go_sem,qy,qq,qv,qk,reduceIte]⟩)
 rw [QE] at L;exact L
theorem Fm (s:Sta) (hs:StS s) (i:Nat) (d:Door) (hd:DoS d) (hx:s.Doors[i]? = some d) (rest:ACode):
 (K8 s i d=true→Zb rE (.seq s84p0 (.seq s84p1 (.seq s84p2 (.seq s84p3 rest)))) [(0,stA s),(1,I i)] []=Zb rE rest [(2,stI s),(4,.bot),(5,.ptr 0 0 0 1),(6,.bool (exD d))] [.row 16 [Zo d]])∧
 (K8 s i d=false→∃ fr h,Zb rE (.seq s84p0 (.seq s84p1 (.seq s84p2 (.seq s84p3 rest)))) [(0,stA s),(1,I i)] []=some (.ret,fr,h)∧get fr 4=.bool false):=by
 obtain ⟨fr',h1,h2,h3⟩:=Z32 s hs i d hd;have hg:=Z6 (f:=Door.enc) hx;have hex:(d.Ended==-1)=exD d:=rfl;unfold Zo at h1 ⊢;constructor
 ·intro ha;rw [if_pos ha] at h1;obtain ⟨q2,q4,q5,q6⟩:=h2 ha;simp only [go_sem,qy,qq,qv,qk,reduceIte,s84p0,s84p1,s84p2,s84p3,c84L0,hg,Door.enc,NL.enc,hex,h1,q2,q4,q5,q6]
 ·intro ha;rw [ha] at h1;have q4:=h3 ha;simp only [Bool.false_eq_true,if_false] at h1;refine ⟨_,_,by simp only [go_sem,qy,qq,qv,qk,reduceIte,s84p0,s84p1,s84p2,s84p3,c84L0,hg,Door.enc,NL.enc,hex,h1,q4];rfl,?_⟩
  simp only [go_sem,qy,qq,qv,qk,reduceIte,q4]
def XM (d:Door):AObj:=.map [.int .i64 12,.int .i64 11,.int .i64 9,.int .i64 10] [.bool (Yf d==0),.bool (Yf d==0&&Z3 d.Veil emp),.bool (ZD (Yf d) 2 8&&Z3 d.Veil emp),.bool (Yf d==1&&Z3 d.Veil emp)]
theorem Z33 (a1 a2:Bool) (r1 r2:List Nat) (w1 w2:Option Nat) (k v j u:AV):Kp ⟨a1,r1,w1,some (k,v)⟩ ⟨a2,r2,w2,some (j,u)⟩=YF k j:=(rfl)
theorem Fo (a b:Int):YF (.int .i64 a) (.int .i64 b)=(a != b):=by simp [YF]
theorem Z34 (x:AObj) (ks vs:List AV) (k:Int) (v:AV) (hk:ZW false [1] (I k) ks 0=some none):YK [x,.map ks vs] false [1] (.mp 1) (I k) v=some (.bot,[x,.map (ks++[I k]) (vs++[v])]):=by
 simp only [YK,List.getElem?_cons_succ,List.getElem?_cons_zero,Yo,Wi,hk,ZM,ZH,GN,GM]
def Js (b:Nat) (v:AV):Bool:=match v with | .mp c=>c==b | _=>false
theorem Z35 (b:Nat):Js b (.mp b)=true:=by simp [Js]
theorem Z36 {b:Nat} {v:AV} (h:Js b v=true):v=.mp b:=by
 cases v with
 | mp c=>have:c=b:=by simpa [Js] using h
         rw [this]
 | _=>simp [Js] at h
theorem Z37 (fr:Fr) (x:AObj) (ks vs:List AV) (k:Int) (t:Nat) (h37':Js 1 (get fr 37)=true) (hk:ZW false [1] (I k) ks 0=some none) (htn:t≠37):
 Za rE (.ins false [1] (.t 37) (.c (.int .i64 k)) (.t t)) fr [x,.map ks vs]=⟨false,[],some 1,some (I k,get fr t)⟩:=by
 have h37:=Z36 h37';obtain ⟨v,ht⟩:∃ v,get fr t=v:=⟨_,rfl⟩;rw [ht];have e37:get (Z2 (AOp.ins false [1] (.t 37) (.c (.int .i64 k)) (.t t)).slots fr) 37=.mp 1:=by
  simp [AOp.slots,Arg.slots,Z2,get,h37]
 have et:get (Z2 (AOp.ins false [1] (.t 37) (.c (.int .i64 k)) (.t t)).slots fr) t=v:=by
  have:(37==t)=false:=by rw [beq_eq_false_iff_ne];exact fun h=>htn h.symm
  simp [AOp.slots,Arg.slots,Z2,get,this,ht]
 have hne:YF (I k) (I k)=false:=by rw [Fo];simp
 have hd:Za rE (.ins false [1] (.t 37) (.c (.int .i64 k)) (.t t)) fr [x,.map ks vs]=QG rE (Z2 (AOp.ins false [1] (.t 37) (.c (.int .i64 k)) (.t t)).slots fr) [x,.map ks vs] (.ins false [1] (.t 37) (.c (.int .i64 k)) (.t t)) (match Z8 rE (Z2 (AOp.ins false [1] (.t 37) (.c (.int .i64 k)) (.t t)).slots fr) [x,.map ks vs] ([x,.map ks vs]:Hp).length (.ins false [1] (.t 37) (.c (.int .i64 k)) (.t t)) with | some r=>r.2.2 | none=>none):=rfl
 rw [hd];generalize Z2 (AOp.ins false [1] (.t 37) (.c (.int .i64 k)) (.t t)).slots fr=f at e37 et;have ho:Z8 rE f [x,.map ks vs] ([x,.map ks vs]:Hp).length (.ins false [1] (.t 37) (.c (.int .i64 k)) (.t t))=some (.bot,[1],some (1,.map (ks++[I k]) (vs++[v]))):=by
  simp only [Z8,ev,e37,et,List.getElem?_cons_succ,List.getElem?_cons_zero,Yo,Wi,hk]
 have hi:Wm rE f [x,.map ks vs] (.ins false [1] (.t 37) (.c (.int .i64 k)) (.t t))=some (I k,v):=by
  simp only [Wm,ev,e37,et,List.getElem?_cons_succ,List.getElem?_cons_zero,hk,hne,cond_false]
 rw [ho];simp only [QG,hi,Option.map_some]
theorem Z38 (s:Sta) (d:Door) (rest:ACode):
 Zb rE (.seq s84p4 (.seq s84p5 rest)) [(2,stI s),(4,.bot),(5,.ptr 0 0 0 1),(6,.bool (exD d))] [.row 16 [Zo d]] =
  Zb rE rest [(2,stI s),(5,.ptr 0 0 0 1),(6,.bool (exD d)),(9,I (Yf d)),(10,.mp 1)] [.row 16 [Zo d],XM d]:=by
 have hn:((d.After.l.length:Nat):Int)=Yf d:=rfl;have f1:ZW false [1] (.int .i64 12) [] 0=some none:=rfl;have f2:ZW false [1] (.int .i64 11) [.int .i64 12] 0=some none:=rfl;have f3:ZW false [1] (.int .i64 9) [.int .i64 12,.int .i64 11] 0=some none:=rfl;have f4:ZW false [1] (.int .i64 10) [.int .i64 12,.int .i64 11,.int .i64 9] 0=some none:=rfl;have n1:((11:Int) != 12)=true:=rfl;have n2:((9:Int) != 12)=true:=rfl;have n3:((9:Int) != 11)=true:=rfl;have n4:((10:Int) != 12)=true:=rfl;have n5:((10:Int) != 11)=true:=rfl;have n6:((10:Int) != 9)=true:=rfl;have b1:∀ x:AV,Zd 1 [x]=bel 1 x:=fun x=>by simp [Zd]
 unfold XM Zo;cases c1:Yf d==0<;>cases c2:Yf d==1<;>cases c3:ZD (Yf d) 2 8<;>cases c4:Z3 d.Veil emp<;>
  simp only [go_sem,qy,qq,qv,qk,reduceIte,s84p4,s84p5,hn,c1,c2,c3,c4,DY,Z37,Z35,Z34,f1,f2,f3,f4,Z33,Fo,n1,n2,n3,n4,n5,n6,ne_eq,Nat.reduceEqDiff,not_false_eq_true,not_false_iff]
theorem Z39 (d:Door) (x:AObj):W5 [x,XM d] false [1] false (.bool false) (.mp 1) (I d.Why)=some (.bool (He d)):=by
 unfold XM He;simp only [W5,List.getElem?_cons_succ,List.getElem?_cons_zero,QW,Wi,ZW];cases c1:d.Why==12<;>cases c2:d.Why==11<;>cases c3:d.Why==9<;>cases c4:d.Why==10<;>rfl
set_option maxHeartbeats 4000000 in
theorem Fp (s:Sta) (d:Door) (hd:DoS d) (rest:ACode):
 (UC d=false→Zb rE (.seq s84p6 rest) [(2,stI s),(5,.ptr 0 0 0 1),(6,.bool (exD d)),(9,I (Yf d)),(10,.mp 1)] [.row 16 [Zo d],XM d]=Zb rE rest [(2,stI s),(5,.ptr 0 0 0 1),(6,.bool (exD d)),(90,.bool false)] [.row 16 [Zo d],XM d])∧
 (UC d=true→∃ fr h,Zb rE (.seq s84p6 rest) [(2,stI s),(5,.ptr 0 0 0 1),(6,.bool (exD d)),(9,I (Yf d)),(10,.mp 1)] [.row 16 [Zo d],XM d]=some (.ret,fr,h)∧get fr 4=.bool false):=by
 have hg:=Z39 d;have hso:=Fj d.After.l d.After.ex (by have:=hd.after;omega)
 have t1:(true==true)=true:=rfl;have t2:(true==false)=false:=rfl;have t3:(false==true)=false:=rfl;have t4:(false==false)=true:=rfl;generalize XM d=m at hg ⊢;unfold UC Zo;cases c1:exD d<;>cases c2:d.Why==0<;>cases c3:decide (Yf d > 0)<;>cases c4:He d<;>cases c5:Jq d.After.l<;>rw [c4] at hg<;>rw [c5] at hso<;>
  (constructor<;>intro hb<;>first | (exact absurd hb (by decide)) | skip)
 all_goals first
  | (simp only [go_sem,qy,qq,reduceIte,s84p6,c2,c3,hg,hso,t1,t2,t3,t4];done)
  | (refine ⟨_,_,by simp only [go_sem,qy,qq,reduceIte,s84p6,c2,c3,hg,hso,t1,t2,t3,t4];rfl,?_⟩;simp only [go_sem,qy,qq,reduceIte])
theorem Z3a (d:Door) (hd:DoS d):EvS (NM d):=⟨Nat.zero_le _,Nat.zero_le _,Nat.zero_le _,Nat.zero_le _,hd.id,Nat.zero_le _,hd.veil⟩
theorem Z3b (d:Door) (hd:DoS d):EvS (Hf d):=⟨Nat.zero_le _,Nat.zero_le _,Nat.zero_le _,Nat.zero_le _,hd.id,hd.building,hd.street⟩
theorem Fq (s:Sta) (d:Door) (hd:DoS d) (m:AObj) (rest:ACode):
 (Z3 d.Veil emp=true→Zb rE (.seq s84p7 rest) [(2,stI s),(5,.ptr 0 0 0 1),(6,.bool (exD d)),(90,.bool false)] [.row 16 [Zo d],m]=Zb rE rest [(2,stI s),(5,.ptr 0 0 0 1),(6,.bool (exD d)),(93,.bool false)] [.row 16 [Zo d],m])∧
 (Z3 d.Veil emp=false→∃ fr h,Zb rE (.seq s84p7 rest) [(2,stI s),(5,.ptr 0 0 0 1),(6,.bool (exD d)),(90,.bool false)] [.row 16 [Zo d],m]=some (.ret,fr,h)∧get fr 4=.bool (NN d)):=by
 have hm:=Wg 15 (NM d) (Z3a d hd);have hm':pfn rE 83 [I 15,.agg [I 0,I 0,I 0,I 0,I d.Office,.str d.Id,.str emp,.str d.Veil,.isl false false 1 [],.isl false false 3 [],I 0,.str emp,I 0,I 0,I 0,I 0,.isl false false 2 [],.isl false false 7 []]]=_:=hm;have hn4:(d.Number.N==0&&(Z3 d.Number.Letter emp&&(d.Number.Num==0&&d.Number.Den==0)))=QL d.Number ⟨0,emp,0,0⟩:=rfl;have hn5:(d.Point.X==0&&d.Point.Y==0)=QK d.Point ⟨0,0⟩:=rfl;unfold NN Zo;constructor
 ·intro hv;simp only [go_sem,qy,qq,reduceIte,s84p7,hv]
 ·intro hv;cases c1:Z3 d.Building emp with
  | false=>refine ⟨_,_,by simp only [go_sem,qy,qq,reduceIte,s84p7,hv,c1];rfl,?_⟩;simp only [go_sem,qy,qq,reduceIte]
  | true=>
  cases c2:Z3 d.Street emp with
  | false=>refine ⟨_,_,by simp only [go_sem,qy,qq,reduceIte,s84p7,hv,c1,c2];rfl,?_⟩;simp only [go_sem,qy,qq,reduceIte]
  | true=>
  cases c3:QL d.Number ⟨0,emp,0,0⟩ with
  | false=>refine ⟨_,_,by simp only [go_sem,qy,qq,qv,qk,reduceIte,s84p7,hv,c1,c2,hn4,c3];rfl,?_⟩;simp only [go_sem,qy,qq,qv,qk,reduceIte]
  | true=>
  cases c4:QK d.Point ⟨0,0⟩ with
  | false=>refine ⟨_,_,by simp only [go_sem,qy,qq,qv,qk,reduceIte,s84p7,hv,c1,c2,hn4,c3,hn5,c4];rfl,?_⟩;simp only [go_sem,qy,qq,qv,qk,reduceIte]
  | true=>refine ⟨_,_,by simp only [go_sem,qy,qq,qv,qk,reduceIte,s84p7,hv,c1,c2,hn4,c3,hn5,c4,hm'];rfl,?_⟩;simp only [go_sem,qy,qq,qv,qk,reduceIte]
theorem QC {α:Type} {P:α→Bool} {l:List α} (h:decide (Zp P l 0 < 0)=false):∃ (j:Nat) (x:α),Zp P l 0=(j:Int)∧l[j]? = some x:=by
 rcases UA P l 0 with ⟨h1,_⟩ | ⟨j,x,h1,h2,_⟩
 ·rw [h1] at h;simp at h
 ·exact ⟨j,x,by rw [h1];omega,h2⟩
theorem Z3c (s:Sta) (hs:StS s) (d:Door) (hd:DoS d) (m:AObj):
 ∃ fr h,Zb rE (.seq s84p8 (.seq s84p9 (.seq s84p10 .ret))) [(2,stI s),(5,.ptr 0 0 0 1),(6,.bool (exD d)),(93,.bool false)] [.row 16 [Zo d],m]=some (.ret,fr,h)∧get fr 4=.bool (!NO s d&&Q9 { Hf d with Kind:=6 }):=by
 have hm:=Wg 6 (Hf d) (Z3b d hd);have hm':pfn rE 83 [I 6,.agg [I 0,I 0,I 0,I 0,I 0,.str d.Id,.str d.Building,.str d.Street,.isl false false 1 [],.isl false false 3 [],I d.Number.N,.str d.Number.Letter,I d.Number.Num,I d.Number.Den,I d.Point.X,I d.Point.Y,.isl false false 2 [],.isl false false 7 []]]=_:=hm;have hb:=Hb s hs d.Building;have ht:=K7 s hs d.Street;unfold NO Zo;cases c1:d.Office != 0 with
 | true=>refine ⟨_,_,by simp only [go_sem,qy,qq,qv,qk,reduceIte,s84p8,s84p9,s84p10,hb,ht,c1];rfl,?_⟩;simp only [go_sem,qy,qq,qv,qk,reduceIte]
 | false=>
 cases c2:decide (Y1 s d.Building < 0) with
 | true=>refine ⟨_,_,by simp only [go_sem,qy,qq,qv,qk,reduceIte,s84p8,s84p9,s84p10,hb,ht,c1,c2];rfl,?_⟩;simp only [go_sem,qy,qq,qv,qk,reduceIte]
 | false=>
 cases c3:decide (ZL s d.Street < 0) with
 | true=>refine ⟨_,_,by simp only [go_sem,qy,qq,qv,qk,reduceIte,s84p8,s84p9,s84p10,hb,ht,c1,c2,c3];rfl,?_⟩;simp only [go_sem,qy,qq,qv,qk,reduceIte]
 | false=>
 obtain ⟨j,x,hj,hx⟩:=QC c2;obtain ⟨k,y,hk,hy⟩:=QC c3;have hj':Y1 s d.Building=(j:Int):=hj;have hk':ZL s d.Street=(k:Int):=hk;have hbE:WL s (Y1 s d.Building)=x.Ended:=by rw [hj'];simp [WL,hx]
 have hsE:QF s (ZL s d.Street)=y.Ended:=by rw [hk'];simp [QF,hy]
 have gx:=Z6 (f:=Building.enc) hx;have gy:=Z6 (f:=Street.enc) hy;rw [hbE,hsE];rw [hj'] at hb c2;rw [hk'] at ht c3;cases c4:exD d with
 | false=>refine ⟨_,_,by simp only [go_sem,qy,qq,qv,qk,reduceIte,s84p8,s84p9,s84p10,hb,ht,c1,c2,c3,c4,hm'];rfl,?_⟩;simp only [go_sem,qy,qq,qv,qk,reduceIte]
 | true=>
 cases c5:x.Ended != -1 with
 | true=>refine ⟨_,_,by simp only [go_sem,qy,qq,qv,qk,reduceIte,s84p8,s84p9,s84p10,hb,ht,c1,c2,c3,c4,gx,Building.enc,NL.enc,c5];rfl,?_⟩;simp only [go_sem,qy,qq,qv,qk,reduceIte]
 | false=>
 cases c6:y.Ended != -1 with
 | true=>refine ⟨_,_,by simp only [go_sem,qy,qq,qv,qk,reduceIte,s84p8,s84p9,s84p10,hb,ht,c1,c2,c3,c4,gx,gy,Building.enc,Street.enc,NL.enc,c5,c6];rfl,?_⟩;simp only [go_sem,qy,qq,qv,qk,reduceIte]
 | false=>refine ⟨_,_,by simp only [go_sem,qy,qq,qv,qk,reduceIte,s84p8,s84p9,s84p10,hb,ht,c1,c2,c3,c4,gx,gy,Building.enc,Street.enc,NL.enc,c5,c6,hm'];rfl,?_⟩;simp only [go_sem,qy,qq,qv,qk,reduceIte]
theorem Fs (s:Sta) (hs:StS s) (i:Nat) (d:Door) (hd:DoS d) (hx:s.Doors[i]? = some d):pfn rE 84 [stA s,I i]=some (.bool (Hg s i d)):=by
 rw [Z5 (f:=84) (c:=c84) rfl rfl,c84_eq];have e0:QP 0 [stA s,I i]=[(0,stA s),(1,I i)]:=rfl;rw [e0];unfold Hg;have fin:∀ (fr:Fr) (h:Hp) (b:Bool),get fr 4=.bool b→frz (fnd [ResVar.tmp 4] (some (.ret,fr,h)))=some (.bool b):=by
  intro fr h b hg;simp only [go_sem,qy,qq,reduceIte,hg]
 cases c1:K8 s i d with
 | false=>
  obtain ⟨fr,h,h1,h2⟩:=(Fm s hs i d hd hx _).2 c1;rw [h1];exact fin fr h false h2
 | true=>
  rw [(Fm s hs i d hd hx _).1 c1,Z38];cases c2:UC d with
  | true=>
   obtain ⟨fr,h,h1,h2⟩:=(Fp s d hd _).2 c2;rw [h1];exact fin fr h false h2
  | false=>
   rw [(Fp s d hd _).1 c2];cases c3:Z3 d.Veil emp with
   | false=>
    obtain ⟨fr,h,h1,h2⟩:=(Fq s d hd (XM d) _).2 c3;rw [h1];exact fin fr h _ h2
   | true=>
    rw [(Fq s d hd (XM d) _).1 c3];obtain ⟨fr,h,h1,h2⟩:=Z3c s hs d hd (XM d);rw [h1];exact fin fr h _ h2
end Go.AM
namespace Go.AM
open Go
structure StE (s:Sta):Prop where
 sizes:StS s
 regions:∀ x∈s.Regions,x.Names.l.length≤100∧x.Ring.l.length≤100∧x.Id.size≤1000
 streets:∀ x∈s.Streets,x.Names.l.length≤100∧x.Line.l.length≤100∧x.Id.size≤1000
 buildings:∀ x∈s.Buildings,x.Ring.l.length≤100∧x.Id.size≤1000
 doors:∀ x∈s.Doors,DoS x
 units:∀ x∈s.Units,x.Id.size≤1000∧x.Door.size≤1000∧x.Text.size≤1000
def Jt (x:Region):Event:=⟨0,0,x.Kind,0,0,x.Id,emp,emp,⟨false,[]⟩,⟨false,[]⟩,⟨0,emp,0,0⟩,⟨0,0⟩,x.Ring,⟨false,[]⟩⟩
def Ju (x:Street):Event:=⟨0,0,0,0,0,x.Id,emp,emp,⟨false,[]⟩,⟨false,[]⟩,⟨0,emp,0,0⟩,⟨0,0⟩,x.Line,⟨false,[]⟩⟩
def Jv (x:Building):Event:=⟨0,0,0,0,0,x.Id,emp,emp,⟨false,[]⟩,⟨false,[]⟩,⟨0,emp,0,0⟩,⟨0,0⟩,x.Ring,⟨false,[]⟩⟩
def Vn (x:Unit'):Event:=⟨0,0,0,0,0,x.Id,x.Door,x.Text,⟨false,[]⟩,⟨false,[]⟩,⟨0,emp,0,0⟩,⟨0,0⟩,⟨false,[]⟩,⟨false,[]⟩⟩
def Vo (x:Region):Bool:=QM x.Owner x.Ended 0&&(Jp x.Names.l x.Names.ex&&Q9 { Jt x with Kind:=1 })
def Vp (x:Street):Bool:=QM x.Owner x.Ended 0&&(Jp x.Names.l x.Names.ex&&Q9 { Ju x with Kind:=2 })
def Vq (x:Building):Bool:=QM x.Owner x.Ended 0&&Q9 { Jv x with Kind:=5 }
def Vr (s:Sta) (i:Nat) (x:Door):Bool:=QM x.Owner x.Ended x.From&&Hg s i x
def QN (s:Sta) (k:Int):Int:=match s.Doors[k.toNat]? with | some d=>d.Ended | none=>0
def Jw (s:Sta) (x:Unit'):Bool:=(x.Ended==-1&&(x.Why != 0||QN s (Zn s x.Door) != -1))||((x.Ended != -1&&x.Why != 12)&&x.Why != 11)
def Vs (s:Sta) (x:Unit'):Bool:=!decide (Zn s x.Door < 0)&&(QM 0 x.Ended x.From&&(Q9 { Vn x with Kind:=7 }&&!Jw s x))
def Jx (s:Sta):Bool:=s.Regions.all Vo&&(s.Streets.all Vp&&(s.Buildings.all Vq&&(Zu (Vr s) 0 s.Doors&&(s.Units.all (Vs s)&&(Jq (Qp s)&&(Wh s.Doors&&WK s))))))
theorem Z3d (s:Sta) (hs:StE s):∃ fr',Zg rE [1,15,16,17] c30L0b [(1,stI s),(15,.isl false false 6 (s.Regions.map Region.enc)),(16,I s.Regions.length),(17,.int .i64 0)] [] =
 some (if Zu (fun _ x=>Vo x) 0 s.Regions=true then .exit 0 else .ret,fr',[])∧(Zu (fun _ x=>Vo x) 0 s.Regions=true→get fr' 1=stI s∧get fr' 2=.bot)∧(Zu (fun _ x=>Vo x) 0 s.Regions=false→get fr' 2=.bool false):=by
 have L:=QT (E:=rE) (live:=[1,15,16,17]) (b:=c30L0b) (h:=[]) s.Regions (fun _ x=>Vo x)
  (fun i=>[(1,stI s),(15,.isl false false 6 (s.Regions.map Region.enc)),(16,I s.Regions.length),(17,I i)]) 0
  (fun fr=>get fr 1=stI s∧get fr 2=.bot) (fun fr=>get fr 2=.bool false) (fun i=>rfl)
  (fun i x hx hP=>by
   have hg:=Z6 (f:=Region.enc) hx;have hi:=Zh (Z7 hx);have hw:=Zx (n:=i) (by have:=Z7 hx;have:=hs.sizes.regions;omega)
   have hm:=List.mem_of_getElem? hx;obtain ⟨z1,z2,z3⟩:=hs.regions x hm;have hnm:=Hc x.Names.l x.Names.ex z1;have hmd:pfn rE 83 [I 1,.agg [I 0,I 0,I x.Kind,I 0,I 0,.str x.Id,.str emp,.str emp,.isl false false 1 [],.isl false false 3 [],I 0,.str emp,I 0,I 0,I 0,I 0,.isl false x.Ring.ex 2 (x.Ring.l.map Pt.enc),.isl false false 7 []]]=some (.bool (Q9 { Jt x with Kind:=1 })):=Wg 1 (Jt x) ⟨Nat.zero_le _,Nat.zero_le _,z2,Nat.zero_le _,z3,Nat.zero_le _,Nat.zero_le _⟩
   simp only [Vo,Bool.and_eq_true] at hP;obtain ⟨p1,p2,p3⟩:=hP;refine ⟨_,by simp only [go_sem,qy,qq,qv,qk,reduceIte,c30L0b,hg,hi,hw,Region.enc,NL.enc,Qc,hnm,hmd,p1,p2,p3];rfl,?_⟩
   simp only [go_sem,qy,qq,qv,qk,reduceIte])
  (fun i x hx hP=>by
   have hg:=Z6 (f:=Region.enc) hx;have hi:=Zh (Z7 hx);have hm:=List.mem_of_getElem? hx;obtain ⟨z1,z2,z3⟩:=hs.regions x hm;have hnm:=Hc x.Names.l x.Names.ex z1;have hmd:pfn rE 83 [I 1,.agg [I 0,I 0,I x.Kind,I 0,I 0,.str x.Id,.str emp,.str emp,.isl false false 1 [],.isl false false 3 [],I 0,.str emp,I 0,I 0,I 0,I 0,.isl false x.Ring.ex 2 (x.Ring.l.map Pt.enc),.isl false false 7 []]]=some (.bool (Q9 { Jt x with Kind:=1 })):=Wg 1 (Jt x) ⟨Nat.zero_le _,Nat.zero_le _,z2,Nat.zero_le _,z3,Nat.zero_le _,Nat.zero_le _⟩
   unfold Vo at hP;cases p1:QM x.Owner x.Ended 0 with
   | false=>
    refine ⟨_,by simp only [go_sem,qy,qq,qv,qk,reduceIte,c30L0b,hg,hi,Region.enc,NL.enc,Qc,p1];rfl,?_⟩
    simp only [go_sem,qy,qq,qv,qk,reduceIte]
   | true=>
   cases p2:Jp x.Names.l x.Names.ex with
   | false=>
    refine ⟨_,by simp only [go_sem,qy,qq,qv,qk,reduceIte,c30L0b,hg,hi,Region.enc,NL.enc,Qc,hnm,p1,p2];rfl,?_⟩
    simp only [go_sem,qy,qq,qv,qk,reduceIte]
   | true=>
    have p3:Q9 { Jt x with Kind:=1 }=false:=by simpa [p1,p2] using hP
    refine ⟨_,by simp only [go_sem,qy,qq,qv,qk,reduceIte,c30L0b,hg,hi,Region.enc,NL.enc,Qc,hnm,hmd,p1,p2,p3];rfl,?_⟩
    simp only [go_sem,qy,qq,qv,qk,reduceIte])
  (⟨_,by simp only [go_sem,qy,qq,qv,qk,reduceIte,c30L0b,ZG];rfl,by refine ⟨?_,?_⟩<;>simp only [go_sem,qy,qq,qv,qk,reduceIte]⟩)
 exact L
theorem Z3e (s:Sta) (hs:StE s):∃ fr',Zg rE [1,46,47,48] c30L1b [(1,stI s),(46,.isl false false 5 (s.Streets.map Street.enc)),(47,I s.Streets.length),(48,.int .i64 0)] [] =
 some (if Zu (fun _ x=>Vp x) 0 s.Streets=true then .exit 2 else .ret,fr',[])∧(Zu (fun _ x=>Vp x) 0 s.Streets=true→get fr' 1=stI s∧get fr' 2=.bot)∧(Zu (fun _ x=>Vp x) 0 s.Streets=false→get fr' 2=.bool false):=by
 have L:=QT (E:=rE) (live:=[1,46,47,48]) (b:=c30L1b) (h:=[]) s.Streets (fun _ x=>Vp x)
  (fun i=>[(1,stI s),(46,.isl false false 5 (s.Streets.map Street.enc)),(47,I s.Streets.length),(48,I i)]) 2
  (fun fr=>get fr 1=stI s∧get fr 2=.bot) (fun fr=>get fr 2=.bool false) (fun i=>rfl)
  (fun i x hx hP=>by
   have hg:=Z6 (f:=Street.enc) hx;have hi:=Zh (Z7 hx);have hw:=Zx (n:=i) (by have:=Z7 hx;have:=hs.sizes.streets;omega)
   have hm:=List.mem_of_getElem? hx;obtain ⟨z1,z2,z3⟩:=hs.streets x hm;have hnm:=Hc x.Names.l x.Names.ex z1;have hmd:pfn rE 83 [I 2,.agg [I 0,I 0,I 0,I 0,I 0,.str x.Id,.str emp,.str emp,.isl false false 1 [],.isl false false 3 [],I 0,.str emp,I 0,I 0,I 0,I 0,.isl false x.Line.ex 2 (x.Line.l.map Pt.enc),.isl false false 7 []]]=some (.bool (Q9 { Ju x with Kind:=2 })):=Wg 2 (Ju x) ⟨Nat.zero_le _,Nat.zero_le _,z2,Nat.zero_le _,z3,Nat.zero_le _,Nat.zero_le _⟩
   simp only [Vp,Bool.and_eq_true] at hP;obtain ⟨p1,p2,p3⟩:=hP;refine ⟨_,by simp only [go_sem,qy,qq,qv,qk,reduceIte,c30L1b,hg,hi,hw,Street.enc,NL.enc,Qc,hnm,hmd,p1,p2,p3];rfl,?_⟩
   simp only [go_sem,qy,qq,qv,qk,reduceIte])
  (fun i x hx hP=>by
   have hg:=Z6 (f:=Street.enc) hx;have hi:=Zh (Z7 hx);have hm:=List.mem_of_getElem? hx;obtain ⟨z1,z2,z3⟩:=hs.streets x hm;have hnm:=Hc x.Names.l x.Names.ex z1;have hmd:pfn rE 83 [I 2,.agg [I 0,I 0,I 0,I 0,I 0,.str x.Id,.str emp,.str emp,.isl false false 1 [],.isl false false 3 [],I 0,.str emp,I 0,I 0,I 0,I 0,.isl false x.Line.ex 2 (x.Line.l.map Pt.enc),.isl false false 7 []]]=some (.bool (Q9 { Ju x with Kind:=2 })):=Wg 2 (Ju x) ⟨Nat.zero_le _,Nat.zero_le _,z2,Nat.zero_le _,z3,Nat.zero_le _,Nat.zero_le _⟩
   unfold Vp at hP;cases p1:QM x.Owner x.Ended 0 with
   | false=>
    refine ⟨_,by simp only [go_sem,qy,qq,qv,qk,reduceIte,c30L1b,hg,hi,Street.enc,NL.enc,Qc,p1];rfl,?_⟩
    simp only [go_sem,qy,qq,qv,qk,reduceIte]
   | true=>
   cases p2:Jp x.Names.l x.Names.ex with
   | false=>
    refine ⟨_,by simp only [go_sem,qy,qq,qv,qk,reduceIte,c30L1b,hg,hi,Street.enc,NL.enc,Qc,hnm,p1,p2];rfl,?_⟩
    simp only [go_sem,qy,qq,qv,qk,reduceIte]
   | true=>
    have p3:Q9 { Ju x with Kind:=2 }=false:=by simpa [p1,p2] using hP
    refine ⟨_,by simp only [go_sem,qy,qq,qv,qk,reduceIte,c30L1b,hg,hi,Street.enc,NL.enc,Qc,hnm,hmd,p1,p2,p3];rfl,?_⟩
    simp only [go_sem,qy,qq,qv,qk,reduceIte])
  (⟨_,by simp only [go_sem,qy,qq,qv,qk,reduceIte,c30L1b,ZG];rfl,by refine ⟨?_,?_⟩<;>simp only [go_sem,qy,qq,qv,qk,reduceIte]⟩)
 exact L
theorem Z3f (s:Sta) (hs:StE s):∃ fr',Zg rE [1,75,76,77] c30L2b [(1,stI s),(75,.isl false false 4 (s.Buildings.map Building.enc)),(76,I s.Buildings.length),(77,.int .i64 0)] [] =
 some (if Zu (fun _ x=>Vq x) 0 s.Buildings=true then .exit 4 else .ret,fr',[])∧(Zu (fun _ x=>Vq x) 0 s.Buildings=true→get fr' 1=stI s∧get fr' 2=.bot)∧(Zu (fun _ x=>Vq x) 0 s.Buildings=false→get fr' 2=.bool false):=by
 have L:=QT (E:=rE) (live:=[1,75,76,77]) (b:=c30L2b) (h:=[]) s.Buildings (fun _ x=>Vq x)
  (fun i=>[(1,stI s),(75,.isl false false 4 (s.Buildings.map Building.enc)),(76,I s.Buildings.length),(77,I i)]) 4
  (fun fr=>get fr 1=stI s∧get fr 2=.bot) (fun fr=>get fr 2=.bool false) (fun i=>rfl)
  (fun i x hx hP=>by
   have hg:=Z6 (f:=Building.enc) hx;have hi:=Zh (Z7 hx);have hw:=Zx (n:=i) (by have:=Z7 hx;have:=hs.sizes.buildings;omega)
   have hm:=List.mem_of_getElem? hx;obtain ⟨z2,z3⟩:=hs.buildings x hm;have hmd:pfn rE 83 [I 5,.agg [I 0,I 0,I 0,I 0,I 0,.str x.Id,.str emp,.str emp,.isl false false 1 [],.isl false false 3 [],I 0,.str emp,I 0,I 0,I 0,I 0,.isl false x.Ring.ex 2 (x.Ring.l.map Pt.enc),.isl false false 7 []]]=some (.bool (Q9 { Jv x with Kind:=5 })):=Wg 5 (Jv x) ⟨Nat.zero_le _,Nat.zero_le _,z2,Nat.zero_le _,z3,Nat.zero_le _,Nat.zero_le _⟩
   simp only [Vq,Bool.and_eq_true] at hP;obtain ⟨p1,p3⟩:=hP;refine ⟨_,by simp only [go_sem,qy,qq,qv,qk,reduceIte,c30L2b,hg,hi,hw,Building.enc,NL.enc,Qc,hmd,p1,p3];rfl,?_⟩
   simp only [go_sem,qy,qq,qv,qk,reduceIte])
  (fun i x hx hP=>by
   have hg:=Z6 (f:=Building.enc) hx;have hi:=Zh (Z7 hx);have hm:=List.mem_of_getElem? hx;obtain ⟨z2,z3⟩:=hs.buildings x hm;have hmd:pfn rE 83 [I 5,.agg [I 0,I 0,I 0,I 0,I 0,.str x.Id,.str emp,.str emp,.isl false false 1 [],.isl false false 3 [],I 0,.str emp,I 0,I 0,I 0,I 0,.isl false x.Ring.ex 2 (x.Ring.l.map Pt.enc),.isl false false 7 []]]=some (.bool (Q9 { Jv x with Kind:=5 })):=Wg 5 (Jv x) ⟨Nat.zero_le _,Nat.zero_le _,z2,Nat.zero_le _,z3,Nat.zero_le _,Nat.zero_le _⟩
   unfold Vq at hP;cases p1:QM x.Owner x.Ended 0 with
   | false=>
    refine ⟨_,by simp only [go_sem,qy,qq,qv,qk,reduceIte,c30L2b,hg,hi,Building.enc,NL.enc,Qc,p1];rfl,?_⟩
    simp only [go_sem,qy,qq,qv,qk,reduceIte]
   | true=>
    have p3:Q9 { Jv x with Kind:=5 }=false:=by simpa [p1] using hP
    refine ⟨_,by simp only [go_sem,qy,qq,qv,qk,reduceIte,c30L2b,hg,hi,Building.enc,NL.enc,Qc,hmd,p1,p3];rfl,?_⟩
    simp only [go_sem,qy,qq,qv,qk,reduceIte])
  (⟨_,by simp only [go_sem,qy,qq,qv,qk,reduceIte,c30L2b,ZG];rfl,by refine ⟨?_,?_⟩<;>simp only [go_sem,qy,qq,qv,qk,reduceIte]⟩)
 exact L
theorem Z3g (s:Sta) (hs:StE s):∃ fr',Zg rE [1,98,99,100] c30L3b [(1,stI s),(98,.isl false false 16 (s.Doors.map Door.enc)),(99,I s.Doors.length),(100,.int .i64 0)] [] =
 some (if Zu (Vr s) 0 s.Doors=true then .exit 6 else .ret,fr',[])∧(Zu (Vr s) 0 s.Doors=true→get fr' 1=stI s∧get fr' 2=.bot)∧(Zu (Vr s) 0 s.Doors=false→get fr' 2=.bool false):=by
 have L:=QT (E:=rE) (live:=[1,98,99,100]) (b:=c30L3b) (h:=[]) s.Doors (Vr s)
  (fun i=>[(1,stI s),(98,.isl false false 16 (s.Doors.map Door.enc)),(99,I s.Doors.length),(100,I i)]) 6
  (fun fr=>get fr 1=stI s∧get fr 2=.bot) (fun fr=>get fr 2=.bool false) (fun i=>rfl)
  (fun i x hx hP=>by
   have hg:=Z6 (f:=Door.enc) hx;have hi:=Zh (Z7 hx);have hw:=Zx (n:=i) (by have:=Z7 hx;have:=hs.sizes.doors;omega)
   have hm:=List.mem_of_getElem? hx;have hst:=Fs s hs.sizes i x (hs.doors x hm) hx;simp only [Vr,Bool.and_eq_true] at hP;obtain ⟨p1,p3⟩:=hP;refine ⟨_,by simp only [go_sem,qy,qq,qv,qk,reduceIte,c30L3b,hg,hi,hw,Door.enc,NL.enc,Qc,hst,p1,p3];rfl,?_⟩
   simp only [go_sem,qy,qq,qv,qk,reduceIte])
  (fun i x hx hP=>by
   have hg:=Z6 (f:=Door.enc) hx;have hi:=Zh (Z7 hx);have hm:=List.mem_of_getElem? hx;have hst:=Fs s hs.sizes i x (hs.doors x hm) hx;unfold Vr at hP;cases p1:QM x.Owner x.Ended x.From with
   | false=>
    refine ⟨_,by simp only [go_sem,qy,qq,qv,qk,reduceIte,c30L3b,hg,hi,Door.enc,NL.enc,Qc,p1];rfl,?_⟩
    simp only [go_sem,qy,qq,qv,qk,reduceIte]
   | true=>
    have p3:Hg s i x=false:=by simpa [p1] using hP
    refine ⟨_,by simp only [go_sem,qy,qq,qv,qk,reduceIte,c30L3b,hg,hi,Door.enc,NL.enc,Qc,hst,p1,p3];rfl,?_⟩
    simp only [go_sem,qy,qq,qv,qk,reduceIte])
  (⟨_,by simp only [go_sem,qy,qq,qv,qk,reduceIte,c30L3b,ZG];rfl,by refine ⟨?_,?_⟩<;>simp only [go_sem,qy,qq,qv,qk,reduceIte]⟩)
 exact L
theorem Z3h (s:Sta) (hs:StE s):∃ fr',Zg rE [1,121,122,123] c30L4b [(1,stI s),(121,.isl false false 6 (s.Units.map Unit'.enc)),(122,I s.Units.length),(123,.int .i64 0)] [] =
 some (if Zu (fun _ x=>Vs s x) 0 s.Units=true then .exit 8 else .ret,fr',[])∧(Zu (fun _ x=>Vs s x) 0 s.Units=true→get fr' 1=stI s∧get fr' 2=.bot)∧(Zu (fun _ x=>Vs s x) 0 s.Units=false→get fr' 2=.bool false):=by
 have L:=QT (E:=rE) (live:=[1,121,122,123]) (b:=c30L4b) (h:=[]) s.Units (fun _ x=>Vs s x)
  (fun i=>[(1,stI s),(121,.isl false false 6 (s.Units.map Unit'.enc)),(122,I s.Units.length),(123,I i)]) 8
  (fun fr=>get fr 1=stI s∧get fr 2=.bot) (fun fr=>get fr 2=.bool false) (fun i=>rfl)
  (fun i x hx hP=>by
   have hg:=Z6 (f:=Unit'.enc) hx;have hi:=Zh (Z7 hx);have hw:=Zx (n:=i) (by have:=Z7 hx;have:=hs.sizes.units;omega)
   have hm:=List.mem_of_getElem? hx;obtain ⟨z1,z2,z3⟩:=hs.units x hm;have hf:=find_ok s hs.sizes x.Door;have hmd:pfn rE 83 [I 7,.agg [I 0,I 0,I 0,I 0,I 0,.str x.Id,.str x.Door,.str x.Text,.isl false false 1 [],.isl false false 3 [],I 0,.str emp,I 0,I 0,I 0,I 0,.isl false false 2 [],.isl false false 7 []]]=some (.bool (Q9 { Vn x with Kind:=7 })):=Wg 7 (Vn x) ⟨Nat.zero_le _,Nat.zero_le _,Nat.zero_le _,Nat.zero_le _,z1,z2,z3⟩
   unfold Vs at hP;have p0:decide (Zn s x.Door < 0)=false:=by cases h:decide (Zn s x.Door < 0)<;>simp_all
   have p1:QM 0 x.Ended x.From=true:=by cases h:QM 0 x.Ended x.From<;>simp_all
   have p2:Q9 { Vn x with Kind:=7 }=true:=by cases h:Q9 { Vn x with Kind:=7 }<;>simp_all
   have p3:Jw s x=false:=by cases h:Jw s x<;>simp_all
   obtain ⟨j,y,hj,hy⟩:=QC p0;have hj':Zn s x.Door=(j:Int):=hj;have gy:=Z6 (f:=Door.enc) hy;have hdE:QN s (Zn s x.Door)=y.Ended:=by rw [hj'];simp [QN,hy]
   unfold Jw at p3;rw [hdE] at p3;rw [hj'] at hf p0;have ne:(x.Ended != -1) = !(x.Ended==-1):=rfl;rw [ne] at p3;cases q1:x.Ended==-1 with
   | true=>
    have ne':(x.Ended != -1)=false:=by rw [ne,q1];rfl
    have q2:(x.Why != 0)=false:=by cases h:x.Why != 0<;>simp_all
    have q3:(y.Ended != -1)=false:=by cases h:y.Ended != -1<;>simp_all
    refine ⟨_,by simp only [go_sem,qy,qq,qv,qk,reduceIte,c30L4b,hg,hi,hw,gy,Unit'.enc,Door.enc,NL.enc,Qc,hf,hmd,p0,p1,p2,q1,q2,q3,ne'];rfl,?_⟩
    simp only [go_sem,qy,qq,qv,qk,reduceIte]
   | false=>
    have ne':(x.Ended != -1)=true:=by rw [ne,q1];rfl
    cases q4:x.Why != 12 with
    | false=>
     refine ⟨_,by simp only [go_sem,qy,qq,qv,qk,reduceIte,c30L4b,hg,hi,hw,gy,Unit'.enc,Door.enc,NL.enc,Qc,hf,hmd,p0,p1,p2,q1,ne',q4];rfl,?_⟩
     simp only [go_sem,qy,qq,qv,qk,reduceIte]
    | true=>
     have q5:(x.Why != 11)=false:=by cases h:x.Why != 11<;>simp_all
     refine ⟨_,by simp only [go_sem,qy,qq,qv,qk,reduceIte,c30L4b,hg,hi,hw,gy,Unit'.enc,Door.enc,NL.enc,Qc,hf,hmd,p0,p1,p2,q1,ne',q4,q5];rfl,?_⟩
     simp only [go_sem,qy,qq,qv,qk,reduceIte])
  (fun i x hx hP=>by
   have hg:=Z6 (f:=Unit'.enc) hx;have hi:=Zh (Z7 hx);have hm:=List.mem_of_getElem? hx;obtain ⟨z1,z2,z3⟩:=hs.units x hm;have hf:=find_ok s hs.sizes x.Door;have hmd:pfn rE 83 [I 7,.agg [I 0,I 0,I 0,I 0,I 0,.str x.Id,.str x.Door,.str x.Text,.isl false false 1 [],.isl false false 3 [],I 0,.str emp,I 0,I 0,I 0,I 0,.isl false false 2 [],.isl false false 7 []]]=some (.bool (Q9 { Vn x with Kind:=7 })):=Wg 7 (Vn x) ⟨Nat.zero_le _,Nat.zero_le _,Nat.zero_le _,Nat.zero_le _,z1,z2,z3⟩
   unfold Vs at hP;cases p0:decide (Zn s x.Door < 0) with
   | true=>
    refine ⟨_,by simp only [go_sem,qy,qq,qv,qk,reduceIte,c30L4b,hg,hi,Unit'.enc,NL.enc,hf,p0];rfl,?_⟩
    simp only [go_sem,qy,qq,qv,qk,reduceIte]
   | false=>
   cases p1:QM 0 x.Ended x.From with
   | false=>
    refine ⟨_,by simp only [go_sem,qy,qq,qv,qk,reduceIte,c30L4b,hg,hi,Unit'.enc,NL.enc,hf,p0,Qc,p1];rfl,?_⟩
    simp only [go_sem,qy,qq,qv,qk,reduceIte]
   | true=>
   cases p2:Q9 { Vn x with Kind:=7 } with
   | false=>
    refine ⟨_,by simp only [go_sem,qy,qq,qv,qk,reduceIte,c30L4b,hg,hi,Unit'.enc,NL.enc,hf,p0,Qc,p1,hmd,p2];rfl,?_⟩
    simp only [go_sem,qy,qq,qv,qk,reduceIte]
   | true=>
   have p3:Jw s x=true:=by simpa [p0,p1,p2] using hP
   obtain ⟨j,y,hj,hy⟩:=QC p0;have hj':Zn s x.Door=(j:Int):=hj;have gy:=Z6 (f:=Door.enc) hy;have hdE:QN s (Zn s x.Door)=y.Ended:=by rw [hj'];simp [QN,hy]
   unfold Jw at p3;rw [hdE] at p3;rw [hj'] at hf p0;have ne:(x.Ended != -1) = !(x.Ended==-1):=rfl;rw [ne] at p3;cases q1:x.Ended==-1 with
   | true=>
    have ne':(x.Ended != -1)=false:=by rw [ne,q1];rfl
    cases q2:x.Why != 0 with
    | true=>
     refine ⟨_,by simp only [go_sem,qy,qq,qv,qk,reduceIte,c30L4b,hg,hi,gy,Unit'.enc,Door.enc,NL.enc,Qc,hf,hmd,p0,p1,p2,q1,q2,ne'];rfl,?_⟩
     simp only [go_sem,qy,qq,qv,qk,reduceIte]
    | false=>
     have q3:(y.Ended != -1)=true:=by simpa [q1,q2] using p3
     refine ⟨_,by simp only [go_sem,qy,qq,qv,qk,reduceIte,c30L4b,hg,hi,gy,Unit'.enc,Door.enc,NL.enc,Qc,hf,hmd,p0,p1,p2,q1,q2,q3,ne'];rfl,?_⟩
     simp only [go_sem,qy,qq,qv,qk,reduceIte]
   | false=>
    have ne':(x.Ended != -1)=true:=by rw [ne,q1];rfl
    have q4:(x.Why != 12)=true:=by cases h:x.Why != 12<;>simp_all
    have q5:(x.Why != 11)=true:=by cases h:x.Why != 11<;>simp_all
    refine ⟨_,by simp only [go_sem,qy,qq,qv,qk,reduceIte,c30L4b,hg,hi,gy,Unit'.enc,Door.enc,NL.enc,Qc,hf,hmd,p0,p1,p2,q1,ne',q4,q5];rfl,?_⟩
    simp only [go_sem,qy,qq,qv,qk,reduceIte])
  (⟨_,by simp only [go_sem,qy,qq,qv,qk,reduceIte,c30L4b,ZG];rfl,by refine ⟨?_,?_⟩<;>simp only [go_sem,qy,qq,qv,qk,reduceIte]⟩)
 exact L
theorem Z3i (s:Sta) (hs:StE s):pfn rE 30 [stA s]=some (.bool (Jx s)):=by
 obtain ⟨f0,a0,b0,d0⟩:=Z3d s hs;obtain ⟨f1,a1,b1,d1⟩:=Z3e s hs;obtain ⟨f2,a2,b2,d2⟩:=Z3f s hs;obtain ⟨f3,a3,b3,d3⟩:=Z3g s hs;obtain ⟨f4,a4,b4,d4⟩:=Z3h s hs;rw [QE] at a0 b0 d0 a1 b1 d1 a2 b2 d2 a4 b4 d4;have hi:=Fd s hs.sizes;have hso:=Fj (Qp s) false (by have h1:=hs.sizes.regions;have h2:=hs.sizes.streets;have h3:=hs.sizes.buildings;have h4:=hs.sizes.doors;have h5:=hs.sizes.units;simp [Qp];omega)
 have hn:=Fk s hs.sizes;have hp:=Z31 s hs.sizes;rw [Z5 (f:=30) rfl rfl];unfold Jx;cases c0:s.Regions.all Vo with
 | false=>rw [c0] at a0;simp only [go_sem,qy,qq,qv,qk,reduceIte,c30,c30L0,a0,d0 c0,Bool.false_eq_true]
 | true=>
 rw [c0,if_pos rfl] at a0;obtain ⟨p0,q0⟩:=b0 c0;cases c1:s.Streets.all Vp with
 | false=>rw [c1] at a1;simp only [go_sem,qy,qq,qv,qk,reduceIte,c30,c30L0,c30L1,a0,p0,q0,a1,d1 c1,Bool.false_eq_true]
 | true=>
 rw [c1,if_pos rfl] at a1;obtain ⟨p1,q1⟩:=b1 c1;cases c2:s.Buildings.all Vq with
 | false=>rw [c2] at a2;simp only [go_sem,qy,qq,qv,qk,reduceIte,c30,c30L0,c30L1,c30L2,a0,p0,q0,a1,p1,q1,a2,d2 c2,Bool.false_eq_true]
 | true=>
 rw [c2,if_pos rfl] at a2;obtain ⟨p2,q2⟩:=b2 c2;cases c3:Zu (Vr s) 0 s.Doors with
 | false=>rw [c3] at a3;simp only [go_sem,qy,qq,qv,qk,reduceIte,c30,c30L0,c30L1,c30L2,c30L3,a0,p0,q0,a1,p1,q1,a2,p2,q2,a3,d3 c3,Bool.false_eq_true]
 | true=>
 rw [c3,if_pos rfl] at a3;obtain ⟨p3,q3⟩:=b3 c3;cases c4:s.Units.all (Vs s) with
 | false=>rw [c4] at a4;simp only [go_sem,qy,qq,qv,qk,reduceIte,c30,c30L0,c30L1,c30L2,c30L3,c30L4,a0,p0,q0,a1,p1,q1,a2,p2,q2,a3,p3,q3,a4,d4 c4,Bool.false_eq_true]
 | true=>
 rw [c4,if_pos rfl] at a4;obtain ⟨p4,q4⟩:=b4 c4;cases c5:Jq (Qp s)<;>cases c6:Wh s.Doors<;>rw [c5] at hso<;>rw [c6] at hn<;>
  simp only [go_sem,qy,qq,qv,qk,reduceIte,c30,c30L0,c30L1,c30L2,c30L3,c30L4,a0,p0,q0,a1,p1,q1,a2,p2,q2,a3,p3,q3,a4,p4,q4,hi,hso,hn,hp]
end Go.AM
namespace Go.AM
open Go
theorem Z3j (a0 a1 a2 a3:AObj) (b:Bool):trimB 4 [a0,a1,a2,a3] b=[a0,a1,a2,a3]:=by cases b<;>rfl
theorem Z3k (a0 a1 a2 a3 a4:AObj) (b:Bool):trimB 5 [a0,a1,a2,a3,a4] b=[a0,a1,a2,a3,a4]:=by cases b<;>rfl
theorem Z3l (a0 a1 a2 a3 a4 a5:AObj) (b:Bool):trimB 6 [a0,a1,a2,a3,a4,a5] b=[a0,a1,a2,a3,a4,a5]:=by cases b<;>rfl
theorem Z3m (a0 a1 a2 a3 a4 a5 a6:AObj) (b:Bool):trimB 7 [a0,a1,a2,a3,a4,a5,a6] b=[a0,a1,a2,a3,a4,a5,a6]:=by cases b<;>rfl
theorem Z3n (a0 a1 a2 a3 a4 a5 a6 a7:AObj) (b:Bool):trimB 8 [a0,a1,a2,a3,a4,a5,a6,a7] b=[a0,a1,a2,a3,a4,a5,a6,a7]:=by cases b<;>rfl
attribute [go_sem] Z3j Z3k Z3l Z3m Z3n
structure Wk where
 s:Sta
 owner:Int
 e:Event
 kn:List Str
structure WkS (w:Wk):Prop where
 s:StS w.s
 e:EvS w.e
 kn:w.kn.length≤100000
theorem Z3o (b i off g:Nat):Zy (.ptr b i off g)=false:=(rfl)
theorem Z3p (b g off len:Nat) (ex:Bool):Zy (.sl b g off len ex)=false:=(rfl)
theorem Z3q (b:Nat):Zy (.mp b)=false:=(rfl)
attribute [go_sem] Z3o Z3p Z3q
end Go.AM
namespace Go.AM
open Go
end Go.AM
namespace Go.AM
open Go
theorem Z3L (s:Sta) (hp:WK s=true) (a:Int):chN s (s.Merged.length+1) a=true:=by
 simp only [WK,Bool.and_eq_true] at hp;obtain ⟨_,_,h3⟩:=hp;rw [List.all_eq_true] at h3;cases hf:s.Merged.find? (fun p=>p.b==a) with
 | some p=>
  have h1:=List.find?_some hf;have h2:=h3 p (List.mem_of_find?_eq_some hf);have:p.b=a:=by simpa using h1
  rw [←this];exact h2
 | none=>
  have ht:XJ s a=-1:=by unfold XJ;rw [hf]
  rw [chN];cases decide (a ≥ 0) with
  | false=>rfl
  | true=>
   rw [cond_true,ht];cases s.Merged.length<;>rfl
end Go.AM
namespace Go.AM
open Go
end Go.AM
namespace Go.AM
open Go
end Go.AM
namespace Go.AM
open Go
end Go.AM
namespace Go.AM
open Go
end Go.AM
namespace Go.AM
open Go
end Go.AM
namespace Go.AM
open Go
end Go.AM
namespace Go.AM
open Go
structure StF (s:Sta):Prop where
 e:StE s
 regions:s.Regions.length≤500
 streets:s.Streets.length≤500
 buildings:s.Buildings.length≤500
 doors:s.Doors.length≤500
 units:s.Units.length≤500
 merged:s.Merged.length≤500
 rulings:s.Rulings.length≤500
structure Same (s s':Sta):Prop where
 regions:s'.Regions.length=s.Regions.length
 streets:s'.Streets.length=s.Streets.length
 buildings:s'.Buildings.length=s.Buildings.length
 doors:s'.Doors.length=s.Doors.length
 units:s'.Units.length=s.Units.length
 merged:s'.Merged.length=s.Merged.length
 rulings:s'.Rulings.length=s.Rulings.length
theorem Same.refl (s:Sta):Same s s:=⟨rfl,rfl,rfl,rfl,rfl,rfl,rfl⟩
theorem Same.trans {a b c:Sta} (h:Same a b) (k:Same b c):Same a c:=⟨k.1.trans h.1,k.2.trans h.2,k.3.trans h.3,k.4.trans h.4,k.5.trans h.5,k.6.trans h.6,k.7.trans h.7⟩
end Go.AM
namespace Go.AM
open Go
def ZU (s:Str):Bool:=!decide ((s.size:Int) > 100)
theorem Vv (bw ex:Bool) (l:List Str) (hl:l.length < 9223372036854775807):pfn rE 132 [.isl bw ex 1 (l.map encS)]=some (.bool (l.all ZU)):=by
 have L:=Uf (E:=rE) (live:=[0,3]) (b:=c132L0b) (h:=[]) l (fun _ x=>ZU x) (fun i=>[(0,.isl bw ex 1 (l.map encS)),(3,I i)]) 0 (fun fr=>get fr 2=.bool false) (fun i=>rfl)
  (fun i x hx hP=>by
   have hg:=Z6 (f:=encS) hx;have hi:=Zh (Z7 hx);have hw:=Zx (n:=i) (by have:=Z7 hx;omega)
   have hP':decide ((x.size:Int) > 100)=false:=by simpa [ZU] using hP
   refine ⟨_,by simp only [go_sem,qy,qq,reduceIte,c132L0b,hg,hi,hw,hP',encS];rfl,?_⟩
   simp only [go_sem,qy,qq,reduceIte])
  (fun i x hx hP=>by
   have hg:=Z6 (f:=encS) hx;have hi:=Zh (Z7 hx);have hP':decide ((x.size:Int) > 100)=true:=by simpa [ZU] using hP
   refine ⟨_,by simp only [go_sem,qy,qq,reduceIte,c132L0b,hg,hi,hP',encS];rfl,?_⟩
   simp only [go_sem,qy,qq,reduceIte])
  (⟨_,by simp only [go_sem,qy,qq,reduceIte,c132L0b,ZG];rfl⟩)
 rw [Z5 (f:=132) rfl rfl];rw [QE] at L;obtain ⟨fr',h1,h2⟩:=L;have h1':Zg rE [0,3] c132L0b [(0,.isl bw ex 1 (l.map encS)),(3,.int .i64 0)] []=_:=h1;cases hc:l.all ZU with
 | true=>rw [hc] at h1';simp only [go_sem,qy,qq,reduceIte,c132,c132L0,h1']
 | false=>
  rw [hc] at h1';have h2':=h2 hc;simp only [go_sem,qy,qq,reduceIte,c132,c132L0,h1',h2',Bool.false_eq_true]
theorem JK (a:Str):pfn rE 132 [.isl false false 1 [.str a]]=some (.bool ([a].all ZU)):=Vv false false [a] (by simp)
theorem HG (a b:Str):pfn rE 132 [.isl false false 1 [.str a,.str b]]=some (.bool ([a,b].all ZU)):=Vv false false [a,b] (by simp)
theorem FP (a b c:Str):pfn rE 132 [.isl false false 1 [.str a,.str b,.str c]]=some (.bool ([a,b,c].all ZU)):=Vv false false [a,b,c] (by simp)
theorem Z4y (a b c d:Str):pfn rE 132 [.isl false false 1 [.str a,.str b,.str c,.str d]]=some (.bool ([a,b,c,d].all ZU)):=Vv false false [a,b,c,d] (by simp)
theorem FQ (a b c d e:Str):pfn rE 132 [.isl false false 1 [.str a,.str b,.str c,.str d,.str e]]=some (.bool ([a,b,c,d,e].all ZU)):=Vv false false [a,b,c,d,e] (by simp)
theorem HH {α:Type} {l:List α} {n i:Nat} {x:α} (h:(l.take n)[i]? = some x):l[i]? = some x∧i < n:=by
 have hi:=Z7 h;rw [List.length_take] at hi;rw [List.getElem?_take_of_lt (by omega)] at h
 exact ⟨h,by omega⟩
theorem FR {α:Type} (l:List α):(decide ((((l.take 10).length:Nat):Int) < (l.length:Int))=true→decide ((((l.take 10).length:Nat):Int) < 10)=false):=by
 intro h;have:=of_decide_eq_true h;rw [List.length_take] at *;exact decide_eq_false (by omega)
def M1 (x:Nm):Bool:=[x.Lang,x.Text].all ZU
def XQ (l:List Nm):Bool:=(l.take 10).all M1&&decide ((l.length:Int)≤10)
theorem UQ (ex:Bool) (l:List Nm):pfn rE 133 [.isl false ex 3 (l.map Nm.enc)]=some (.bool (XQ l)):=by
 have L:=QT (E:=rE) (live:=[0,3]) (b:=c133L0b) (h:=[]) (l.take 10) (fun _ x=>M1 x) (fun i=>[(0,.isl false ex 3 (l.map Nm.enc)),(3,I i)]) 0 (fun fr=>get fr 0=.isl false ex 3 (l.map Nm.enc)∧get fr 2=.bot) (fun fr=>get fr 2=.bool false) (fun i=>rfl)
  (fun i x hx hP=>by
   obtain ⟨hx',hi10⟩:=HH hx;have hg:=Z6 (f:=Nm.enc) hx';have hi:=Zh (Z7 hx');have hw:=Zx (n:=i) (by omega)
   have h10:decide ((i:Int) < 10)=true:=decide_eq_true (by omega)
   have hS:=HG x.Lang x.Text;have hP':[x.Lang,x.Text].all ZU=true:=hP;rw [hP'] at hS;refine ⟨_,by simp only [go_sem,qy,qq,qv,qk,reduceIte,c133L0b,hg,hi,hw,h10,Nm.enc,hS];rfl,?_⟩
   simp only [go_sem,qy,qq,qv,qk,reduceIte])
  (fun i x hx hP=>by
   obtain ⟨hx',hi10⟩:=HH hx;have hg:=Z6 (f:=Nm.enc) hx';have hi:=Zh (Z7 hx');have h10:decide ((i:Int) < 10)=true:=decide_eq_true (by omega)
   have hS:=HG x.Lang x.Text;have hP':[x.Lang,x.Text].all ZU=false:=hP;rw [hP'] at hS;refine ⟨_,by simp only [go_sem,qy,qq,qv,qk,reduceIte,c133L0b,hg,hi,h10,Nm.enc,hS];rfl,?_⟩
   simp only [go_sem,qy,qq,qv,qk,reduceIte])
  (by
   cases c:decide ((((l.take 10).length:Nat):Int) < (l.length:Int)) with
   | true=>
    have h10:=FR l c;exact ⟨_,by simp only [go_sem,qy,qq,qv,qk,reduceIte,c133L0b,c,h10];rfl,by simp only [go_sem,qy,qq,qv,qk,reduceIte],by simp only [go_sem,qy,qq,qv,qk,reduceIte]⟩
   | false=>exact ⟨_,by simp only [go_sem,qy,qq,qv,qk,reduceIte,c133L0b,c];rfl,by simp only [go_sem,qy,qq,qv,qk,reduceIte],by simp only [go_sem,qy,qq,qv,qk,reduceIte]⟩)
 rw [Z5 (f:=133) rfl rfl];rw [QE] at L;obtain ⟨fr',h1,h3,h2⟩:=L;have h1':Zg rE [0,3] c133L0b [(0,.isl false ex 3 (l.map Nm.enc)),(3,.int .i64 0)] []=_:=h1;unfold XQ;cases hc:(l.take 10).all M1 with
 | true=>
  rw [hc] at h1';obtain ⟨q0,q2⟩:=h3 hc;simp only [go_sem,qy,qq,qv,qk,reduceIte,c133,c133L0,h1',q0,q2]
 | false=>
  rw [hc] at h1';have h2':=h2 hc;simp only [go_sem,qy,qq,qv,qk,reduceIte,c133,c133L0,h1',h2',Bool.false_eq_true]
def M2 (x:Ent):Bool:=[x.Id,x.Number.Letter].all ZU
def FT (l:List Ent):Bool:=(l.take 10).all M2
abbrev evI (e:Event):AV:=.iptr false [I e.Kind,I e.Day,I e.A,I e.B,I e.Office,.str e.Id,.str e.Other,.str e.Text,.isl false e.Ids.ex 1 (e.Ids.l.map encS),.isl false e.Names.ex 3 (e.Names.l.map Nm.enc),
 I e.Number.N,.str e.Number.Letter,I e.Number.Num,I e.Number.Den,I e.Point.X,I e.Point.Y,.isl false e.Path.ex 2 (e.Path.l.map Pt.enc),.isl false e.Lst.ex 7 (e.Lst.l.map Ent.enc)]
def Xn (e:Event):Bool:=
 FT e.Lst.l&&([e.Id,e.Other,e.Text,e.Number.Letter].all ZU&&(decide ((e.Ids.l.length:Int)≤10)&&(e.Ids.l.all ZU&&(XQ e.Names.l&&(decide ((e.Path.l.length:Int)≤12)&&decide ((e.Lst.l.length:Int)≤10))))))
theorem Z4z (e:Event):pfn rE 59 [evA e]=some (.bool (Xn e)):=by
 have L:=QT (E:=rE) (live:=[1,3]) (b:=c59L0b) (h:=[]) (e.Lst.l.take 10) (fun _ x=>M2 x) (fun i=>[(1,evI e),(3,I i)]) 0 (fun fr=>get fr 1=evI e∧get fr 2=.bot) (fun fr=>get fr 2=.bool false) (fun i=>rfl)
  (fun i x hx hP=>by
   obtain ⟨hx',hi10⟩:=HH hx;have hg:=Z6 (f:=Ent.enc) hx';have hi:=Zh (Z7 hx');have hw:=Zx (n:=i) (by omega)
   have h10:decide ((i:Int) < 10)=true:=decide_eq_true (by omega)
   have hS:=HG x.Id x.Number.Letter;have hP':[x.Id,x.Number.Letter].all ZU=true:=hP;rw [hP'] at hS;refine ⟨_,by simp only [go_sem,qy,qq,qv,qk,reduceIte,c59L0b,hg,hi,hw,h10,Ent.enc,hS];rfl,?_⟩
   simp only [go_sem,qy,qq,qv,qk,reduceIte])
  (fun i x hx hP=>by
   obtain ⟨hx',hi10⟩:=HH hx;have hg:=Z6 (f:=Ent.enc) hx';have hi:=Zh (Z7 hx');have h10:decide ((i:Int) < 10)=true:=decide_eq_true (by omega)
   have hS:=HG x.Id x.Number.Letter;have hP':[x.Id,x.Number.Letter].all ZU=false:=hP;rw [hP'] at hS;refine ⟨_,by simp only [go_sem,qy,qq,qv,qk,reduceIte,c59L0b,hg,hi,h10,Ent.enc,hS];rfl,?_⟩
   simp only [go_sem,qy,qq,qv,qk,reduceIte])
  (by
   cases c:decide ((((e.Lst.l.take 10).length:Nat):Int) < (e.Lst.l.length:Int)) with
   | true=>
    have h10:=FR e.Lst.l c;exact ⟨_,by simp only [go_sem,qy,qq,qv,qk,reduceIte,c59L0b,c,h10];rfl,by simp only [go_sem,qy,qq,qv,qk,reduceIte],by simp only [go_sem,qy,qq,qv,qk,reduceIte]⟩
   | false=>exact ⟨_,by simp only [go_sem,qy,qq,qv,qk,reduceIte,c59L0b,c];rfl,by simp only [go_sem,qy,qq,qv,qk,reduceIte],by simp only [go_sem,qy,qq,qv,qk,reduceIte]⟩)
 rw [Z5 (f:=59) rfl rfl];rw [QE] at L;obtain ⟨fr',h1,h3,h2⟩:=L;have h1':Zg rE [1,3] c59L0b [(1,evI e),(3,.int .i64 0)] []=_:=h1;have hS:=Z4y e.Id e.Other e.Text e.Number.Letter;have hN:=UQ e.Names.ex e.Names.l;unfold Xn FT;cases hc:(e.Lst.l.take 10).all M2 with
 | false=>
  rw [hc] at h1';have h2':=h2 hc;simp only [evI] at h1';simp only [go_sem,qy,qq,qv,qk,reduceIte,c59,c59L0,h1',h2',Bool.false_eq_true]
 | true=>
  rw [hc] at h1';obtain ⟨q1,q2⟩:=h3 hc;simp only [evI] at h1' q1;cases c1:[e.Id,e.Other,e.Text,e.Number.Letter].all ZU with
  | false=>rw [c1] at hS;simp only [go_sem,qy,qq,qv,qk,reduceIte,c59,c59L0,h1',q1,q2,hS]
  | true=>
  rw [c1] at hS;cases c2:decide ((e.Ids.l.length:Int)≤10) with
  | false=>simp only [go_sem,qy,qq,qv,qk,reduceIte,c59,c59L0,h1',q1,q2,hS,c2]
  | true=>
  have hI:=Vv false e.Ids.ex e.Ids.l (by have:=of_decide_eq_true c2;omega)
  cases c3:e.Ids.l.all ZU with
  | false=>rw [c3] at hI;simp only [go_sem,qy,qq,qv,qk,reduceIte,c59,c59L0,h1',q1,q2,hS,c2,hI]
  | true=>
  rw [c3] at hI;cases c4:XQ e.Names.l with
  | false=>rw [c4] at hN;simp only [go_sem,qy,qq,qv,qk,reduceIte,c59,c59L0,h1',q1,q2,hS,c2,hI,hN]
  | true=>
  rw [c4] at hN;cases c5:decide ((e.Path.l.length:Int)≤12) with
  | false=>simp only [go_sem,qy,qq,qv,qk,reduceIte,c59,c59L0,h1',q1,q2,hS,c2,hI,hN,c5]
  | true=>simp only [go_sem,qy,qq,qv,qk,reduceIte,c59,c59L0,h1',q1,q2,hS,c2,hI,hN,c5]
theorem JL (e:Event) (h:Xn e=true):EvS e:=by
 simp only [Xn,Bool.and_eq_true] at h;obtain ⟨_,h1,h2,h3,h4,h5,h6⟩:=h;have k2:=of_decide_eq_true h2;have k5:=of_decide_eq_true h5;have k6:=of_decide_eq_true h6;have k4:(e.Names.l.length:Int)≤10:=by
  simp only [XQ,Bool.and_eq_true] at h4;exact of_decide_eq_true h4.2
 simp [ZU] at h1;exact ⟨by omega,by omega,by omega,by omega,by omega,by omega,by omega⟩
end Go.AM
namespace Go.AM
open Go
def WQ (x:Region):Bool:=[x.Id].all ZU&&(XQ x.Names.l&&(!decide ((x.Ring.l.length:Int) > 12)))
def WR (x:Street):Bool:=[x.Id].all ZU&&(XQ x.Names.l&&(!decide ((x.Line.l.length:Int) > 12)))
def WS (x:Building):Bool:=[x.Id].all ZU&&(!decide ((x.Ring.l.length:Int) > 12))
def WT (x:Door):Bool:=[x.Id,x.Building,x.Street,x.Number.Letter,x.Veil].all ZU&&(!decide ((x.After.l.length:Int) > 10)&&(x.After.l.all ZU))
def WU (x:Unit'):Bool:=[x.Id,x.Door,x.Text].all ZU
theorem Z4A (s:Sta) (hl:s.Regions.length≤1000):∃ fr',Zg rE [1,3] c58L0b [(1,stI s),(3,.int .i64 0)] []=some (if s.Regions.all WQ=true then .exit 0 else .ret,fr',[])∧(s.Regions.all WQ=true→get fr' 1=stI s∧get fr' 2=.bot)∧(s.Regions.all WQ=false→get fr' 2=.bool false):=by
 have L:=QT (E:=rE) (live:=[1,3]) (b:=c58L0b) (h:=[]) s.Regions (fun _ x=>WQ x) (fun i=>[(1,stI s),(3,I i)]) 0 (fun fr=>get fr 1=stI s∧get fr 2=.bot) (fun fr=>get fr 2=.bool false) (fun i=>rfl)
  (fun i x hx hP=>by
   have hg:=Z6 (f:=Region.enc) hx;have hi:=Zh (Z7 hx);have hw:=Zx (n:=i) (by have:=Z7 hx;omega)
   have hS:=JK x.Id;have hN:=UQ x.Names.ex x.Names.l;simp only [WQ,Bool.and_eq_true,Bool.not_eq_true'] at hP;obtain ⟨p0,p1,p2⟩:=hP;rw [p0] at hS;rw [p1] at hN;refine ⟨_,by simp only [go_sem,qy,qq,qv,qk,reduceIte,c58L0b,hg,hi,hw,Region.enc,NL.enc,hS,hN,p2];rfl,?_⟩
   simp only [go_sem,qy,qq,qv,qk,reduceIte])
  (fun i x hx hP=>by
   have hg:=Z6 (f:=Region.enc) hx;have hi:=Zh (Z7 hx);have hS:=JK x.Id;have hN:=UQ x.Names.ex x.Names.l;unfold WQ at hP;cases c0:[x.Id].all ZU with
   | false=>
    rw [c0] at hS;refine ⟨_,by simp only [go_sem,qy,qq,qv,qk,reduceIte,c58L0b,hg,hi,Region.enc,NL.enc,hS];rfl,?_⟩
    simp only [go_sem,qy,qq,qv,qk,reduceIte]
   | true=>
   rw [c0] at hS hP;cases c1:XQ x.Names.l with
   | false=>
    rw [c1] at hN;refine ⟨_,by simp only [go_sem,qy,qq,qv,qk,reduceIte,c58L0b,hg,hi,Region.enc,NL.enc,hS,hN];rfl,?_⟩
    simp only [go_sem,qy,qq,qv,qk,reduceIte]
   | true=>
   rw [c1] at hN hP;cases c2:decide ((x.Ring.l.length:Int) > 12) with
   | true=>
    refine ⟨_,by simp only [go_sem,qy,qq,qv,qk,reduceIte,c58L0b,hg,hi,Region.enc,NL.enc,hS,hN,c2];rfl,?_⟩
    simp only [go_sem,qy,qq,qv,qk,reduceIte]
   | false=>
   rw [c2] at hP;cases hP)
  (⟨_,by simp only [go_sem,qy,qq,qv,qk,reduceIte,c58L0b,ZG];rfl,by simp only [go_sem,qy,qq,qv,qk,reduceIte],by simp only [go_sem,qy,qq,qv,qk,reduceIte]⟩)
 rw [QE] at L;exact L
theorem Z4B (s:Sta) (hl:s.Streets.length≤1000):∃ fr',Zg rE [1,4] c58L1b [(1,stI s),(4,.int .i64 0)] []=some (if s.Streets.all WR=true then .exit 2 else .ret,fr',[])∧(s.Streets.all WR=true→get fr' 1=stI s∧get fr' 2=.bot)∧(s.Streets.all WR=false→get fr' 2=.bool false):=by
 have L:=QT (E:=rE) (live:=[1,4]) (b:=c58L1b) (h:=[]) s.Streets (fun _ x=>WR x) (fun i=>[(1,stI s),(4,I i)]) 2 (fun fr=>get fr 1=stI s∧get fr 2=.bot) (fun fr=>get fr 2=.bool false) (fun i=>rfl)
  (fun i x hx hP=>by
   have hg:=Z6 (f:=Street.enc) hx;have hi:=Zh (Z7 hx);have hw:=Zx (n:=i) (by have:=Z7 hx;omega)
   have hS:=JK x.Id;have hN:=UQ x.Names.ex x.Names.l;simp only [WR,Bool.and_eq_true,Bool.not_eq_true'] at hP;obtain ⟨p0,p1,p2⟩:=hP;rw [p0] at hS;rw [p1] at hN;refine ⟨_,by simp only [go_sem,qy,qq,qv,qk,reduceIte,c58L1b,hg,hi,hw,Street.enc,NL.enc,hS,hN,p2];rfl,?_⟩
   simp only [go_sem,qy,qq,qv,qk,reduceIte])
  (fun i x hx hP=>by
   have hg:=Z6 (f:=Street.enc) hx;have hi:=Zh (Z7 hx);have hS:=JK x.Id;have hN:=UQ x.Names.ex x.Names.l;unfold WR at hP;cases c0:[x.Id].all ZU with
   | false=>
    rw [c0] at hS;refine ⟨_,by simp only [go_sem,qy,qq,qv,qk,reduceIte,c58L1b,hg,hi,Street.enc,NL.enc,hS];rfl,?_⟩
    simp only [go_sem,qy,qq,qv,qk,reduceIte]
   | true=>
   rw [c0] at hS hP;cases c1:XQ x.Names.l with
   | false=>
    rw [c1] at hN;refine ⟨_,by simp only [go_sem,qy,qq,qv,qk,reduceIte,c58L1b,hg,hi,Street.enc,NL.enc,hS,hN];rfl,?_⟩
    simp only [go_sem,qy,qq,qv,qk,reduceIte]
   | true=>
   rw [c1] at hN hP;cases c2:decide ((x.Line.l.length:Int) > 12) with
   | true=>
    refine ⟨_,by simp only [go_sem,qy,qq,qv,qk,reduceIte,c58L1b,hg,hi,Street.enc,NL.enc,hS,hN,c2];rfl,?_⟩
    simp only [go_sem,qy,qq,qv,qk,reduceIte]
   | false=>
   rw [c2] at hP;cases hP)
  (⟨_,by simp only [go_sem,qy,qq,qv,qk,reduceIte,c58L1b,ZG];rfl,by simp only [go_sem,qy,qq,qv,qk,reduceIte],by simp only [go_sem,qy,qq,qv,qk,reduceIte]⟩)
 rw [QE] at L;exact L
theorem Z4C (s:Sta) (hl:s.Buildings.length≤1000):∃ fr',Zg rE [1,5] c58L2b [(1,stI s),(5,.int .i64 0)] []=some (if s.Buildings.all WS=true then .exit 4 else .ret,fr',[])∧(s.Buildings.all WS=true→get fr' 1=stI s∧get fr' 2=.bot)∧(s.Buildings.all WS=false→get fr' 2=.bool false):=by
 have L:=QT (E:=rE) (live:=[1,5]) (b:=c58L2b) (h:=[]) s.Buildings (fun _ x=>WS x) (fun i=>[(1,stI s),(5,I i)]) 4 (fun fr=>get fr 1=stI s∧get fr 2=.bot) (fun fr=>get fr 2=.bool false) (fun i=>rfl)
  (fun i x hx hP=>by
   have hg:=Z6 (f:=Building.enc) hx;have hi:=Zh (Z7 hx);have hw:=Zx (n:=i) (by have:=Z7 hx;omega)
   have hS:=JK x.Id;simp only [WS,Bool.and_eq_true,Bool.not_eq_true'] at hP;obtain ⟨p0,p1⟩:=hP;rw [p0] at hS;refine ⟨_,by simp only [go_sem,qy,qq,qv,qk,reduceIte,c58L2b,hg,hi,hw,Building.enc,NL.enc,hS,p1];rfl,?_⟩
   simp only [go_sem,qy,qq,qv,qk,reduceIte])
  (fun i x hx hP=>by
   have hg:=Z6 (f:=Building.enc) hx;have hi:=Zh (Z7 hx);have hS:=JK x.Id;unfold WS at hP;cases c0:[x.Id].all ZU with
   | false=>
    rw [c0] at hS;refine ⟨_,by simp only [go_sem,qy,qq,qv,qk,reduceIte,c58L2b,hg,hi,Building.enc,NL.enc,hS];rfl,?_⟩
    simp only [go_sem,qy,qq,qv,qk,reduceIte]
   | true=>
   rw [c0] at hS hP;cases c2:decide ((x.Ring.l.length:Int) > 12) with
   | true=>
    refine ⟨_,by simp only [go_sem,qy,qq,qv,qk,reduceIte,c58L2b,hg,hi,Building.enc,NL.enc,hS,c2];rfl,?_⟩
    simp only [go_sem,qy,qq,qv,qk,reduceIte]
   | false=>
   rw [c2] at hP;cases hP)
  (⟨_,by simp only [go_sem,qy,qq,qv,qk,reduceIte,c58L2b,ZG];rfl,by simp only [go_sem,qy,qq,qv,qk,reduceIte],by simp only [go_sem,qy,qq,qv,qk,reduceIte]⟩)
 rw [QE] at L;exact L
theorem Z4D (s:Sta) (hl:s.Doors.length≤1000):∃ fr',Zg rE [1,6] c58L3b [(1,stI s),(6,.int .i64 0)] []=some (if s.Doors.all WT=true then .exit 6 else .ret,fr',[])∧(s.Doors.all WT=true→get fr' 1=stI s∧get fr' 2=.bot)∧(s.Doors.all WT=false→get fr' 2=.bool false):=by
 have L:=QT (E:=rE) (live:=[1,6]) (b:=c58L3b) (h:=[]) s.Doors (fun _ x=>WT x) (fun i=>[(1,stI s),(6,I i)]) 6 (fun fr=>get fr 1=stI s∧get fr 2=.bot) (fun fr=>get fr 2=.bool false) (fun i=>rfl)
  (fun i x hx hP=>by
   have hg:=Z6 (f:=Door.enc) hx;have hi:=Zh (Z7 hx);have hw:=Zx (n:=i) (by have:=Z7 hx;omega)
   have hS:=FQ x.Id x.Building x.Street x.Number.Letter x.Veil;simp only [WT,Bool.and_eq_true,Bool.not_eq_true'] at hP;obtain ⟨p0,p1,p2⟩:=hP;rw [p0] at hS;have hA:=Vv false x.After.ex x.After.l (by have:=of_decide_eq_false p1;omega)
   rw [p2] at hA;refine ⟨_,by simp only [go_sem,qy,qq,qv,qk,reduceIte,c58L3b,hg,hi,hw,Door.enc,NL.enc,hS,p1,hA];rfl,?_⟩
   simp only [go_sem,qy,qq,qv,qk,reduceIte])
  (fun i x hx hP=>by
   have hg:=Z6 (f:=Door.enc) hx;have hi:=Zh (Z7 hx);have hS:=FQ x.Id x.Building x.Street x.Number.Letter x.Veil;unfold WT at hP;cases c0:[x.Id,x.Building,x.Street,x.Number.Letter,x.Veil].all ZU with
   | false=>
    rw [c0] at hS;refine ⟨_,by simp only [go_sem,qy,qq,qv,qk,reduceIte,c58L3b,hg,hi,Door.enc,NL.enc,hS];rfl,?_⟩
    simp only [go_sem,qy,qq,qv,qk,reduceIte]
   | true=>
   rw [c0] at hS hP;cases c2:decide ((x.After.l.length:Int) > 10) with
   | true=>
    refine ⟨_,by simp only [go_sem,qy,qq,qv,qk,reduceIte,c58L3b,hg,hi,Door.enc,NL.enc,hS,c2];rfl,?_⟩
    simp only [go_sem,qy,qq,qv,qk,reduceIte]
   | false=>
   rw [c2] at hP;have hA:=Vv false x.After.ex x.After.l (by have:=of_decide_eq_false c2;omega)
   cases c3:x.After.l.all ZU with
   | false=>
    rw [c3] at hA;refine ⟨_,by simp only [go_sem,qy,qq,qv,qk,reduceIte,c58L3b,hg,hi,Door.enc,NL.enc,hS,c2,hA];rfl,?_⟩
    simp only [go_sem,qy,qq,qv,qk,reduceIte]
   | true=>rw [c3] at hP;cases hP)
  (⟨_,by simp only [go_sem,qy,qq,qv,qk,reduceIte,c58L3b,ZG];rfl,by simp only [go_sem,qy,qq,qv,qk,reduceIte],by simp only [go_sem,qy,qq,qv,qk,reduceIte]⟩)
 rw [QE] at L;exact L
theorem Z4E (s:Sta) (hl:s.Units.length≤1000):∃ fr',Zg rE [1,8] c58L4b [(1,stI s),(8,.int .i64 0)] []=some (if s.Units.all WU=true then .exit 8 else .ret,fr',[])∧(s.Units.all WU=true→get fr' 1=stI s∧get fr' 2=.bot)∧(s.Units.all WU=false→get fr' 2=.bool false):=by
 have L:=QT (E:=rE) (live:=[1,8]) (b:=c58L4b) (h:=[]) s.Units (fun _ x=>WU x) (fun i=>[(1,stI s),(8,I i)]) 8 (fun fr=>get fr 1=stI s∧get fr 2=.bot) (fun fr=>get fr 2=.bool false) (fun i=>rfl)
  (fun i x hx hP=>by
   have hg:=Z6 (f:=Unit'.enc) hx;have hi:=Zh (Z7 hx);have hw:=Zx (n:=i) (by have:=Z7 hx;omega)
   have hS:=FP x.Id x.Door x.Text;simp only [WU,Bool.and_eq_true,Bool.not_eq_true'] at hP;have p0:=hP;rw [p0] at hS;refine ⟨_,by simp only [go_sem,qy,qq,qv,qk,reduceIte,c58L4b,hg,hi,hw,Unit'.enc,NL.enc,hS];rfl,?_⟩
   simp only [go_sem,qy,qq,qv,qk,reduceIte])
  (fun i x hx hP=>by
   have hg:=Z6 (f:=Unit'.enc) hx;have hi:=Zh (Z7 hx);have hS:=FP x.Id x.Door x.Text;unfold WU at hP;cases c0:[x.Id,x.Door,x.Text].all ZU with
   | false=>
    rw [c0] at hS;refine ⟨_,by simp only [go_sem,qy,qq,qv,qk,reduceIte,c58L4b,hg,hi,Unit'.enc,NL.enc,hS];rfl,?_⟩
    simp only [go_sem,qy,qq,qv,qk,reduceIte]
   | true=>
   rw [c0] at hS hP;cases hP)
  (⟨_,by simp only [go_sem,qy,qq,qv,qk,reduceIte,c58L4b,ZG];rfl,by simp only [go_sem,qy,qq,qv,qk,reduceIte],by simp only [go_sem,qy,qq,qv,qk,reduceIte]⟩)
 rw [QE] at L;exact L
def M3 (s:Sta):Bool:=!decide ((s.Regions.length:Int) > 8)&&(!decide ((s.Streets.length:Int) > 8)&&(!decide ((s.Buildings.length:Int) > 8)&&(!decide ((s.Doors.length:Int) > 16)&&(!decide ((s.Units.length:Int) > 10)&&(!decide ((s.Merged.length:Int) > 10)&&!decide ((s.Rulings.length:Int) > 10))))))
def YQ (s:Sta):Bool:=M3 s&&(s.Regions.all WQ&&(s.Streets.all WR&&(s.Buildings.all WS&&(s.Doors.all WT&&s.Units.all WU))))
theorem Z4F (s:Sta):pfn rE 58 [stA s]=some (.bool (YQ s)):=by
 rw [Z5 (f:=58) rfl rfl];unfold YQ M3;cases d0:decide ((s.Regions.length:Int) > 8) with
 | true=>simp only [go_sem,qy,qq,reduceIte,c58,d0]
 | false=>
 cases d1:decide ((s.Streets.length:Int) > 8) with
 | true=>simp only [go_sem,qy,qq,reduceIte,c58,d0,d1]
 | false=>
 cases d2:decide ((s.Buildings.length:Int) > 8) with
 | true=>simp only [go_sem,qy,qq,reduceIte,c58,d0,d1,d2]
 | false=>
 cases d3:decide ((s.Doors.length:Int) > 16) with
 | true=>simp only [go_sem,qy,qq,reduceIte,c58,d0,d1,d2,d3]
 | false=>
 cases d4:decide ((s.Units.length:Int) > 10) with
 | true=>simp only [go_sem,qy,qq,reduceIte,c58,d0,d1,d2,d3,d4]
 | false=>
 cases d5:decide ((s.Merged.length:Int) > 10) with
 | true=>simp only [go_sem,qy,qq,reduceIte,c58,d0,d1,d2,d3,d4,d5]
 | false=>
 cases d6:decide ((s.Rulings.length:Int) > 10) with
 | true=>simp only [go_sem,qy,qq,reduceIte,c58,d0,d1,d2,d3,d4,d5,d6]
 | false=>
 obtain ⟨f0,l0,a0,b0⟩:=Z4A s (by have:=of_decide_eq_false d0;omega)
 simp only [stI] at l0 a0;cases e0:s.Regions.all WQ with
 | false=>
  rw [e0] at l0;simp only [go_sem,qy,qq,reduceIte,c58,d0,d1,d2,d3,d4,d5,d6,c58L0,l0,b0 e0,Bool.false_eq_true]
 | true=>
 rw [e0] at l0;obtain ⟨q0,r0⟩:=a0 e0;obtain ⟨f1,l1,a1,b1⟩:=Z4B s (by have:=of_decide_eq_false d1;omega)
 simp only [stI] at l1 a1;cases e1:s.Streets.all WR with
 | false=>
  rw [e1] at l1;simp only [go_sem,qy,qq,reduceIte,c58,d0,d1,d2,d3,d4,d5,d6,c58L0,l0,q0,r0,c58L1,l1,b1 e1,Bool.false_eq_true]
 | true=>
 rw [e1] at l1;obtain ⟨q1,r1⟩:=a1 e1;obtain ⟨f2,l2,a2,b2⟩:=Z4C s (by have:=of_decide_eq_false d2;omega)
 simp only [stI] at l2 a2;cases e2:s.Buildings.all WS with
 | false=>
  rw [e2] at l2;simp only [go_sem,qy,qq,reduceIte,c58,d0,d1,d2,d3,d4,d5,d6,c58L0,l0,q0,r0,c58L1,l1,q1,r1,c58L2,l2,b2 e2,Bool.false_eq_true]
 | true=>
 rw [e2] at l2;obtain ⟨q2,r2⟩:=a2 e2;obtain ⟨f3,l3,a3,b3⟩:=Z4D s (by have:=of_decide_eq_false d3;omega)
 simp only [stI] at l3 a3;cases e3:s.Doors.all WT with
 | false=>
  rw [e3] at l3;simp only [go_sem,qy,qq,reduceIte,c58,d0,d1,d2,d3,d4,d5,d6,c58L0,l0,q0,r0,c58L1,l1,q1,r1,c58L2,l2,q2,r2,c58L3,l3,b3 e3,Bool.false_eq_true]
 | true=>
 rw [e3] at l3;obtain ⟨q3,r3⟩:=a3 e3;obtain ⟨f4,l4,a4,b4⟩:=Z4E s (by have:=of_decide_eq_false d4;omega)
 simp only [stI] at l4 a4;cases e4:s.Units.all WU with
 | false=>
  rw [e4] at l4;simp only [go_sem,qy,qq,reduceIte,c58,d0,d1,d2,d3,d4,d5,d6,c58L0,l0,q0,r0,c58L1,l1,q1,r1,c58L2,l2,q2,r2,c58L3,l3,q3,r3,c58L4,l4,b4 e4,Bool.false_eq_true]
 | true=>
 rw [e4] at l4;obtain ⟨q4,r4⟩:=a4 e4;simp only [go_sem,qy,qq,reduceIte,c58,d0,d1,d2,d3,d4,d5,d6,c58L0,l0,q0,r0,c58L1,l1,q1,r1,c58L2,l2,q2,r2,c58L3,l3,q3,r3,c58L4,l4,q4,r4,if_true]
theorem Kl (s:Sta) (h:YQ s=true):StF s:=by
 simp only [YQ,M3,Bool.and_eq_true,Bool.not_eq_true'] at h;obtain ⟨⟨d0,d1,d2,d3,d4,d5,d6⟩,e0,e1,e2,e3,e4⟩:=h;have k0:=of_decide_eq_false d0;have k1:=of_decide_eq_false d1;have k2:=of_decide_eq_false d2;have k3:=of_decide_eq_false d3;have k4:=of_decide_eq_false d4;have k5:=of_decide_eq_false d5;have k6:=of_decide_eq_false d6;have hN:∀ l:List Nm,XQ l=true→l.length≤100:=fun l hl=>by
  simp only [XQ,Bool.and_eq_true] at hl;have:=of_decide_eq_true hl.2;omega
 rw [List.all_eq_true] at e0 e1 e2 e3 e4;refine ⟨⟨⟨by omega,by omega,by omega,by omega,by omega,by omega,by omega⟩,fun x hx=>?_,fun x hx=>?_,fun x hx=>?_,fun x hx=>?_,fun x hx=>?_⟩,by omega,by omega,by omega,by omega,by omega,by omega,by omega⟩
 ·have:=e0 x hx;simp only [WQ,Bool.and_eq_true,Bool.not_eq_true'] at this;obtain ⟨p0,p1,p2⟩:=this;have p2':=of_decide_eq_false p2;simp [ZU] at p0;exact ⟨hN _ p1,by omega,by omega⟩
 ·have:=e1 x hx;simp only [WR,Bool.and_eq_true,Bool.not_eq_true'] at this;obtain ⟨p0,p1,p2⟩:=this;have p2':=of_decide_eq_false p2;simp [ZU] at p0;exact ⟨hN _ p1,by omega,by omega⟩
 ·have:=e2 x hx;simp only [WS,Bool.and_eq_true,Bool.not_eq_true'] at this;obtain ⟨p0,p2⟩:=this;have p2':=of_decide_eq_false p2;simp [ZU] at p0;exact ⟨by omega,by omega⟩
 ·have:=e3 x hx;simp only [WT,Bool.and_eq_true,Bool.not_eq_true'] at this;obtain ⟨p0,p1,p2⟩:=this;have p1':=of_decide_eq_false p1;simp [ZU] at p0;exact ⟨by omega,by omega,by omega,by omega,by omega⟩
 ·have:=e4 x hx;simp only [WU] at this;simp [ZU] at this;exact ⟨by omega,by omega,by omega⟩
end Go.AM
namespace Go.AM
open Go
end Go.AM
namespace Go.AM
open Go
def zEv:Event:=⟨0,0,0,0,0,emp,emp,emp,⟨false,[]⟩,⟨false,[]⟩,⟨0,emp,0,0⟩,⟨0,0⟩,⟨false,[]⟩,⟨false,[]⟩⟩
end Go.AM
namespace Go.AM
open Go
def ZcX:List (List UInt8)→List (List UInt8)
 | []=>[]
 | a::r=>match ZcX r with
  | []=>[a]
  | b::s=>if a=b then b::s else a::b::s
theorem ZdC:∀ l:List (List UInt8),Ys (l.map Qd)=(ZcX l).map Qd
 | []=>rfl
 | a::r=>by
  rw [List.map_cons];unfold Ys ZcX;rw [ZdC r];cases ZcX r with
  | nil=>rfl
  | cons b s=>
   have e:sameKey (Qd a) (Qd b)=decide (a=b):=by
    show Z3 _ _=_
    unfold Z3;have e1:(⟨a.toArray⟩:ByteArray).data.toList=a:=by simp
    have e2:(⟨b.toArray⟩:ByteArray).data.toList=b:=by simp
    rw [e1,e2];by_cases h:a=b
    ·subst h;simp
    ·rw [decide_eq_false h];simpa using h
   show (bif sameKey (Qd a) (Qd b) then _ else _)=_
   rw [e];by_cases h:a=b
   ·simp [h]
   ·simp [h]
theorem Ze5 (a:List UInt8) (r:List (List UInt8)):∃ t,ZcX (a::r)=a::t∧t.length≤r.length:=by
 induction r generalizing a with
 | nil=>exact ⟨[],rfl,Nat.le_refl _⟩
 | cons b s ih=>
  obtain ⟨t,h1,h2⟩:=ih b;unfold ZcX;rw [h1];by_cases h:a=b
  ·subst h;exact ⟨t,by simp,by simp;omega⟩
  ·exact ⟨b::t,by simp [h],by simp;omega⟩
def Adj:List (List UInt8)→Prop
 | []=>True
 | [_]=>True
 | a::b::r=>a≠b∧Adj (b::r)
theorem ZdD:∀ l:List (List UInt8),(ZcX l).length=l.length↔Adj l
 | []=>⟨fun _=>trivial,fun _=>rfl⟩
 | [a]=>⟨fun _=>trivial,fun _=>rfl⟩
 | a::b::r=>by
  have ih:=ZdD (b::r);obtain ⟨t,h1,h2⟩:=Ze5 b r;rw [h1] at ih;unfold Adj;rw [←ih];unfold ZcX;rw [h1];by_cases h:a=b
  ·subst h;simp;omega
  ·simp [h]
theorem ZdE:∀ l:List (List UInt8),l.Pairwise (fun a b=>leB a b=true)→Adj l→l.Nodup
 | [],_,_=>.nil
 | [a],_,_=>by simp
 | a::b::r,hs,h=>by
  unfold Adj at h;rw [List.pairwise_cons] at hs;have ih:=ZdE (b::r) hs.2 h.2;rw [List.nodup_cons];refine ⟨fun hm=>?_,ih⟩
  rcases List.mem_cons.1 hm with e | hm
  ·exact h.1 e
  ·have hb:=(List.pairwise_cons.1 hs.2).1 a hm;exact h.1 (ET _ _ (hs.1 b (List.mem_cons_self ..)) hb)
theorem ZdF:∀ l:List (List UInt8),l.Nodup→Adj l
 | [],_=>trivial
 | [a],_=>trivial
 | a::b::r,h=>by
  rw [List.nodup_cons] at h;exact ⟨fun e=>h.1 (by rw [e];exact List.mem_cons_self ..),ZdF (b::r) h.2⟩
theorem bytes_inj {a b:Str} (h:a.data.toList=b.data.toList):a=b:=by
 obtain ⟨⟨a⟩⟩:=a;obtain ⟨⟨b⟩⟩:=b;have:a=b:=h;rw [this]
theorem ZdG {α β:Type} {f:α→β} (hf:∀ a b,f a=f b→a=b):∀ {l:List α},(l.map f).Nodup↔l.Nodup
 | []=>by simp
 | a::r=>by
  rw [List.map_cons,List.nodup_cons,List.nodup_cons,ZdG hf];refine and_congr_left fun _=>not_congr ⟨fun h=>?_,fun h=>List.mem_map_of_mem h⟩
  obtain ⟨b,hb,e⟩:=List.mem_map.1 h;rw [←hf _ _ e];exact hb
theorem Ze6 (l:List Str):l.map encS=(l.map (fun x:Str=>x.data.toList)).map Qd:=by
 rw [List.map_map];apply List.map_congr_left;intro x _;obtain ⟨⟨x⟩⟩:=x;rfl
theorem Zdk (l:List Str):Jq l=true↔l.Nodup:=by
 have e:(Ys (Yk (l.map encS))).length=(ZcX (WD (l.map (fun x:Str=>x.data.toList)))).length:=by
  rw [Ze6,D4,ZdC,List.length_map]
 have hl:(WD (l.map (fun x:Str=>x.data.toList))).length=l.length:=by
  rw [(RS _).length_eq,List.length_map]
 unfold Jq;rw [beq_iff_eq,e];rw [show ((ZcX (WD (l.map (fun x:Str=>x.data.toList)))).length:Int)=(l.length:Int)↔(ZcX (WD (l.map (fun x:Str=>x.data.toList)))).length=(WD (l.map (fun x:Str=>x.data.toList))).length from by rw [hl];omega]
 rw [ZdD];have h1:Adj (WD (l.map (fun x:Str=>x.data.toList)))↔(WD (l.map (fun x:Str=>x.data.toList))).Nodup:=⟨ZdE _ (D8 _),ZdF _⟩
 rw [h1,(RS _).nodup_iff,ZdG (fun a b h=>bytes_inj h)]
end Go.AM
namespace Go.AM
open Go
end Go.AM
namespace Go.AM
open Go
end Go.AM
namespace Go.AM
open Go
structure Prop' (s:Sta):Prop where
 rg:∀ x∈s.Regions,Vo x=true
 st:∀ x∈s.Streets,Vp x=true
 bu:∀ x∈s.Buildings,Vq x=true
 dr:∀ (i:Nat) d,s.Doors[i]? = some d→Vr s i d=true
 un:∀ x∈s.Units,Vs s x=true
 ids:(Qp s).Nodup
 pa:WK s=true
theorem Zda {α:Type} {P:Nat→α→Bool}:∀ {l:List α} {i:Nat},Zu P i l=true↔∀ (j:Nat) x,l[j]? = some x→P (i+j) x=true
 | [],i=>⟨fun _ j x h=>(by simp at h),fun _=>rfl⟩
 | y::r,i=>by
  unfold Zu;rw [Bool.and_eq_true,Zda (l:=r)];constructor
  ·rintro ⟨h1,h2⟩ j x hx;cases j with
   | zero=>cases hx;exact h1
   | succ j=>have:=h2 j x hx;rw [show i+(j+1)=i+1+j by omega];exact this
  ·intro h;exact ⟨h 0 y rfl,fun j x hx=>by have:=h (j+1) x hx;rw [show i+1+j=i+(j+1) by omega];exact this⟩
theorem Zdb (s:Sta):Jx s=true↔Prop' s∧Wh s.Doors=true:=by
 unfold Jx;simp only [Bool.and_eq_true];constructor
 ·rintro ⟨h1,h2,h3,h4,h5,h6,h7,h8⟩;exact ⟨⟨List.all_eq_true.1 h1,List.all_eq_true.1 h2,List.all_eq_true.1 h3,fun i d hd=>by have:=Zda.1 h4 i d hd;rwa [Nat.zero_add] at this,List.all_eq_true.1 h5,(Zdk _).1 h6,h8⟩,h7⟩
 ·rintro ⟨⟨h1,h2,h3,h4,h5,h6,h8⟩,h7⟩;exact ⟨List.all_eq_true.2 h1,List.all_eq_true.2 h2,List.all_eq_true.2 h3,Zda.2 (fun i d hd=>by rw [Nat.zero_add];exact h4 i d hd),List.all_eq_true.2 h5,(Zdk _).2 h6,h7,h8⟩
end Go.AM
namespace Go.AM
open Go
theorem ZcV {e:Event} (h:Q9 e=true):Q8 e=true:=by
 unfold Q9 at h;simp only [Bool.and_eq_true] at h;exact h.2.2.2.2
theorem ZcW {e:Event} {k:Int} (hk:e.Kind=k):Q8 e=Q8 { e with Kind:=k }:=by rw [←hk]
end Go.AM
namespace Go.AM
open Go
end Go.AM
namespace Go.AM
open Go
end Go.AM
namespace Go.AM
open Go
end Go.AM
namespace Go.AM
open Go
end Go.AM
namespace Go.AM
open Go
end Go.AM
namespace Go.AM
open Go
end Go.AM
namespace Go.AM
open Go
end Go.AM
namespace Go.AM
open Go
end Go.AM
namespace Go.AM
open Go
end Go.AM
namespace Go.AM
open Go
structure SizeOk (s:Sta):Prop where
 rg:∀ x∈s.Regions,x.Names.l.length≤100∧x.Ring.l.length≤100∧x.Id.size≤1000
 st:∀ x∈s.Streets,x.Names.l.length≤100∧x.Line.l.length≤100∧x.Id.size≤1000
 bu:∀ x∈s.Buildings,x.Ring.l.length≤100∧x.Id.size≤1000
 dr:∀ x∈s.Doors,DoS x
 un:∀ x∈s.Units,x.Id.size≤1000∧x.Door.size≤1000∧x.Text.size≤1000
end Go.AM
namespace Go.AM
open Go
def ZoO (m:List (Int×Int)) (k v:Int):List (Int×Int):=match m.findIdx? (fun p=>k==p.1) with | some i=>m.set i (k,v) | none=>m++[(k,v)]
def Zos (l:List Pair):List (Int×Int):=l.foldl (fun m p=>ZoO m p.b p.a) []
def ZoB (m:List (Int×Int)) (k:Int):Option Int:=(m.find? (fun p=>k==p.1)).map (·.2)
def ZoL (m:List (Int×Int)):Nat→Int→Option Int
 | 0,_=>none
 | n+1,a=>match ZoB m a with | some b=>ZoL m n b | none=>some a
theorem Zpn (k:Int):∀ (m:List (Int×Int)) (i:Nat),ZW false [1] (I k) (m.map (fun p=>I p.1)) i=some ((m.findIdx? (fun p=>k==p.1)).map (· + i))
 | [],i=>rfl
 | p::r,i=>by
  have ih:=Zpn k r (i+1);have he:Zz false [1] (I k) (I p.1)=some (k==p.1):=by simp only [go_sem,Bool.and_true,if_true]
  rw [List.map_cons];unfold ZW;rw [he];dsimp only;rw [ih,List.findIdx?_cons];cases k==p.1 with
  | true=>simp
  | false=>
   simp only [cond_false,Bool.false_eq_true,if_false];congr 1;cases List.findIdx? (fun p=>k==p.1) r with
   | none=>rfl
   | some j=>simp;omega
theorem ZpA (k:Int):Zz false [1] (I k) (I k)=some true:=by simp only [go_sem,Bool.and_true,beq_self_eq_true,if_true]
theorem Zq7 (m:List (Int×Int)) (k v:Int) {h:Hp} {b:Nat} (hb:h[b]? = some (.map (m.map (fun p=>I p.1)) (m.map (fun p=>I p.2)))):
 YK h false [1] (.mp b) (I k) (I v)=some (.bot,setH h b (.map ((ZoO m k v).map (fun p=>I p.1)) ((ZoO m k v).map (fun p=>I p.2)))):=by
 simp only [YK,hb,Yo,ZpA];rw [Zpn k m 0];unfold ZoO;cases hf:m.findIdx? (fun p=>k==p.1) with
 | none=>
  simp only [Option.map_none,ZM,ZH,List.map_append,List.map_cons,List.map_nil]
 | some i=>
  simp only [Option.map_some,Nat.add_zero,ZM,ZH,List.map_set];obtain ⟨hi,hp,_⟩:=List.findIdx?_eq_some_iff_getElem.1 hf;have hk:(m.map (fun p=>I p.1)).set i (I k)=m.map (fun p=>I p.1):=by
   have hke:k=m[i].1:=by simpa using hp
   apply List.ext_getElem?;intro j;rw [List.getElem?_set];by_cases hj:i=j
   ·subst hj;rw [if_pos rfl,if_pos (by rw [List.length_map];exact hi),List.getElem?_map,List.getElem?_eq_getElem hi,hke]
    rfl
   ·rw [if_neg hj]
  rw [hk]
def lkV:Option Int→AV
 | some v=>I v
 | none=>I 0
theorem look_ok (m:List (Int×Int)) (k:Int) (bw:Bool) (h:Hp):
 W5 h false [1] true (I 0) (.imap bw (m.map (fun p=>I p.1)) (m.map (fun p=>I p.2))) (I k)=some (.tup [lkV (ZoB m k),.bool (ZoB m k).isSome]):=by
 simp only [W5,QW,ZpA];rw [Zpn k m 0];unfold ZoB;cases hf:m.findIdx? (fun p=>k==p.1) with
 | none=>
  have hn:m.find? (fun p=>k==p.1)=none:=by
   rw [List.find?_eq_none];intro x hx;have:=List.findIdx?_eq_none_iff.1 hf x hx;simpa using this
  rw [hn];rfl
 | some i=>
  obtain ⟨hi,hp,hlt⟩:=List.findIdx?_eq_some_iff_getElem.1 hf;have hs:m.find? (fun p=>k==p.1)=some m[i]:=by
   rw [List.find?_eq_some_iff_getElem];exact ⟨hp,i,hi,rfl,fun j hj=>by have:=hlt j hj;simpa using this⟩
  rw [hs];simp only [Option.map_some,Nat.add_zero,List.getElem?_map,List.getElem?_eq_getElem hi,Option.isSome_some];rfl
end Go.AM
namespace Go.AM
open Go
theorem Zq8 (m:List (Int×Int)) (k v x:Int):ZoB (ZoO m k v) x=if x=k then some v else ZoB m x:=by
 unfold ZoO;cases hf:m.findIdx? (fun p=>k==p.1) with
 | none=>
  have hn:∀ p∈m,p.1≠k:=by
   intro p hp hc;have:=List.findIdx?_eq_none_iff.1 hf p hp;rw [hc] at this;simp at this
  unfold ZoB;dsimp only;rw [List.find?_append];by_cases hx:x=k
  ·subst hx;have:m.find? (fun p=>x==p.1)=none:=by
    rw [List.find?_eq_none];intro p hp hc;exact hn p hp (by simpa using hc:x=p.1).symm
   rw [this,if_pos rfl];simp
  ·rw [if_neg hx];cases m.find? (fun p=>x==p.1) with
   | some p=>rfl
   | none=>
    have:(x==k)=false:=by simpa using hx
    simp [this]
 | some i=>
  obtain ⟨hi,hp,hlt⟩:=List.findIdx?_eq_some_iff_getElem.1 hf;have hp':k=m[i].1:=by simpa using hp
  dsimp only;clear hf;induction m generalizing i with
  | nil=>exact absurd hi (Nat.not_lt_zero _)
  | cons p r ih=>
   cases i with
   | zero=>
    have hpk:k=p.1:=hp';unfold ZoB;rw [List.set_cons_zero,List.find?_cons,List.find?_cons];by_cases hx:x=k
    ·subst hx;rw [if_pos rfl];simp
    ·rw [if_neg hx];have h1:(x==k)=false:=by simpa using hx
     have h2:(x==p.1)=false:=by rw [←hpk];exact h1
     simp only [h1,h2]
   | succ i=>
    have h0:=hlt 0 (Nat.succ_pos i);have h0':(k==p.1)=false:=by simpa using h0
    have ih':=ih i (by simpa using hi) (by simpa using hp) (fun j hj=>by have:=hlt (j+1) (by omega);simpa using this) (by simpa using hp')
    unfold ZoB at ih' ⊢;rw [List.set_cons_succ,List.find?_cons,List.find?_cons];cases hx:x==p.1 with
    | true=>
     have hxp:x=p.1:=by simpa using hx
     have hxk:x≠k:=by
      intro hc;rw [←hc,hx] at h0';cases h0'
     rw [if_neg hxk]
    | false=>exact ih'
theorem Zq9 (l:List Pair) (h:(l.map (·.b)).Nodup) (x:Int):ZoB (Zos l) x=(l.find? (fun p=>p.b==x)).map (·.a):=by
 have G:∀ (l:List Pair) (m:List (Int×Int)),(l.map (·.b)).Nodup→ZoB (l.foldl (fun m p=>ZoO m p.b p.a) m) x=match (l.find? (fun p=>p.b==x)).map (·.a) with | some v=>some v | none=>ZoB m x:=by
  intro l;induction l with
  | nil=>intro m _;rfl
  | cons p r ih=>
   intro m hn;rw [List.map_cons,List.nodup_cons] at hn;rw [List.foldl_cons,ih _ hn.2,Zq8,List.find?_cons];cases hx:p.b==x with
   | true=>
    have hpx:p.b=x:=by simpa using hx
    have hr:r.find? (fun p=>p.b==x)=none:=by
     rw [List.find?_eq_none];intro q hq hc;have:q.b=x:=by simpa using hc
     exact hn.1 (by rw [hpx,←this];exact List.mem_map_of_mem (f:=(·.b)) hq)
    rw [hr,if_pos hpx.symm];rfl
   | false=>
    have hpx:¬ x=p.b:=fun hc=>by rw [hc] at hx;simp at hx
    rw [if_neg hpx]
 have:=G l [] h;unfold Zos;rw [this];cases (l.find? (fun p=>p.b==x)).map (·.a)<;>rfl
theorem ZpB:∀ (l:List Pair) (K:List Int) (b:Int),(K.any (Vm b)=true∨∃ p∈l,p.b=b)→(l.foldl (fun K p=>Qi Vm K p.b) K).any (Vm b)=true
 | [],K,b,h=>h.elim id (fun ⟨p,hp,_⟩=>by cases hp)
 | p::r,K,b,h=>by
  rw [List.foldl_cons];refine ZpB r _ b ?_;rcases h with h | ⟨q,hq,hb⟩
  ·left;unfold Qi;cases K.any (Vm p.b) with
   | true=>exact h
   | false=>rw [cond_false,List.any_append,h,Bool.true_or]
  ·rcases List.mem_cons.1 hq with rfl | hq
   ·left;unfold Qi;cases hc:K.any (Vm q.b) with
    | true=>rw [cond_true,←hb];exact hc
    | false=>
     rw [cond_false,List.any_append,hb];unfold Vm;simp
   ·exact Or.inr ⟨q,hq,hb⟩
theorem ZpC {s:Sta} (hp:WK s=true):(s.Merged.map (·.b)).Nodup∧∀ q∈s.Merged,Y2 q=true:=by
 unfold WK at hp;simp only [Bool.and_eq_true] at hp;obtain ⟨p1,_,_⟩:=hp;unfold UB at p1;rw [Zda] at p1;refine ⟨?_,fun q hq=>?_⟩
 ·rw [List.nodup_iff_pairwise_ne,List.pairwise_map,List.pairwise_iff_getElem];intro i j hi hj hij hc;have:=p1 j s.Merged[j] (List.getElem?_eq_getElem hj);rw [Nat.zero_add,Bool.and_eq_true,Bool.not_eq_true'] at this;have h2:=this.2;unfold QV at h2;rw [ZpB (s.Merged.take j) [] s.Merged[j].b (Or.inr ⟨s.Merged[i],?_,hc⟩)] at h2
  ·cases h2
  ·rw [List.mem_iff_getElem?];exact ⟨i,by rw [List.getElem?_take,if_pos hij];exact List.getElem?_eq_getElem hi⟩
 ·obtain ⟨j,hj⟩:=List.mem_iff_getElem?.1 hq;have:=p1 j q hj;rw [Bool.and_eq_true] at this;exact this.1
def Zoz (a:Int):Bool:=decide (0≤a)&&decide (a≤63)
theorem Zpo {q:Pair} (h:Y2 q=true):(0≤q.a∧q.a≤63)∧(0≤q.b∧q.b≤63):=by
 unfold Y2 QM ZD at h;simp only [Bool.and_eq_true,decide_eq_true_eq] at h;exact ⟨⟨h.1.1.1,h.1.1.2⟩,⟨h.2.1.1.1,h.2.1.1.2⟩⟩
theorem ZpD {s:Sta} (hp:WK s=true) (x:Int):ZoB (Zos s.Merged) x=bif decide (XJ s x < 0) then none else some (XJ s x):=by
 obtain ⟨h1,h2⟩:=ZpC hp;rw [Zq9 _ h1];unfold XJ;cases hf:s.Merged.find? (fun p=>p.b==x) with
 | none=>rfl
 | some p=>
  have:=(Zpo (h2 p (List.mem_of_find?_eq_some hf))).1;have hd:decide (p.a < 0)=false:=decide_eq_false (by omega)
  simp only [Option.map_some,hd,cond_false]
theorem ZpE {s:Sta} (hp:WK s=true):∀ (n:Nat) (x:Int),0≤x→chN s n x=true→∃ b,ZoL (Zos s.Merged) n x=some b
 | 0,x,hx,h=>by
  unfold chN at h;rw [show decide (x ≥ 0)=true from decide_eq_true hx] at h
  cases h
 | n+1,x,hx,h=>by
  unfold chN at h;rw [show decide (x ≥ 0)=true from decide_eq_true hx,cond_true] at h
  unfold ZoL;rw [ZpD hp];cases hd:decide (XJ s x < 0) with
  | true=>exact ⟨x,rfl⟩
  | false=>
   have:=of_decide_eq_false hd;exact ZpE hp n (XJ s x) (by omega) h
def Zoq (s:Sta) (a:Int):Int:=(ZoL (Zos s.Merged) (s.Merged.length+1) a).getD a
theorem ZpF {s:Sta} (hp:WK s=true) {a:Int} (ha:0≤a):ZoL (Zos s.Merged) (s.Merged.length+1) a=some (Zoq s a):=by
 obtain ⟨b,hb⟩:=ZpE hp _ a ha (Z3L s hp a);unfold Zoq;rw [hb];rfl
theorem ZpG {s:Sta} (hp:WK s=true):∀ (n:Nat) (a b:Int),0≤a∧a≤63→ZoL (Zos s.Merged) n a=some b→0≤b∧b≤63
 | 0,a,b,_,h=>by cases h
 | n+1,a,b,ha,h=>by
  unfold ZoL at h;rw [ZpD hp] at h;cases hd:decide (XJ s a < 0) with
  | true=>rw [hd] at h;cases h;exact ha
  | false=>
   rw [hd] at h;refine ZpG hp n (XJ s a) b ?_ h;have h0:=of_decide_eq_false hd;unfold XJ at h0 ⊢;cases hf:s.Merged.find? (fun p=>p.b==a) with
   | none=>rw [hf] at h0;exact absurd (by decide) h0
   | some p=>exact (Zpo ((ZpC hp).2 p (List.mem_of_find?_eq_some hf))).1
theorem ZpH {s:Sta} (hp:WK s=true) {a:Int} (ha:0≤a∧a≤63):0≤Zoq s a∧Zoq s a≤63:=ZpG hp _ a _ ha (ZpF hp ha.1)
end Go.AM
namespace Go.AM
open Go
def ibr (h:Hp) (a b c:Bool):DRec:=bif a&&(!b&&!c) then ⟨false,[],some h.length,none⟩ else ⟨false,[],none,none⟩
theorem Zqa (h:Hp):ibr h true false false=⟨false,[],some h.length,none⟩:=rfl
theorem Zqb (h:Hp) (c:Bool):ibr h true true c=⟨false,[],none,none⟩:=rfl
theorem Zqc (h:Hp):ibr h true false true=⟨false,[],none,none⟩:=rfl
theorem Zqd {E:Env} {sz:Nat} {x:Arg} {fr:Fr} {h:Hp}:Za E (.ibox sz x) fr h=ibr h (fits sz (ev E (Z2 x.slots fr) x)) (Z4 (ev E (Z2 x.slots fr) x).cells) (Zi (ev E (Z2 x.slots fr) x).cells):=by
 simp only [Za,Z8,AOp.slots];cases fits sz (ev E (Z2 x.slots fr) x)<;>cases Z4 (ev E (Z2 x.slots fr) x).cells<;>cases Zi (ev E (Z2 x.slots fr) x).cells<;>rfl
attribute [go_sem] Zqd Zqa Zqb Zqc
theorem Zqe (bw:Bool) (h:Hp) (n:Nat) (l:List AV) (hc:Z4 l=true):ZC bw h (n+1) l=some l:=by
 unfold ZC;rw [hc];rfl
theorem Zqf (bw:Bool) (h:Hp) (n b:Nat) (ks vs:List AV) (hb:h[b]? = some (.map ks vs)) (hk:Z4 ks=true) (hv:Z4 vs=true):freeze bw h (n+2) (.mp b)=some (.imap bw ks vs):=by
 unfold freeze;rw [show clean (.mp b)=false from rfl,cond_false]
 dsimp only;rw [hb];dsimp only;rw [hk,cond_true,Zqe bw h n vs hv];rfl
abbrev tkV (s:Sta):AV:=.imap false ((Zos s.Merged).map (fun p=>I p.1)) ((Zos s.Merged).map (fun p=>I p.2))
abbrev ldA (s:Sta):List AV:=[.isl false false 6 (s.Regions.map Region.enc),.isl false false 5 (s.Streets.map Street.enc),.isl false false 4 (s.Buildings.map Building.enc),.isl false false 16 (s.Doors.map Door.enc),.isl false false 6 (s.Units.map Unit'.enc),.isl false false 2 (s.Merged.map Pair.enc),.isl false false 2 (s.Rulings.map Pair.enc),tkV s]
abbrev ldI (s:Sta):AV:=.iptr false (ldA s)
theorem Zqg (s:Sta) (hl:s.Merged.length≤1000):Zg rE [1,4,9,10,11] c60L0b [(1,stI s),(4,.mp 0),(9,.isl false false 2 (s.Merged.map Pair.enc)),(10,I s.Merged.length),(11,.int .i64 0)] [.map [] []] =
 some (.exit 0,[(1,stI s),(4,.mp 0),(9,.isl false false 2 (s.Merged.map Pair.enc)),(10,I s.Merged.length),(11,I s.Merged.length)],[.map ((Zos s.Merged).map (fun p=>I p.1)) ((Zos s.Merged).map (fun p=>I p.2))]):=by
 have hb:∀ (m:List (Int×Int)) n,Zd n (m.map (fun p=>I p.1))=true∧Zd n (m.map (fun p=>I p.2))=true:=fun m n=>⟨ZN _ (Zw (fun t=>rfl) m),ZN _ (Zw (fun t=>rfl) m)⟩
 have L:=Y8 (E:=rE) (live:=[1,4,9,10,11]) (b:=c60L0b) s.Merged.length (fun i=>[(1,stI s),(4,.mp 0),(9,.isl false false 2 (s.Merged.map Pair.enc)),(10,I s.Merged.length),(11,I i)])
  (fun i=>[.map ((Zos (s.Merged.take i)).map (fun p=>I p.1)) ((Zos (s.Merged.take i)).map (fun p=>I p.2))]) (fun i=>rfl)
  (fun i hi=>by
   obtain ⟨x,hx⟩:∃ x,s.Merged[i]? = some x:=⟨_,List.getElem?_eq_getElem hi⟩;have hg:=Z6 (f:=Pair.enc) hx;have hi':=Zh hi;have hwr:=Zx (n:=i) (by omega)
   have htk:Zos (s.Merged.take (i+1))=ZoO (Zos (s.Merged.take i)) x.b x.a:=Us _ _ hx;rw [htk];have hp:=fun (q:AObj)=>Zq7 (Zos (s.Merged.take i)) x.b x.a (h:=[.map ((Zos (s.Merged.take i)).map (fun p=>I p.1)) ((Zos (s.Merged.take i)).map (fun p=>I p.2)),q]) (b:=0) rfl
   generalize Zos (s.Merged.take i)=m at *;have n0:((0:Int)).toNat=0:=rfl;have n1:((1:Int)).toNat=1:=rfl;refine ⟨[(1,stI s),(4,.mp 0),(9,.isl false false 2 (s.Merged.map Pair.enc)),(10,I s.Merged.length),(11,I (i+1:Nat))],?_,rfl⟩;simp only [go_sem,qy,qq,qx,qz,qv,qk,reduceIte,c60L0b,hg,hi',hwr,Pair.enc,WJ,XL,n0,n1,if_true,hp,hb])
  (e:=.exit 0) (fr:=[(1,stI s),(4,.mp 0),(9,.isl false false 2 (s.Merged.map Pair.enc)),(10,I s.Merged.length),(11,I s.Merged.length)]) (h:=[.map ((Zos s.Merged).map (fun p=>I p.1)) ((Zos s.Merged).map (fun p=>I p.2))]) (by
   rw [List.take_length];simp only [go_sem,qy,qq,qx,qz,qv,qk,reduceIte,c60L0b,ZG,hb]) (by simp)
 exact L
theorem Zp7 (s:Sta) (hE:StE s):pfn rE 60 [stA s]=some (.tup [ldI s,.bool (Jx s)]):=by
 have hP:=Z3i s hE;have L:=Zqg s hE.sizes.merged;have hb:∀ (m:List (Int×Int)) n,Zd n (m.map (fun p=>I p.1))=true∧Zd n (m.map (fun p=>I p.2))=true:=fun m n=>⟨ZN _ (Zw (fun t=>rfl) m),ZN _ (Zw (fun t=>rfl) m)⟩
 have hc:Z4 ((Zos s.Merged).map (fun p=>I p.1))=true∧Z4 ((Zos s.Merged).map (fun p=>I p.2))=true:=⟨Zw (fun t=>rfl) _,Zw (fun t=>rfl) _⟩
 have hz:=fun q=>Zqf false [.map ((Zos s.Merged).map (fun p=>I p.1)) ((Zos s.Merged).map (fun p=>I p.2)),q] 27 0 _ _ rfl hc.1 hc.2
 simp only [stI] at L;rw [Z5 (f:=60) rfl rfl];simp only [go_sem,qy,qq,qx,qz,qv,qk,reduceIte,c60,c60L0,L,hP,hb,hc,hz]
theorem Zp8 (a:Int):pfn rE 65 [I a]=some (.bool (Zoz a)):=by
 rw [Z5 (f:=65) rfl rfl];unfold Zoz;have h:decide (a < 64)=decide (a≤63):=by
  by_cases c:a≤63
  ·rw [decide_eq_true c,decide_eq_true (by omega)]
  ·rw [decide_eq_false c,decide_eq_false (by omega)]
 have h0:decide (a ≥ 0)=decide (0≤a):=rfl;cases c:decide (0≤a)<;>simp only [go_sem,qy,qq,qx,qz,qv,qk,reduceIte,c65,h0,c,h]
theorem ZpI (s:Sta) (b:Int):∀ (n:Nat) (a:Int),ZoL (Zos s.Merged) n a=some b→
 ∃ fr',Zg rE [0,1,5,6] c66L0b [(0,ldI s),(1,I a),(5,lkV (ZoB (Zos s.Merged) a)),(6,.bool (ZoB (Zos s.Merged) a).isSome)] []=some (.exit 0,fr',[])∧get fr' 1=I b
 | 0,a,h=>by cases h
 | n+1,a,h=>by
  unfold ZoL at h;have hk:=fun x=>look_ok (Zos s.Merged) x false []
  cases hl:ZoB (Zos s.Merged) a with
  | none=>
   rw [hl] at h;cases h;refine ⟨_,Q7 rfl (e:=.exit 0) (fr':=[(0,ldI s),(1,I b),(5,I 0),(6,.bool false)]) (by simp only [go_sem,qy,qq,qx,qz,qv,qk,reduceIte,c66L0b,Option.isSome_none,lkV]) (by simp),by simp only [go_sem,qy,qq,qx,qz,qv,qk,reduceIte]⟩
  | some c=>
   rw [hl] at h;dsimp only at h;obtain ⟨fr',h1,h2⟩:=ZpI s b n c h;refine ⟨fr',?_,h2⟩;have hs:=hk c;rw [Yt rfl (fr':=[(0,ldI s),(1,I c),(5,lkV (ZoB (Zos s.Merged) c)),(6,.bool (ZoB (Zos s.Merged) c).isSome)]) (h':=[]) (by simp only [go_sem,qy,qq,qx,qz,qv,qk,reduceIte,c66L0b,Option.isSome_some,lkV,hs])]
   exact h1
theorem ZpJ (s:Sta) (hp:WK s=true) (a:Int) (ha:0≤a):pfn rE 66 [ldI s,I a]=some (I (Zoq s a)):=by
 obtain ⟨fr',h1,h2⟩:=ZpI s _ _ a (ZpF hp ha);have hk:=look_ok (Zos s.Merged) a false [];rw [Z5 (f:=66) rfl rfl];simp only [go_sem,qy,qq,qx,qz,qv,qk,reduceIte,c66,c66L0,hk,h1,h2]
theorem Zpp (s:Sta) (hE:StE s) (a:Int):pfn rE 23 [stA s,I a]=some (I (bif Jx s&&Zoz a then Zoq s a else -1)):=by
 have hO:=Zp7 s hE;have hA:=Zp8 a;rw [Z5 (f:=23) rfl rfl];cases c1:Jx s with
 | false=>
  rw [c1] at hO;simp only [go_sem,qy,qq,qx,qz,qv,qk,reduceIte,c23,hO,hA,Bool.false_and,cond_false]
 | true=>
 rw [c1] at hO;cases c2:Zoz a with
 | false=>
  rw [c2] at hA;simp only [go_sem,qy,qq,qx,qz,qv,qk,reduceIte,c23,hO,hA,Bool.and_false,cond_false]
 | true=>
  rw [c2] at hA;have ha:0≤a:=by
   unfold Zoz at c2;rw [Bool.and_eq_true,decide_eq_true_eq] at c2;exact c2.1
  have hM:=ZpJ s ((Zdb s).1 c1).1.pa a ha;simp only [go_sem,qy,qq,qx,qz,qv,qk,reduceIte,c23,hO,hA,hM,Bool.and_true,cond_true]
end Go.AM
namespace Go.AM
open Go
def ZoE (m:Int→Int) (a b:Int):List Pair→Option Bool
 | []=>none
 | p::r=>bif m p.a==a&&m p.b==b then some (a != b) else bif m p.a==b&&m p.b==a then some false else ZoE m a b r
def ZoW (s:Sta) (a b:Int):Bool:=(ZoE (Zoq s) a b s.Rulings.reverse).getD false
abbrev ruV (s:Sta):AV:=.isl false false 2 (s.Rulings.map Pair.enc)
def Zov (s:Sta) (a b:Int):Fr:=[(3,.iptr false [ldI s]),(4,.iptr false [I a]),(5,.iptr false [I b]),(6,.ptr 0 0 0 1),(16,.clo (.func 243) [] [.iptr false [ruV s]])]
def prH (s:Sta) (a b:Int):Hp:=[.row 1 [.bool false],.loop .ready .normal (Zov s a b) [17,18] c69R0a c69R0b]
def prD (s:Sta) (a b:Int) (r:Bool):Hp:=[.row 1 [.bool r],.loop .done .ret (Zov s a b) [17,18] c69R0a c69R0b]
theorem Zot (s:Sta) (n:Nat):bel n (ldI s)=true:=by
 have hc:Z4 [ldI s]=true:=by
  have hb:Z4 ((Zos s.Merged).map (fun p=>I p.1))=true∧Z4 ((Zos s.Merged).map (fun p=>I p.2))=true:=⟨Zw (fun t=>rfl) _,Zw (fun t=>rfl) _⟩
  simp only [go_sem,qy,qq,qx,qz,qv,qk,reduceIte,hb]
 have:=ZN (n:=n) [ldI s] hc;unfold Zd at this;rw [Bool.and_eq_true] at this;exact this.1
theorem Zow (s:Sta):clean (ldI s)=true:=by
 have hb:Z4 ((Zos s.Merged).map (fun p=>I p.1))=true∧Z4 ((Zos s.Merged).map (fun p=>I p.2))=true:=⟨Zw (fun t=>rfl) _,Zw (fun t=>rfl) _⟩
 simp only [go_sem,qy,qq,qx,qz,qv,qk,reduceIte,hb]
theorem Zqh (s:Sta) (a b:Int) (i:Nat) (p:Pair) (ha:pfn rE 66 [ldI s,I p.a]=some (I (Zoq s p.a))) (hb:pfn rE 66 [ldI s,I p.b]=some (I (Zoq s p.b))):
 U4 rE 1 [I i,.agg [I p.a,I p.b]] (prH s a b)=some (match ZoE (Zoq s) a b [p] with
  | none=>(.bool true,prH s a b++[.row 2 [.agg [I p.a,I p.b]]])
  | some r=>(.bool false,prD s a b r++[.row 2 [.agg [I p.a,I p.b]]])):=by
 have n0:((0:Int)).toNat=0:=rfl;have n1:((1:Int)).toNat=1:=rfl;have hl:=Zot s;have hc:=Zow s;unfold ZoE ZoE;generalize Zoq s p.a=x at *;generalize Zoq s p.b=y at *;cases c1:x==a&&y==b with
 | true=>
  have h:=Ss (E:=rE) (b:=1) (args:=[I i,.agg [I p.a,I p.b]]) (h:=prH s a b) (fr:=Zov s a b) (ps:=[17,18]) (assign:=c69R0a) (body:=c69R0b)
   (fr0:=(18,.agg [I p.a,I p.b])::(17,I i)::Zov s a b) rfl rfl (by simp only [go_sem,qy,qq,qx,qz,qv,qk,reduceIte,c69R0a,prH,Zov]<;>rfl) (by rfl)
   (by
    cases d1:x==a with
    | false=>rw [d1] at c1;cases c1
    | true=>
    rw [d1,Bool.true_and] at c1;simp only [go_sem,qy,qq,qx,qz,qv,qk,reduceIte,c69R0b,Zov,hl,hc,ha,hb,WJ,XL,n0,n1,d1,c1]<;>rfl) (by rfl)
  exact h
 | false=>
  rw [cond_false];cases c2:x==b&&y==a with
  | true=>
   have h:=Ss (E:=rE) (b:=1) (args:=[I i,.agg [I p.a,I p.b]]) (h:=prH s a b) (fr:=Zov s a b) (ps:=[17,18]) (assign:=c69R0a) (body:=c69R0b)
    (fr0:=(18,.agg [I p.a,I p.b])::(17,I i)::Zov s a b) rfl rfl (by simp only [go_sem,qy,qq,qx,qz,qv,qk,reduceIte,c69R0a,prH,Zov]<;>rfl) (by rfl)
    (by
     cases e1:x==b with
     | false=>rw [e1] at c2;cases c2
     | true=>
     rw [e1,Bool.true_and] at c2;cases d1:x==a with
     | false=>simp only [go_sem,qy,qq,qx,qz,qv,qk,reduceIte,c69R0b,Zov,hl,hc,ha,hb,WJ,XL,n0,n1,d1,e1,c2]<;>rfl
     | true=>
      rw [d1,Bool.true_and] at c1;simp only [go_sem,qy,qq,qx,qz,qv,qk,reduceIte,c69R0b,Zov,hl,hc,ha,hb,WJ,XL,n0,n1,d1,c1,e1,c2]<;>rfl) (by rfl)
   exact h
  | false=>
   have h:=Ss (E:=rE) (b:=1) (args:=[I i,.agg [I p.a,I p.b]]) (h:=prH s a b) (fr:=Zov s a b) (ps:=[17,18]) (assign:=c69R0a) (body:=c69R0b)
    (fr0:=(18,.agg [I p.a,I p.b])::(17,I i)::Zov s a b) rfl rfl (by simp only [go_sem,qy,qq,qx,qz,qv,qk,reduceIte,c69R0a,prH,Zov]<;>rfl) (by rfl)
    (e:=.normal) (fr2:=[]) (h2:=[.row 1 [.bool false],.loop .busy .normal (Zov s a b) [17,18] c69R0a c69R0b,.row 2 [.agg [I p.a,I p.b]]])
    (by
     cases d1:x==a with
     | false=>
      cases e1:x==b with
      | false=>simp only [go_sem,qy,qq,qx,qz,qv,qk,reduceIte,c69R0b,Zov,hl,hc,ha,hb,WJ,XL,n0,n1,d1,e1]<;>rfl
      | true=>
       rw [e1,Bool.true_and] at c2;simp only [go_sem,qy,qq,qx,qz,qv,qk,reduceIte,c69R0b,Zov,hl,hc,ha,hb,WJ,XL,n0,n1,d1,e1,c2]<;>rfl
     | true=>
      rw [d1,Bool.true_and] at c1;cases e1:x==b with
      | false=>simp only [go_sem,qy,qq,qx,qz,qv,qk,reduceIte,c69R0b,Zov,hl,hc,ha,hb,WJ,XL,n0,n1,d1,c1,e1]<;>rfl
      | true=>
       rw [e1,Bool.true_and] at c2;simp only [go_sem,qy,qq,qx,qz,qv,qk,reduceIte,c69R0b,Zov,hl,hc,ha,hb,WJ,XL,n0,n1,d1,c1,e1,c2]<;>rfl) (by rfl)
   exact h
theorem ZpK (s:Sta) (a b:Int) (hl:s.Rulings.length≤1000) (hM:∀ p∈s.Rulings,pfn rE 66 [ldI s,I p.a]=some (I (Zoq s p.a))∧pfn rE 66 [ldI s,I p.b]=some (I (Zoq s p.b))):
 ∀ (k:Nat),k≤s.Rulings.length→∃ fr',Zg rE [0,1,3] c243L0b [(0,.yld 1),(1,.iptr false [ruV s]),(3,I ((k:Int) - 1))] (prH s a b) =
  some (match ZoE (Zoq s) a b (s.Rulings.take k).reverse with | none=>(.exit 0,fr',prH s a b) | some r=>(.ret,fr',prD s a b r))
 | 0,_=>⟨_,Q7 rfl (e:=.exit 0) (fr':=[(0,.yld 1),(1,.iptr false [ruV s]),(3,I (-1))]) (by
  have h0:decide (((0:Nat):Int) - 1 ≥ 0)=false:=rfl;simp only [go_sem,qy,qq,qx,qz,qv,qk,reduceIte,c243L0b,h0,prH];rfl) (by simp)⟩
 | k+1,hk=>by
  obtain ⟨x,hx⟩:∃ x,s.Rulings[k]? = some x:=⟨_,List.getElem?_eq_getElem (by omega)⟩
  obtain ⟨m1,m2⟩:=hM x (List.mem_of_getElem? hx);have hg:=Z6 (f:=Pair.enc) hx;have hy:=Zqh s a b k x m1 m2;have hk1:(((k+1:Nat):Int) - 1)=(k:Int):=by omega
  have hge:decide ((k:Int) ≥ 0)=true:=decide_eq_true (by omega)
  have hw:IntKind.i64.wrap ((k:Int) - 1)=(k:Int) - 1:=YM (by omega) (by omega)
  have htk:(s.Rulings.take (k+1)).reverse=x::(s.Rulings.take k).reverse:=by
   rw [List.take_add_one,hx,List.reverse_append];rfl
  have hbl:=Zot s;have hbf:Zd 2 (frV (Zov s a b))=true:=by simp only [go_sem,qy,qq,qx,qz,qv,qk,reduceIte,Zov,hbl]
  have hp1:ZoE (Zoq s) a b (x::(s.Rulings.take k).reverse)=match ZoE (Zoq s) a b [x] with | some r=>some r | none=>ZoE (Zoq s) a b (s.Rulings.take k).reverse:=by
   show (bif _ then _ else bif _ then _ else _)=_
   unfold ZoE;cases Zoq s x.a==a&&Zoq s x.b==b with
   | true=>rfl
   | false=>
    rw [cond_false,cond_false];cases Zoq s x.a==b&&Zoq s x.b==a with
    | true=>rfl
    | false=>rw [cond_false,cond_false];unfold ZoE;rfl
  rw [htk,hp1,hk1];cases hc:ZoE (Zoq s) a b [x] with
  | some r=>
   rw [hc] at hy;dsimp only at hy;refine ⟨_,Q7 rfl (e:=.ret) (fr':=[(0,.yld 1),(1,.iptr false [ruV s]),(3,I k)]) (by
    simp only [prH,prD,List.cons_append,List.nil_append] at hy ⊢;simp only [go_sem,qy,qq,qx,qz,qv,qk,reduceIte,c243L0b,S3,hg,hge,hw,hy,Pair.enc,hbf]) (by simp)⟩
  | none=>
   rw [hc] at hy;dsimp only at hy;obtain ⟨fr',h1⟩:=ZpK s a b hl hM k (by omega)
   refine ⟨fr',?_⟩;rw [Yt rfl (fr':=[(0,.yld 1),(1,.iptr false [ruV s]),(3,I ((k:Int) - 1))]) (h':=prH s a b) (by
    simp only [prH,List.cons_append,List.nil_append] at hy ⊢;simp only [go_sem,qy,qq,qx,qz,qv,qk,reduceIte,c243L0b,S3,hg,hge,hw,hy,Pair.enc,hbf])]
   exact h1
theorem Zqi (ex:Bool) (es:List AV) (h:Hp) (hc:Z4 es=true):fnV rE 139 [.isl false ex 2 es] h=some (.clo (.func 243) [] [.iptr false [.isl false ex 2 es]],h):=by
 rw [Q6 (f:=139) rfl rfl];simp only [go_sem,qy,qq,qx,qz,qv,qk,reduceIte,c139,hc]
theorem Zqj (s:Sta) (a b:Int) (hl:s.Rulings.length≤1000) (hM:∀ p∈s.Rulings,pfn rE 66 [ldI s,I p.a]=some (I (Zoq s p.a))∧pfn rE 66 [ldI s,I p.b]=some (I (Zoq s p.b))):
 rf rE (.clo (.func 243) [] [.iptr false [ruV s]]) [17,18] c69R0a c69R0b (Zov s a b) [.row 1 [.bool false]]=match ZoE (Zoq s) a b s.Rulings.reverse with
  | none=>some (.normal,Zov s a b,[.row 1 [.bool false],.loop .exhausted .normal (Zov s a b) [17,18] c69R0a c69R0b])
  | some r=>some (.ret,Zov s a b,[.row 1 [.bool r],.loop .exhausted .ret (Zov s a b) [17,18] c69R0a c69R0b]):=by
 obtain ⟨fr',L⟩:=ZpK s a b hl hM s.Rulings.length (Nat.le_refl _);rw [List.take_length] at L;have hw:IntKind.i64.wrap ((s.Rulings.length:Int) - 1)=(s.Rulings.length:Int) - 1:=YM (by omega) (by omega)
 have hbl:=Zot s;have hbf:Zd 2 (frV (Zov s a b))=true:=by simp only [go_sem,qy,qq,qx,qz,qv,qk,reduceIte,Zov,hbl]
 rw [Z1k (c:=c243) rfl];simp only [prH,prD] at L;cases hc:ZoE (Zoq s) a b s.Rulings.reverse with
 | none=>
  rw [hc] at L;dsimp only at L;simp only [go_sem,qy,qq,qx,qz,qv,qk,reduceIte,c243,c243L0,hw,L,hbf];rfl
 | some r=>
  rw [hc] at L;dsimp only at L;simp only [go_sem,qy,qq,qx,qz,qv,qk,reduceIte,c243,c243L0,hw,L,hbf];rfl
theorem ZpL (s:Sta) (a b:Int) (hl:s.Rulings.length≤1000) (hM:∀ p∈s.Rulings,pfn rE 66 [ldI s,I p.a]=some (I (Zoq s p.a))∧pfn rE 66 [ldI s,I p.b]=some (I (Zoq s p.b))):
 pfn rE 69 [ldI s,I a,I b]=some (.bool (ZoW s a b)):=by
 have hrf:=Zqj s a b hl hM;have hB:=fun h=>Zqi false (s.Rulings.map Pair.enc) h (Zw (fun t=>rfl) _)
 have hc:=Zow s;have hbl:=Zot s;unfold ZoW;rw [Z5 (f:=69) rfl rfl];cases hp:ZoE (Zoq s) a b s.Rulings.reverse with
 | none=>
  rw [hp] at hrf;dsimp only at hrf;simp only [Zov] at hrf;simp only [go_sem,qy,qq,qx,qz,qv,qk,reduceIte,c69,hB,Sr,hrf,hc,hbl];rfl
 | some r=>
  rw [hp] at hrf;dsimp only at hrf;simp only [Zov] at hrf;simp only [go_sem,qy,qq,qx,qz,qv,qk,reduceIte,c69,hB,Sr,hrf,hc,hbl];rfl
end Go.AM
namespace Go.AM
open Go
def hfX (q:Int) (p:Int):Int:=W (W (2 * q) - p)
def ZoX (p a b:Pt):Int:=W (W (hfX a.X p.X * hfX b.Y p.Y) - W (hfX a.Y p.Y * hfX b.X p.X))
def Zp9 (p a b:Pt):Bool:=ZoX p a b==0&&decide (W (W (hfX a.X p.X * hfX b.X p.X)+W (hfX a.Y p.Y * hfX b.Y p.Y))≤0)
def Zp4 (p a b:Pt) (w:Int):Int:=
 bif decide (hfX a.Y p.Y≤0)&&(decide (hfX b.Y p.Y > 0)&&decide (ZoX p a b > 0)) then W (w+1)
 else bif decide (hfX a.Y p.Y > 0)&&(decide (hfX b.Y p.Y≤0)&&decide (ZoX p a b < 0)) then W (w - 1) else w
def ZoP (p:Pt) (l:List Pt) (st:Int×Bool) (i:Nat):Int×Bool:=
 (Zp4 p (pAt l i) (pAt l ((i+1) % l.length)) st.1,st.2||Zp9 p (pAt l i) (pAt l ((i+1) % l.length)))
def ZoC (l:List Pt) (p:Pt):Int×Bool:=(List.range l.length).foldl (ZoP p l) (0,false)
def ZoD (v:AV) (p:Pt):Fr:=[(14,.clo (.func 336) [] [.iptr false [v]]),(13,v),(0,v),(3,.iptr false [I p.X,I p.Y]),(4,.ptr 0 0 0 1),(5,.ptr 1 0 0 1)]
def hfH (v:AV) (p:Pt) (st:Int×Bool):Hp:=[.row 1 [I st.1],.row 1 [.bool st.2],.loop .ready .normal (ZoD v p) [15,16] c237R0a c237R0b]
def hfD:ACode:=
 .keep []<|.block 2<|
  .seq (.keep [4,9,11,12,63]<|.region [o 64 (.mv (.t 9)),
   o 65 (.bin .leq (.t 64) (.c (.int .i64 0))),
   o 66 (.mv (.t 65)),
   og 67 (.mv (.t 11)) 66 true,
   og 68 (.bin .gtr (.t 67) (.c (.int .i64 0))) 66 true,
   o 69 (.pick (.t 66) (.t 68) (.c (.bool false))),
   o 70 (.mv (.t 69)),
   og 71 (.mv (.t 12)) 70 true,
   og 72 (.bin .gtr (.t 71) (.c (.int .i64 0))) 70 true,
   o 73 (.pick (.t 70) (.t 72) (.c (.bool false))),
   o 63 (.mv (.t 73))])<|
  .cond (.t 63)
   (.keep []<|.region [o 74 (.load none (.t 4)),
    o 75 (.bin .add (.t 74) (.c (.int .i64 1))),
    ⟨none,.store 1 (.t 4) (.t 75),none⟩])
   (.seq (.keep [4,76]<|.region [o 77 (.mv (.t 9)),
     o 78 (.bin .gtr (.t 77) (.c (.int .i64 0))),
     o 79 (.mv (.t 78)),
     og 80 (.mv (.t 11)) 79 true,
     og 81 (.bin .leq (.t 80) (.c (.int .i64 0))) 79 true,
     o 82 (.pick (.t 79) (.t 81) (.c (.bool false))),
     o 83 (.mv (.t 82)),
     og 84 (.mv (.t 12)) 83 true,
     og 85 (.bin .lss (.t 84) (.c (.int .i64 0))) 83 true,
     o 86 (.pick (.t 83) (.t 85) (.c (.bool false))),
     o 76 (.mv (.t 86))])<|
    .cond (.t 76)
     (.keep []<|.region [o 87 (.load none (.t 4)),
      o 88 (.bin .sub (.t 87) (.c (.int .i64 1))),
      ⟨none,.store 1 (.t 4) (.t 88),none⟩])
     (.skip))
def hfB:ACode:=
 .keep []<|.block 1<|
  .seq (.keep [4,5,8,9,10,11]<|.draw [[],[],[],[],[],[],[],[],[],[],[],[],[],[],[],[],[],[],[],[],[],[],[],[],[],[],[]]
   [o 17 (.fadr 0 (.t 6)),
   o 18 (.load none (.t 17)),
   o 19 (.bin .mul (.c (.int .i64 2)) (.t 18)),
   o 20 (.fadr 0 (.t 3)),
   o 21 (.load none (.t 20)),
   o 22 (.bin .sub (.t 19) (.t 21)),
   o 23 (.fadr 1 (.t 6)),
   o 24 (.load none (.t 23)),
   o 25 (.bin .mul (.c (.int .i64 2)) (.t 24)),
   o 26 (.fadr 1 (.t 3)),
   o 27 (.load none (.t 26)),
   o 28 (.bin .sub (.t 25) (.t 27)),
   o 29 (.fadr 0 (.t 7)),
   o 30 (.load none (.t 29)),
   o 31 (.bin .mul (.c (.int .i64 2)) (.t 30)),
   o 32 (.fadr 0 (.t 3)),
   o 33 (.load none (.t 32)),
   o 34 (.bin .sub (.t 31) (.t 33)),
   o 35 (.fadr 1 (.t 7)),
   o 36 (.load none (.t 35)),
   o 37 (.bin .mul (.c (.int .i64 2)) (.t 36)),
   o 38 (.fadr 1 (.t 3)),
   o 39 (.load none (.t 38)),
   o 40 (.bin .sub (.t 37) (.t 39)),
   o 8 (.mv (.t 22)),
   o 9 (.mv (.t 28)),
   o 10 (.mv (.t 34))]
   [o 11 (.mv (.t 40))])<|
  .seq (.keep [4,5,8,9,10,11,12]<|.region [o 41 (.mv (.t 8)),
   o 42 (.mv (.t 11)),
   o 43 (.bin .mul (.t 41) (.t 42)),
   o 44 (.mv (.t 9)),
   o 45 (.mv (.t 10)),
   o 46 (.bin .mul (.t 44) (.t 45)),
   o 47 (.bin .sub (.t 43) (.t 46)),
   o 12 (.mv (.t 47))])<|
  .seq (.keep [4,9,11,12]<|.region [o 48 (.load none (.t 5)),
   o 49 (.mv (.t 48)),
   og 50 (.mv (.t 12)) 49 false,
   og 51 (.bin .eql (.t 50) (.c (.int .i64 0))) 49 false,
   og 52 (.mv (.t 51)) 49 false,
   og 53 (.mv (.t 8)) 52 true,
   og 54 (.mv (.t 10)) 52 true,
   og 55 (.bin .mul (.t 53) (.t 54)) 52 true,
   og 56 (.mv (.t 9)) 52 true,
   og 57 (.mv (.t 11)) 52 true,
   og 58 (.bin .mul (.t 56) (.t 57)) 52 true,
   og 59 (.bin .add (.t 55) (.t 58)) 52 true,
   og 60 (.bin .leq (.t 59) (.c (.int .i64 0))) 52 true,
   og 61 (.pick (.t 52) (.t 60) (.c (.bool false))) 49 false,
   o 62 (.pick (.t 49) (.c (.bool true)) (.t 61)),
   ⟨none,.store 1 (.t 5) (.t 62),none⟩])<|
  hfD
theorem Zqk (p a b:Pt) (w:Int) (F:Fr) (hb6:Zd 6 (frV F)=true) (x:Bool) (r3 r4 r5:AObj) (h3:∀ n,2≤n→Zj n r3=true) (h4:∀ n,2≤n→Zj n r4=true) (h5:∀ n,2≤n→Zj n r5=true):
 Zb rE hfD [(4,.ptr 0 0 0 1),(9,I (hfX a.Y p.Y)),(11,I (hfX b.Y p.Y)),(12,I (ZoX p a b))] [.row 1 [I w],.row 1 [.bool x],.loop .busy .normal F [15,16] c237R0a c237R0b,r3,r4,r5] =
  some (.normal,[],[.row 1 [I (Zp4 p a b w)],.row 1 [.bool x],.loop .busy .normal F [15,16] c237R0a c237R0b,r3,r4,r5]):=by
 have t6:decide (hfX a.Y p.Y > 0) = !decide (hfX a.Y p.Y≤0):=by by_cases c:hfX a.Y p.Y≤0<;>simp [c]<;>omega
 have t7:decide (hfX b.Y p.Y≤0) = !decide (hfX b.Y p.Y > 0):=by by_cases c:hfX b.Y p.Y > 0<;>simp [c]<;>omega
 have q3:=h3 6 (by decide)
 have q4:=h4 6 (by decide)
 have q5:=h5 6 (by decide)
 unfold Zp4;rw [t6,t7];generalize hfX a.Y p.Y=ay at *;generalize hfX b.Y p.Y=by' at *
 generalize ZoX p a b=tn at *;cases d3:decide (ay≤0) with
 | true=>
  cases d4:decide (by' > 0) with
  | true=>
   rw [d3] at t6;cases d5:decide (tn > 0) with
   | true=>simp only [go_sem,qy,qq,qx,qz,qv,qk,reduceIte,hfD,d3,d4,d5,hb6,q3,q4,q5]
   | false=>simp only [go_sem,qy,qq,qx,qz,qv,qk,reduceIte,hfD,d3,d4,d5,t6,hb6,q3,q4,q5,Bool.not_true,Bool.and_false,Bool.false_and,cond_false]
  | false=>
   rw [d3] at t6;simp only [go_sem,qy,qq,qx,qz,qv,qk,reduceIte,hfD,d3,d4,t6,hb6,q3,q4,q5,Bool.not_true,Bool.and_false,Bool.false_and,cond_false]
 | false=>
  rw [d3] at t6;cases d4:decide (by' > 0) with
  | true=>
   rw [d4] at t7;simp only [go_sem,qy,qq,qx,qz,qv,qk,reduceIte,hfD,d3,t6,t7,hb6,q3,q4,q5,Bool.not_true,Bool.not_false,Bool.and_false,Bool.false_and,cond_false]
  | false=>
   rw [d4] at t7;cases d8:decide (tn < 0) with
   | true=>simp only [go_sem,qy,qq,qx,qz,qv,qk,reduceIte,hfD,d3,t6,t7,d8,hb6,q3,q4,q5,Bool.not_false,Bool.false_and,cond_false,Bool.and_true,cond_true]
   | false=>simp only [go_sem,qy,qq,qx,qz,qv,qk,reduceIte,hfD,d3,t6,t7,d8,hb6,q3,q4,q5,Bool.not_false,Bool.false_and,cond_false,Bool.and_false]
theorem Zql (v:AV) (hv:∀ n,bel n v=true) (p:Pt) (st:Int×Bool) (q a b:Pt):
 U4 rE 2 [.agg [I a.X,I a.Y],.agg [I b.X,I b.Y]] (hfH v p st++[.row 2 [.agg [I q.X,I q.Y]]]) =
  some (.bool true,hfH v p (Zp4 p a b st.1,st.2||Zp9 p a b)++[.row 2 [.agg [I q.X,I q.Y]],.row 2 [.agg [I a.X,I a.Y]],.row 2 [.agg [I b.X,I b.Y]]]):=by
 have h:=Ss (E:=rE) (b:=2) (args:=[.agg [I a.X,I a.Y],.agg [I b.X,I b.Y]]) (h:=hfH v p st++[.row 2 [.agg [I q.X,I q.Y]]]) (fr:=ZoD v p) (ps:=[15,16]) (assign:=c237R0a) (body:=c237R0b)
  (fr0:=(16,.agg [I b.X,I b.Y])::(15,.agg [I a.X,I a.Y])::ZoD v p) rfl rfl (by simp only [go_sem,qy,qq,qx,qz,qv,qk,reduceIte,c237R0a,hfH,ZoD]<;>rfl) (by rfl)
  (e:=.normal) (fr2:=[]) (h2:=[.row 1 [I (Zp4 p a b st.1)],.row 1 [.bool (st.2||Zp9 p a b)],.loop .busy .normal (ZoD v p) [15,16] c237R0a c237R0b,.row 2 [.agg [I q.X,I q.Y]],.row 2 [.agg [I a.X,I a.Y]],.row 2 [.agg [I b.X,I b.Y]]])
  (by
   show Zb rE hfB [(7,.ptr 5 0 0 1),(6,.ptr 4 0 0 1),(16,.agg [I b.X,I b.Y]),(15,.agg [I a.X,I a.Y]),(14,.clo (.func 336) [] [.iptr false [v]]),(13,v),(0,v),(3,.iptr false [I p.X,I p.Y]),(4,.ptr 0 0 0 1),(5,.ptr 1 0 0 1)]
    [.row 1 [I st.1],.row 1 [.bool st.2],.loop .busy .normal (ZoD v p) [15,16] c237R0a c237R0b,.row 2 [.agg [I q.X,I q.Y]],.row 2 [.agg [I a.X,I a.Y]],.row 2 [.agg [I b.X,I b.Y]]]=_
   have hb6:Zd 6 (frV (ZoD v p))=true:=by simp only [go_sem,qy,qq,qx,qz,qv,qk,reduceIte,ZoD,hv]
   have hr:∀ (z:Pt) n,2≤n→Zj n (.row 2 [.agg [I z.X,I z.Y]])=true:=fun z n _=>rfl
   have hL:=fun x=>Zqk p a b st.1 (ZoD v p) hb6 x (.row 2 [.agg [I q.X,I q.Y]]) (.row 2 [.agg [I a.X,I a.Y]]) (.row 2 [.agg [I b.X,I b.Y]]) (hr q) (hr a) (hr b)
   simp only [hfX,ZoX] at hL;unfold Zp9 ZoX hfX;cases c1:st.2 with
   | true=>
    rw [Bool.true_or];simp only [go_sem,qy,qq,qx,qz,qv,qk,reduceIte,hfB,hv,hb6,hL]
   | false=>
    rw [Bool.false_or];cases d1:W (W (W (W (2 * a.X) - p.X) * W (W (2 * b.Y) - p.Y)) - W (W (W (2 * a.Y) - p.Y) * W (W (2 * b.X) - p.X)))==0 with
    | true=>simp only [go_sem,qy,qq,qx,qz,qv,qk,reduceIte,hfB,hv,hb6,hL,d1,Bool.true_and]
    | false=>simp only [go_sem,qy,qq,qx,qz,qv,qk,reduceIte,hfB,hv,hb6,hL,d1,Bool.false_and]) (by rfl)
 exact h
theorem Zqm (l:List Pt) (ex:Bool) (hl:l.length≤1000000) (p:Pt):pfn rE 237 [.isl false ex 2 (l.map Pt.enc),.agg [I p.X,I p.Y]]=some (.tup [I (ZoC l p).1,.bool (ZoC l p).2]):=by
 have hv:∀ n,bel n (.isl false ex 2 (l.map Pt.enc))=true:=fun n=>by
  have:=ZN (n:=n) [.isl false ex 2 (l.map Pt.enc)] (by have:=Zw (f:=Pt.enc) (fun t=>rfl) l;simp only [go_sem,qy,qq,qx,qz,qv,qk,reduceIte,this])
  unfold Zd at this;rw [Bool.and_eq_true] at this;exact this.1
 have hb3:Zd 3 (frV (ZoD (.isl false ex 2 (l.map Pt.enc)) p))=true:=by simp only [go_sem,qy,qq,qx,qz,qv,qk,reduceIte,ZoD,hv]
 have L:=Y8 (E:=rE) (live:=[0,1,5,6,7]) (b:=c336L0b) l.length (fun i=>[(0,.yld 2),(1,.iptr false [.isl false ex 2 (l.map Pt.enc)]),(5,.isl false ex 2 (l.map Pt.enc)),(6,I l.length),(7,I i)])
  (fun i=>hfH (.isl false ex 2 (l.map Pt.enc)) p ((List.range i).foldl (ZoP p l) (0,false))) (fun i=>rfl)
  (fun i hi=>by
   have h0:0 < l.length:=by omega
   have hg:=YN hi;have hg2:=YN (l:=l) (Nat.mod_lt (i+1) h0);have hi':=Zh hi;have hw:=Zx (n:=i) (by omega)
   have hn:=nat_ne h0;have hy:=Zql (.isl false ex 2 (l.map Pt.enc)) hv p ((List.range i).foldl (ZoP p l) (0,false)) (pAt l i) (pAt l i) (pAt l ((i+1) % l.length));have hs:(List.range (i+1)).foldl (ZoP p l) (0,false)=ZoP p l ((List.range i).foldl (ZoP p l) (0,false)) i:=by
    rw [List.range_succ,List.foldl_append];rfl
   rw [hs];generalize (List.range i).foldl (ZoP p l) (0,false)=n at *;unfold ZoP;simp only [hfH,List.cons_append,List.nil_append] at hy ⊢;refine ⟨_,by simp only [go_sem,qy,qq,qx,qz,qv,qk,reduceIte,c336L0b,S3,hg,hg2,hi',hw,hn,Jc,hy,Pt.enc,hb3];rfl,?_⟩
   simp only [go_sem,qy,qq,qx,qz,qv,qk,reduceIte])
  (e:=.exit 0) (by simp only [go_sem,qy,qq,qx,qz,qv,qk,reduceIte,hfH,c336L0b,ZG];rfl) (by simp)
 have L':Zg rE [0,1,5,6,7] c336L0b [(0,.yld 2),(1,.iptr false [.isl false ex 2 (l.map Pt.enc)]),(5,.isl false ex 2 (l.map Pt.enc)),(6,I l.length),(7,.int .i64 0)] [.row 1 [.int .i64 0],.row 1 [.bool false],.loop .ready .normal (ZoD (.isl false ex 2 (l.map Pt.enc)) p) [15,16] c237R0a c237R0b]=_:=L;rw [Z5 (f:=237) rfl rfl];have hrf:rf rE (.clo (.func 336) [] [.iptr false [.isl false ex 2 (l.map Pt.enc)]]) [15,16] c237R0a c237R0b (ZoD (.isl false ex 2 (l.map Pt.enc)) p) [.row 1 [.int .i64 0],.row 1 [.bool false]] =
  some (.normal,ZoD (.isl false ex 2 (l.map Pt.enc)) p,[.row 1 [I (ZoC l p).1],.row 1 [.bool (ZoC l p).2],.loop .exhausted .normal (ZoD (.isl false ex 2 (l.map Pt.enc)) p) [15,16] c237R0a c237R0b]):=by
  rw [Z1k (c:=c336) rfl];simp only [go_sem,qy,qq,qx,qz,qv,qk,reduceIte,c336,c336L0,L',hb3];rfl
 simp only [ZoD] at hrf;simp only [go_sem,qy,qq,qx,qz,qv,qk,reduceIte,c237,Z1l,Sr,hrf,hv]
def ZoY (l:List Pt) (p:Pt):Int:=
 bif (!Vh l||Jf p)||((ZoC l ⟨W (2 * p.X),W (2 * p.Y)⟩).1==0&&!(ZoC l ⟨W (2 * p.X),W (2 * p.Y)⟩).2) then -1
 else bif (ZoC l ⟨W (2 * p.X),W (2 * p.Y)⟩).1 != 0&&!(ZoC l ⟨W (2 * p.X),W (2 * p.Y)⟩).2 then 1 else 0
theorem Zqn (l:List Pt) (ex:Bool) (hl:l.length≤1000000) (p:Pt):pfn rE 53 [.isl false ex 2 (l.map Pt.enc),.agg [I p.X,I p.Y]]=some (I (ZoY l p)):=by
 have hV:=Dz l ex hl;have hO:=Z1h p;have hH:=Zqm l ex hl ⟨W (2 * p.X),W (2 * p.Y)⟩;have hO2:pfn rE 128 [.isl false ex 2 (l.map Pt.enc),.agg [I (W (2 * p.X)),I (W (2 * p.Y))]]=some (.bool ((ZoC l ⟨W (2 * p.X),W (2 * p.Y)⟩).1==0&&!(ZoC l ⟨W (2 * p.X),W (2 * p.Y)⟩).2)):=by
  rw [Z5 (f:=128) rfl rfl];cases c:(ZoC l ⟨W (2 * p.X),W (2 * p.Y)⟩).1==0<;>simp only [go_sem,qy,qq,qx,qz,qv,qk,reduceIte,c128,hH,c,Bool.true_and,Bool.false_and]
 have hI:pfn rE 129 [.isl false ex 2 (l.map Pt.enc),.agg [I (W (2 * p.X)),I (W (2 * p.Y))]]=some (.bool ((ZoC l ⟨W (2 * p.X),W (2 * p.Y)⟩).1 != 0&&!(ZoC l ⟨W (2 * p.X),W (2 * p.Y)⟩).2)):=by
  rw [Z5 (f:=129) rfl rfl];cases c:(ZoC l ⟨W (2 * p.X),W (2 * p.Y)⟩).1 != 0<;>simp only [go_sem,qy,qq,qx,qz,qv,qk,reduceIte,c129,hH,c,Bool.true_and,Bool.false_and]
 rw [Z5 (f:=53) rfl rfl];unfold ZoY;generalize ((ZoC l ⟨W (2 * p.X),W (2 * p.Y)⟩).1==0&&!(ZoC l ⟨W (2 * p.X),W (2 * p.Y)⟩).2)=b1 at *;generalize ((ZoC l ⟨W (2 * p.X),W (2 * p.Y)⟩).1 != 0&&!(ZoC l ⟨W (2 * p.X),W (2 * p.Y)⟩).2)=b2 at *;cases c1:Vh l with
 | false=>simp only [go_sem,qy,qq,qx,qz,qv,qk,reduceIte,c53,hV,c1,Bool.not_false,Bool.true_or,cond_true]
 | true=>
 cases c2:Jf p with
 | true=>simp only [go_sem,qy,qq,qx,qz,qv,qk,reduceIte,c53,hV,hO,c1,c2,Bool.not_true,Bool.false_or,Bool.true_or,cond_true]
 | false=>
 cases b1 with
 | true=>simp only [go_sem,qy,qq,qx,qz,qv,qk,reduceIte,c53,hV,hO,hO2,c1,c2,Bool.not_true,Bool.false_or,cond_true]
 | false=>
 cases b2<;>simp only [go_sem,qy,qq,qx,qz,qv,qk,reduceIte,c53,hV,hO,hO2,hI,c1,c2,Bool.not_true,Bool.false_or,cond_true,cond_false]
end Go.AM
namespace Go.AM
open Go
def ZoG (x:Region):Bool:=x.Kind==1&&x.Ended==-1
theorem ZpM (x:Region):pfn rE 134 [x.enc]=some (.bool (ZoG x)):=by
 rw [Z5 (f:=134) rfl rfl];unfold ZoG;cases c:x.Kind==1<;>simp only [go_sem,qy,qq,qx,qz,qv,qk,reduceIte,c134,Region.enc,NL.enc,c,Bool.true_and,Bool.false_and]
def ZoF (s:Sta) (p:Pt) (K:List Int) (x:Region):List Int:=bif ZoG x&&decide (ZoY x.Ring.l p ≥ 0) then Qi Vm K (Zoq s x.Owner) else K
def Zoy (s:Sta) (p:Pt):List Int:=s.Regions.foldl (ZoF s p) []
def ZoH (s:Sta) (p:Pt):List Int:=Zox (Zoy s p)
structure ClS (s:Sta):Prop where
 E:StE s
 pr:Jx s=true
theorem ClS.prop {s:Sta} (h:ClS s):Prop' s:=((Zdb s).1 h.pr).1
theorem Zpa {a b c:Int} (h:QM a b c=true):0≤a∧a≤63:=by
 unfold QM ZD at h;simp only [Bool.and_eq_true,decide_eq_true_eq] at h;exact h.1
theorem ClS.reg {s:Sta} (h:ClS s) {x:Region} (hx:x∈s.Regions):0≤x.Owner∧x.Owner≤63:=by
 have:=h.prop.rg x hx;unfold Vo at this;simp only [Bool.and_eq_true] at this;exact Zpa this.1
theorem ClS.mst {s:Sta} (h:ClS s) {a:Int} (ha:0≤a):pfn rE 66 [ldI s,I a]=some (I (Zoq s a)):=ZpJ s h.prop.pa a ha
theorem ZpN {s:Sta} (h:ClS s) (p:Pt):∀ (l:List Region) (K:List Int),(∀ x∈l,x∈s.Regions)→(∀ z∈K,0≤z∧z≤63)→∀ z∈l.foldl (ZoF s p) K,0≤z∧z≤63
 | [],K,_,hK=>hK
 | x::r,K,hl,hK=>by
  rw [List.foldl_cons];refine ZpN h p r _ (fun y hy=>hl y (List.mem_cons_of_mem _ hy)) (fun z hz=>?_)
  unfold ZoF at hz;cases c:ZoG x&&decide (ZoY x.Ring.l p ≥ 0) with
  | false=>rw [c] at hz;exact hK z hz
  | true=>
   rw [c,cond_true] at hz;unfold Qi at hz;cases d:K.any (Vm (Zoq s x.Owner)) with
   | true=>rw [d] at hz;exact hK z hz
   | false=>
    rw [d,cond_false,List.mem_append,List.mem_singleton] at hz;rcases hz with hz | rfl
    ·exact hK z hz
    ·exact ZpH h.prop.pa (h.reg (hl x (List.mem_cons_self ..)))
theorem Zqo (s:Sta) (h:ClS s) (p:Pt):Zg rE [0,3,5,13,14,15] c62L0b [(0,ldI s),(3,.iptr false [I p.X,I p.Y]),(5,.mp 0),(13,.isl false false 6 (s.Regions.map Region.enc)),(14,I s.Regions.length),(15,.int .i64 0)] [.map [] []] =
 some (.exit 0,[(0,ldI s),(3,.iptr false [I p.X,I p.Y]),(5,.mp 0),(13,.isl false false 6 (s.Regions.map Region.enc)),(14,I s.Regions.length),(15,I s.Regions.length)],[.map ((Zoy s p).map I) (ZO (Zoy s p).length)]):=by
 have hl:=h.E.sizes.regions;have hbl:=Zot s;have hb:∀ (K:List Int) n,Zd n (K.map I)=true∧Zd n (ZO K.length)=true:=fun K n=>⟨ZN _ (Zw (fun t=>rfl) K),ZN _ (Ut _)⟩
 have L:=Y8 (E:=rE) (live:=[0,3,5,13,14,15]) (b:=c62L0b) s.Regions.length (fun i=>[(0,ldI s),(3,.iptr false [I p.X,I p.Y]),(5,.mp 0),(13,.isl false false 6 (s.Regions.map Region.enc)),(14,I s.Regions.length),(15,I i)])
  (fun i=>[.map (((s.Regions.take i).foldl (ZoF s p) []).map I) (ZO ((s.Regions.take i).foldl (ZoF s p) []).length)]) (fun i=>rfl)
  (fun i hi=>by
   obtain ⟨x,hx⟩:∃ x,s.Regions[i]? = some x:=⟨_,List.getElem?_eq_getElem hi⟩;have hm:=List.mem_of_getElem? hx;have hg:=Z6 (f:=Region.enc) hx;have hi':=Zh hi;have hwr:=Zx (n:=i) (by omega)
   have hT:=ZpM x;have hW:=Zqn x.Ring.l x.Ring.ex (Nat.le_trans (h.E.regions x hm).2.1 (by omega)) p
   have hM:=h.mst (h.reg hm).1;rw [Us _ _ hx];generalize List.foldl (ZoF s p) [] (s.Regions.take i)=K at *;unfold ZoF;have hp:=fun (q:AObj)=>Ur (eq:=Vm) Wi K (Zoq s x.Owner) (h:=[.map (K.map I) (ZO K.length),q]) (b:=0) rfl
   refine ⟨[(0,ldI s),(3,.iptr false [I p.X,I p.Y]),(5,.mp 0),(13,.isl false false 6 (s.Regions.map Region.enc)),(14,I s.Regions.length),(15,I (i+1:Nat))],?_,rfl⟩;simp only [Region.enc,NL.enc] at hT;cases c1:ZoG x with
   | false=>
    rw [c1] at hT;simp only [go_sem,qy,qq,qx,qz,qv,qk,reduceIte,c62L0b,hg,hi',hwr,hT,Region.enc,NL.enc,hb,hbl,Bool.false_and,cond_false]
   | true=>
   rw [c1] at hT;cases c2:decide (ZoY x.Ring.l p ≥ 0) with
   | false=>simp only [go_sem,qy,qq,qx,qz,qv,qk,reduceIte,c62L0b,hg,hi',hwr,hT,hW,c2,Region.enc,NL.enc,hb,hbl,Bool.true_and,cond_false]
   | true=>simp only [go_sem,qy,qq,qx,qz,qv,qk,reduceIte,c62L0b,hg,hi',hwr,hT,hW,hM,hp,c2,Region.enc,NL.enc,hb,hbl,Bool.true_and,cond_true])
  (e:=.exit 0) (fr:=[(0,ldI s),(3,.iptr false [I p.X,I p.Y]),(5,.mp 0),(13,.isl false false 6 (s.Regions.map Region.enc)),(14,I s.Regions.length),(15,I s.Regions.length)]) (h:=[.map ((Zoy s p).map I) (ZO (Zoy s p).length)]) (by
   rw [List.take_length];show Zb rE _ _ [.map ((Zoy s p).map I) (ZO (Zoy s p).length)]=_
   simp only [go_sem,qy,qq,qx,qz,qv,qk,reduceIte,c62L0b,ZG,hb,hbl]) (by simp)
 exact L
theorem Zqp (b:Nat) (h:Hp):fnV rE 136 [.mp b] h=some (.clo (.func 240) [] [.ptr h.length 0 0 1],h++[.row 1 [.mp b]]):=by
 rw [Q6 (f:=136) rfl rfl];simp only [go_sem,qy,qq,qx,qz,qv,qk,reduceIte,c136]
theorem Zqq (K:List Int) (vs:List AV) (hK:∀ z∈K,0≤z∧z≤63) (hl:K.length≤1000000):fnV rE 135 [.clo (.func 240) [] [.ptr 1 0 0 1]] [.map (K.map I) vs,.row 1 [.mp 0]] =
 some (.sl 2 K.length 0 K.length false,[.map (K.map I) vs,.row 1 [.mp 0],.row 1 ((Zox K).map I)]):=by
 have hi:(K.map I).all Zp2=true:=by
  rw [List.all_map,List.all_eq_true];intro z hz;obtain ⟨h1,h2⟩:=hK z hz;show (decide (-9223372036854775808≤z)&&decide (z≤9223372036854775807))=true
  rw [decide_eq_true (by omega),decide_eq_true (by omega)]
  rfl
 have hb:Nat.ble K.length 1000000=true:=Nat.ble_eq_true_of_le hl;have hs:Yk (K.map I)=(Zox K).map I:=Zpl K;rw [V8 (s:=ZoZ) rfl];unfold ZoZ;simp only [List.getElem?_cons_succ,List.getElem?_cons_zero,hi,hb,Bool.and_true,hs,List.length_map];rfl
theorem ZpO (s:Sta) (h:ClS s) (p:Pt):pfn rE 62 [ldI s,.agg [I p.X,I p.Y]]=some (.isl false false 1 ((ZoH s p).map I)):=by
 have L:=Zqo s h p;have hR:∀ z∈Zoy s p,0≤z∧z≤63:=ZpN h p s.Regions [] (fun x hx=>hx) (fun z hz=>by cases hz)
 have hlen:(Zoy s p).length≤1000000:=by
  have G:∀ (l:List Region) (K:List Int),(l.foldl (ZoF s p) K).length≤K.length+l.length:=by
   intro l;induction l with
   | nil=>intro K;exact Nat.le_refl _
   | cons x r ih=>
    intro K;rw [List.foldl_cons,List.length_cons];refine Nat.le_trans (ih _) ?_;have:(ZoF s p K x).length≤K.length+1:=by
     unfold ZoF Qi;cases ZoG x&&decide (ZoY x.Ring.l p ≥ 0) with
     | false=>exact Nat.le_succ _
     | true=>
      rw [cond_true];cases K.any (Vm (Zoq s x.Owner)) with
      | true=>exact Nat.le_succ _
      | false=>rw [cond_false,List.length_append];exact Nat.le_refl _
    omega
  have:=G s.Regions [];have hl:=h.E.sizes.regions;unfold Zoy;simp only [List.length_nil] at this;omega
 have hk:=Zqp 0 [.map ((Zoy s p).map I) (ZO (Zoy s p).length)];have hs:=Zqq (Zoy s p) (ZO (Zoy s p).length) hR hlen;have hsl:(Zox (Zoy s p)).length=(Zoy s p).length:=(Zp3 _).length_eq;have hc:Z4 ((Zox (Zoy s p)).map I)=true:=Zw (fun t=>rfl) _
 have htk:List.take (Zoy s p).length ((Zox (Zoy s p)).map I)=(Zox (Zoy s p)).map I:=List.take_of_length_le (by simp [hsl])
 have hb:∀ (K:List Int) n,Zd n (K.map I)=true∧Zd n (ZO K.length)=true:=fun K n=>⟨ZN _ (Zw (fun t=>rfl) K),ZN _ (Ut _)⟩
 have hbl:=Zot s;have hcl:=Zow s;unfold ZoH;rw [Z5 (f:=62) rfl rfl];simp only [List.length_cons,List.length_nil,List.cons_append,List.nil_append,Nat.zero_add,qq] at hk;simp only [go_sem,qy,qq,qx,qz,qv,qk,reduceIte,c62,c62L0,L,hk,hs,hb,hbl,hcl,hc,hsl,List.length_map,htk,List.drop_zero,beq_self_eq_true]
end Go.AM
namespace Go.AM
open Go
theorem Zqr (l:List Str) (hl:l.length≤100000) (id:Str) (bw ex:Bool):pfn rE 246 [.isl bw ex 1 (l.map encS),.str id]=some (.bool (l.any (fun x=>Z3 id x))):=by
 have h:=Nz (f:=305) (enc:=encS) (p:=fun x=>Z3 id x) (v:=.str id) rfl rfl l (by omega) (fun x _=>rfl) rfl (fun x _=>rfl) bw ex
 rw [Z5 (f:=246) rfl rfl,←Vg];unfold WG;cases bw<;>simp only [go_sem,qy,qq,qx,qz,qv,qk,reduceIte,c246,h]
def ZoM (e:Event):List Pt:=
 bif !Q9 e then [] else
 bif e.Kind==1||(e.Kind==2||e.Kind==5) then e.Path.l.take 1 else
 bif e.Kind==6||e.Kind==10 then [e.Point] else
 bif e.Kind==9 then e.Lst.l.map (·.Point) else []
theorem Zqs {e:Event} (h:Q9 e=true) (hk:(e.Kind==1||(e.Kind==2||e.Kind==5))=true):0 < e.Path.l.length:=by
 have hn:=ZcV h;have hp:Vh e.Path.l=true∨Ul e.Path.l=true:=by
  rcases (by simpa using hk:e.Kind=1∨e.Kind=2∨e.Kind=5) with k | k | k
  ·rw [ZcW k] at hn;have hn':(ZZ e.Id&&(ZD e.A 1 3&&Vh e.Path.l))=true:=hn;simp only [Bool.and_eq_true] at hn';exact Or.inl hn'.2.2
  ·rw [ZcW k] at hn;have hn':(ZZ e.Id&&Ul e.Path.l)=true:=hn;simp only [Bool.and_eq_true] at hn';exact Or.inr hn'.2
  ·rw [ZcW k] at hn;have hn':(ZZ e.Id&&Vh e.Path.l)=true:=hn;simp only [Bool.and_eq_true] at hn';exact Or.inl hn'.2
 rcases hp with hp | hp
 ·unfold Vh at hp;rw [Bool.and_eq_true] at hp;have:=of_decide_eq_true hp.1;omega
 ·unfold Ul at hp;simp only [Bool.and_eq_true] at hp;have:=of_decide_eq_true hp.2.1;omega
theorem Zqt (e:Event) (hl:e.Lst.l.length≤1000):Zg rE [3,28,29,30] c55L0b [(3,.sl 0 0 0 0 false),(28,.isl false e.Lst.ex 7 (e.Lst.l.map Ent.enc)),(29,I e.Lst.l.length),(30,.int .i64 0)] [.row 2 []] =
 some (.exit 1,[(3,.sl 0 e.Lst.l.length 0 e.Lst.l.length false),(28,.isl false e.Lst.ex 7 (e.Lst.l.map Ent.enc)),(29,I e.Lst.l.length),(30,I e.Lst.l.length)],[.row 2 ((e.Lst.l.map (·.Point)).map Pt.enc)]):=by
 have hbP:∀ (D:List Pt) n,Zd n (D.map Pt.enc)=true:=fun D n=>ZN _ (Zw (fun t=>rfl) D)
 have L:=Y8 (E:=rE) (live:=[3,28,29,30]) (b:=c55L0b) e.Lst.l.length (fun i=>[(3,.sl 0 i 0 i false),(28,.isl false e.Lst.ex 7 (e.Lst.l.map Ent.enc)),(29,I e.Lst.l.length),(30,I i)])
  (fun i=>[.row 2 (((e.Lst.l.take i).map (·.Point)).map Pt.enc)]) (fun i=>rfl)
  (fun i hi=>by
   obtain ⟨x,hx⟩:∃ x,e.Lst.l[i]? = some x:=⟨_,List.getElem?_eq_getElem hi⟩;have hlen:(e.Lst.l.take i).length=i:=by rw [List.length_take];omega
   have hg:=Z6 (f:=Ent.enc) hx;have hi':=Zh hi;have hwr:=Zx (n:=i) (by omega)
   have htk:(e.Lst.l.take (i+1)).map (·.Point)=(e.Lst.l.take i).map (·.Point)++[x.Point]:=by
    rw [List.take_add_one,hx,List.map_append];rfl
   have ha:=fun (q:AObj)=>XC (h:=[.row 2 (((e.Lst.l.take i).map (·.Point)).map Pt.enc),q]) (fz:=false) (b:=0) (g:=i) (sz:=2) (bytes:=16) (es:=((e.Lst.l.take i).map (·.Point)).map Pt.enc) (bw:=false) (ex:=false) (ys:=[.agg [I x.Point.X,I x.Point.Y]]) (by show (bif (((e.Lst.l.take i).map (·.Point)).map Pt.enc).length==i then _ else none)=_;rw [List.length_map,List.length_map,hlen,beq_self_eq_true];rfl) rfl rfl (by decide) (by decide) (by simp;omega)
   have hma:((e.Lst.l.take i).map (·.Point)++[x.Point]).map Pt.enc=((e.Lst.l.take i).map (·.Point)).map Pt.enc++[.agg [I x.Point.X,I x.Point.Y]]:=by rw [List.map_append];rfl
   rw [htk,hma];have hb2:∀ n,Zd n (((e.Lst.l.take i).map (·.Point)).map Pt.enc++[.agg [I x.Point.X,I x.Point.Y]])=true:=fun n=>by rw [←hma];exact hbP _ n
   generalize ((e.Lst.l.take i).map (·.Point)).map Pt.enc=es at *;refine ⟨[(3,.sl 0 (i+1) 0 (i+1) false),(28,.isl false e.Lst.ex 7 (e.Lst.l.map Ent.enc)),(29,I e.Lst.l.length),(30,I (i+1:Nat))],?_,rfl⟩;simp only [go_sem,qy,qq,qx,qz,qv,qk,reduceIte,c55L0b,hg,hi',hwr,ha,hb2,hbP,Ent.enc])
  (e:=.exit 1) (fr:=[(3,.sl 0 e.Lst.l.length 0 e.Lst.l.length false),(28,.isl false e.Lst.ex 7 (e.Lst.l.map Ent.enc)),(29,I e.Lst.l.length),(30,I e.Lst.l.length)]) (h:=[.row 2 ((e.Lst.l.map (·.Point)).map Pt.enc)]) (by
   rw [List.take_length];simp only [go_sem,qy,qq,qx,qz,qv,qk,reduceIte,c55L0b,ZG,hbP]) (by simp)
 exact L
theorem Zqu (l:List Pt) (ex:Bool) (h0:0 < l.length) (hl:l.length≤1000000):pfn rE 130 [.isl false ex 2 (l.map Pt.enc)]=some (.isl false false 2 (l.map Pt.enc)):=by
 have hfit:(l.map Pt.enc).all (fits 2)=true:=by
  rw [List.all_map,List.all_eq_true];intro x _;rfl
 have hne:(l.map Pt.enc).isEmpty=false:=by
  cases l with
  | nil=>exact absurd h0 (Nat.not_lt_zero _)
  | cons x r=>rfl
 have hble:Nat.ble l.length 1000000=true:=Nat.ble_eq_true_of_le hl;have hc:Z4 (l.map Pt.enc)=true:=Zw (fun t=>rfl) _
 have htk:List.take l.length (l.map Pt.enc)=l.map Pt.enc:=List.take_of_length_le (by simp)
 have h1:fnV rE 130 [.isl false ex 2 (l.map Pt.enc)] []=some (.sl 0 l.length 0 l.length false,[.row 2 (l.map Pt.enc)]):=by
  rw [V8 (s:=YL 2) rfl];simp only [YL,Q2,Qq,hfit,hne,List.length_map,hble,beq_self_eq_true,Bool.true_or,Bool.and_true,Bool.true_and,Bool.not_false,cond_true,List.nil_append,List.length_nil]
 unfold pfn;rw [h1,ZM];simp only [go_sem,qy,qq,qx,qz,qv,qk,reduceIte,hc,htk,List.length_map,List.drop_zero,beq_self_eq_true]
theorem Zqv (e:Event) (he:EvS e):pfn rE 55 [evA e]=some (.isl false false 2 ((ZoM e).map Pt.enc)):=by
 have hF:=NH e he;have hL:=Zqt e (by have:=he.lst;omega)
 have hcP:∀ D:List Pt,Z4 (D.map Pt.enc)=true:=fun D=>Zw (fun t=>rfl) _
 have htk:List.take e.Lst.l.length ((e.Lst.l.map (·.Point)).map Pt.enc)=(e.Lst.l.map (·.Point)).map Pt.enc:=List.take_of_length_le (by simp)
 have hpos:=Zqs (e:=e);rw [Z5 (f:=55) rfl rfl];unfold ZoM;simp only [evA] at hF;cases c0:Q9 e with
 | false=>
  rw [c0] at hF;simp only [go_sem,qy,qq,qx,qz,qv,qk,reduceIte,c55,hF,Bool.not_false,cond_true,List.map_nil]
 | true=>
 rw [c0] at hF;have hcl:(e.Kind==1||(e.Kind==2||e.Kind==5))=true→∀ x,pfn rE 130 [.isl false x 2 ((e.Path.l.take 1).map Pt.enc)]=some (.isl false false 2 ((e.Path.l.take 1).map Pt.enc)):=fun hk x=>Zqu _ _ (by have:=hpos c0 hk;rw [List.length_take];omega) (by rw [List.length_take];omega)
 have hp1:(e.Kind==1||(e.Kind==2||e.Kind==5))=true→bounds none (some (I 1)) none e.Path.l.length=some (0,1,none):=fun hk=>by
  have h1:=hpos c0 hk;have h2:Nat.ble 1 e.Path.l.length=true:=Nat.ble_eq_true_of_le h1;simp [bounds,Vz,Wl,VA,numOf,VB,h2];rfl
 have hm:List.take 1 (e.Path.l.map Pt.enc)=(e.Path.l.take 1).map Pt.enc:=List.map_take.symm;cases k1:e.Kind==1 with
 | true=>
  rw [k1] at hcl hp1;have hcl:=hcl rfl;have hp1:=hp1 rfl;simp only [go_sem,qy,qq,qx,qz,qv,qk,reduceIte,c55,c55L0,hF,hL,k1,hp1,hm,hcl,Bool.not_true,cond_false,cond_true,Bool.true_or,if_true]
 | false=>
 cases k2:e.Kind==2 with
 | true=>
  rw [k1,k2] at hcl hp1;have hcl:=hcl rfl;have hp1:=hp1 rfl;simp only [go_sem,qy,qq,qx,qz,qv,qk,reduceIte,c55,c55L0,hF,hL,k1,k2,hp1,hm,hcl,Bool.not_true,cond_false,cond_true,Bool.true_or,Bool.or_true,Bool.false_or,if_true]
 | false=>
 cases k5:e.Kind==5 with
 | true=>
  rw [k1,k2,k5] at hcl hp1;have hcl:=hcl rfl;have hp1:=hp1 rfl;simp only [go_sem,qy,qq,qx,qz,qv,qk,reduceIte,c55,c55L0,hF,hL,k1,k2,k5,hp1,hm,hcl,Bool.not_true,cond_false,cond_true,Bool.true_or,Bool.or_true,Bool.false_or,if_true]
 | false=>
 cases k6:e.Kind==6 with
 | true=>simp only [go_sem,qy,qq,qx,qz,qv,qk,reduceIte,c55,c55L0,hF,hL,k1,k2,k5,k6,Bool.not_true,cond_false,cond_true,Bool.true_or,Bool.or_true,Bool.false_or,List.map_cons,List.map_nil,Pt.enc]
 | false=>
 cases k10:e.Kind==10 with
 | true=>simp only [go_sem,qy,qq,qx,qz,qv,qk,reduceIte,c55,c55L0,hF,hL,k1,k2,k5,k6,k10,Bool.not_true,cond_false,cond_true,Bool.true_or,Bool.or_true,Bool.false_or,List.map_cons,List.map_nil,Pt.enc]
 | false=>
 cases k9:e.Kind==9 with
 | true=>simp only [go_sem,qy,qq,qx,qz,qv,qk,reduceIte,c55,c55L0,hF,hL,k1,k2,k5,k6,k10,k9,Bool.not_true,cond_false,cond_true,Bool.true_or,Bool.or_true,Bool.false_or,hcP,htk,List.length_map,List.drop_zero,beq_self_eq_true]
 | false=>simp only [go_sem,qy,qq,qx,qz,qv,qk,reduceIte,c55,c55L0,hF,hL,k1,k2,k5,k6,k10,k9,Bool.not_true,cond_false,cond_true,Bool.true_or,Bool.or_true,Bool.false_or,List.map_nil]
end Go.AM
namespace Go.AM
open Go
abbrev rqL (s:Sta) (e:Event) (a m:Int):List AV:=[ldI s,I e.Kind,I e.Day,I e.A,I e.B,I e.Office,.str e.Id,.str e.Other,.str e.Text,.isl false e.Ids.ex 1 (e.Ids.l.map encS),.isl false e.Names.ex 3 (e.Names.l.map Nm.enc),
 I e.Number.N,.str e.Number.Letter,I e.Number.Num,I e.Number.Den,I e.Point.X,I e.Point.Y,.isl false e.Path.ex 2 (e.Path.l.map Pt.enc),.isl false e.Lst.ex 7 (e.Lst.l.map Ent.enc),I a,I m]
abbrev rqI (s:Sta) (e:Event) (a m:Int):AV:=.iptr false (rqL s e a m)
structure RqS (s:Sta) (e:Event) (m:Int):Prop where
 c:ClS s
 ev:EvS e
 f:Q9 e=true
 m:0≤m∧m≤63
def Zp0 (s:Sta) (e:Event) (a m:Int):Int:=bif (e.Kind==14&&a != 0)||(e.Kind==13&&Zoq s e.B != m) then 18 else 0
theorem Zqw (s:Sta) (e:Event) (a m:Int) (h:RqS s e m):pfn rE 71 [rqI s e a m]=some (I (Zp0 s e a m)):=by
 have hM:(e.Kind==13)=true→pfn rE 66 [ldI s,I e.B]=some (I (Zoq s e.B)):=fun hk=>by
  have hn:=ZcV h.f;rw [ZcW (k:=13) (by simpa using hk)] at hn
  have hn':K5 e.A e.B=true:=hn;unfold K5 ZD at hn';simp only [Bool.and_eq_true,decide_eq_true_eq] at hn';exact h.c.mst (by omega)
 have hcl:=Zow s;have hbl:=Zot s;rw [Z5 (f:=71) rfl rfl];unfold Zp0;cases c1:e.Kind==14 with
 | true=>
  have c3:(e.Kind==13)=false:=by
   rw [(by simpa using c1:e.Kind=14)]
   rfl
  cases c2:a != 0 with
  | true=>simp only [go_sem,qy,qq,qx,qz,qv,qk,reduceIte,c71,c1,c2,c3,hcl,hbl,Bool.true_and,Bool.true_or,cond_true]
  | false=>simp only [go_sem,qy,qq,qx,qz,qv,qk,reduceIte,c71,c1,c2,c3,hcl,hbl,Bool.true_and,Bool.false_and,Bool.false_or,cond_false]
 | false=>
  cases c3:e.Kind==13 with
  | false=>simp only [go_sem,qy,qq,qx,qz,qv,qk,reduceIte,c71,c1,c3,hcl,hbl,Bool.false_and,Bool.false_or,cond_false]
  | true=>
   have hM:=hM c3;cases c4:Zoq s e.B != m<;>simp only [go_sem,qy,qq,qx,qz,qv,qk,reduceIte,c71,c1,c3,c4,hM,hcl,hbl,Bool.true_and,Bool.false_and,Bool.false_or,cond_true,cond_false]
def Zp5 (s:Sta) (e:Event) (m:Int):Int:=bif e.Kind==15&&!s.Regions.any (fun x=>ZoG x&&Zoq s x.Owner==m) then 18 else 0
theorem Zqx (s:Sta) (e:Event) (a m:Int) (h:RqS s e m) (x:Region) (hx:x∈s.Regions):pfn rE 141 [x.enc,.iptr false [rqI s e a m]]=some (.bool (ZoG x&&Zoq s x.Owner==m)):=by
 have hT:=ZpM x;have hM:=h.c.mst (h.c.reg hx).1;have hcl:=Zow s;have hbl:=Zot s;simp only [Region.enc,NL.enc] at hT;rw [Z5 (f:=141) rfl rfl];cases c:ZoG x with
 | false=>
  rw [c] at hT;simp only [go_sem,qy,qq,qx,qz,qv,qk,reduceIte,c141,Region.enc,NL.enc,hT,hcl,hbl,Bool.false_and]
 | true=>
  rw [c] at hT;simp only [go_sem,qy,qq,qx,qz,qv,qk,reduceIte,c141,Region.enc,NL.enc,hT,hM,hcl,hbl,Bool.true_and]
theorem ZpP (l:List Region) (hl:l.length≤1000000) (p:Region→Bool) (g:Nat) (cap:List AV) (hc:Z4 cap=true) (hp:∀ x∈l,pfn rE g (x.enc::cap)=some (.bool (p x))):pfn rE 142 [.isl false false 6 (l.map Region.enc),.clo (.func g) [] cap]=some (.bool (l.any p)):=by
 have h:=WF (E:=rE) (f:=247) (sz:=6) (n:=some 6) (enc:=Region.enc) (p:=p) (g:=g) (cap:=cap) rfl rfl hc l (by omega) (fun x _=>x.el) hp false false
 rw [Z5 (f:=142) rfl rfl,←Vg];unfold WG;simp only [go_sem,qy,qq,qx,qz,qv,qk,reduceIte,c142,h,hc]
theorem Zqy (s:Sta) (e:Event) (a m:Int) (h:RqS s e m):pfn rE 73 [rqI s e a m]=some (I (Zp5 s e m)):=by
 have hcl:=Zow s;have hbl:=Zot s;have hc:Z4 [.iptr false [rqI s e a m]]=true:=by simp only [go_sem,qy,qq,qx,qz,qv,qk,reduceIte,hcl]
 have hA:=ZpP s.Regions (by have:=h.c.E.sizes.regions;omega) (fun x=>ZoG x&&Zoq s x.Owner==m) 141 [.iptr false [rqI s e a m]] hc (Zqx s e a m h)
 rw [Z5 (f:=73) rfl rfl];unfold Zp5;cases c1:e.Kind==15 with
 | false=>simp only [go_sem,qy,qq,qx,qz,qv,qk,reduceIte,c73,c1,hcl,hbl,Bool.false_and,cond_false]
 | true=>
  generalize s.Regions.any (fun x=>ZoG x&&Zoq s x.Owner==m)=b at *
  cases b<;>simp only [go_sem,qy,qq,qx,qz,qv,qk,reduceIte,c73,c1,hA,hcl,hbl,Bool.true_and,Bool.not_true,Bool.not_false,cond_true,cond_false]
end Go.AM
namespace Go.AM
open Go
def plE (s:Sta) (m:Int):List Pt→Int
 | []=>0
 | p::r=>bif !(ZoH s p).any (fun x=>m==x) then 18 else bif (ZoH s p).any (fun c=>c != m&&!ZoW s m c) then 19 else plE s m r
def Zp1 (s:Sta) (e:Event) (a m:Int):Int:=
 bif e.Kind==1 then bif s.Regions.any (fun x=>Z3 x.Id e.Id) then 0 else bif e.A==1&&a==0 then 18 else bif e.A==1 then 0 else plE s m (ZoM e)
 else plE s m (ZoM e)
theorem ZpQ {s:Sta} (h:ClS s):∀ p∈s.Rulings,pfn rE 66 [ldI s,I p.a]=some (I (Zoq s p.a))∧pfn rE 66 [ldI s,I p.b]=some (I (Zoq s p.b)):=by
 intro p hp;have hpa:=h.prop.pa;unfold WK at hpa;simp only [Bool.and_eq_true] at hpa;have:=Zpo (List.all_eq_true.1 hpa.2.1 p hp);exact ⟨h.mst this.1.1,h.mst this.2.1⟩
theorem Zqz (l:List Int) (hl:l.length≤1000000) (p:Int→Bool) (g:Nat) (cap:List AV) (hc:Z4 cap=true) (hp:∀ x∈l,pfn rE g (I x::cap)=some (.bool (p x))):pfn rE 145 [.isl false false 1 (l.map I),.clo (.func g) [] cap]=some (.bool (l.any p)):=by
 have h:=WF (E:=rE) (f:=249) (sz:=1) (n:=none) (enc:=I) (p:=p) (g:=g) (cap:=cap) rfl rfl hc l (by omega) (fun x _=>⟨rfl,rfl⟩) hp false false
 rw [Z5 (f:=145) rfl rfl,←Vg];unfold WG;simp only [go_sem,qy,qq,qx,qz,qv,qk,reduceIte,c145,h,hc]
theorem ZqA (s:Sta) (e:Event) (a m:Int) (x:Region):pfn rE 143 [x.enc,.iptr false [rqI s e a m]]=some (.bool (Z3 x.Id e.Id)):=by
 have hcl:=Zow s;have hbl:=Zot s;rw [Z5 (f:=143) rfl rfl];simp only [go_sem,qy,qq,qx,qz,qv,qk,reduceIte,c143,Region.enc,NL.enc,hcl,hbl]
theorem ZqB (s:Sta) (e:Event) (a m:Int) (h:RqS s e m) (c:Int):pfn rE 146 [I c,.iptr false [rqI s e a m]]=some (.bool (c != m&&!ZoW s m c)):=by
 have hP:=ZpL s m c h.c.E.sizes.rulings (ZpQ h.c);have hcl:=Zow s;have hbl:=Zot s;rw [Z5 (f:=146) rfl rfl];cases c1:c != m with
 | false=>simp only [go_sem,qy,qq,qx,qz,qv,qk,reduceIte,c146,c1,hcl,hbl,Bool.false_and]
 | true=>simp only [go_sem,qy,qq,qx,qz,qv,qk,reduceIte,c146,c1,hP,hcl,hbl,Bool.true_and]
theorem ZqC (s:Sta) (h:ClS s) (p:Pt):(ZoH s p).length≤100000:=by
 unfold ZoH;rw [(Zp3 _).length_eq];have G:∀ (l:List Region) (K:List Int),(l.foldl (ZoF s p) K).length≤K.length+l.length:=by
  intro l;induction l with
  | nil=>intro K;exact Nat.le_refl _
  | cons x r ih=>
   intro K;rw [List.foldl_cons,List.length_cons];refine Nat.le_trans (ih _) ?_;have:(ZoF s p K x).length≤K.length+1:=by
    unfold ZoF Qi;cases ZoG x&&decide (ZoY x.Ring.l p ≥ 0) with
    | false=>exact Nat.le_succ _
    | true=>
     rw [cond_true];cases K.any (Vm (Zoq s x.Owner)) with
     | true=>exact Nat.le_succ _
     | false=>rw [cond_false,List.length_append];exact Nat.le_refl _
   omega
 have:=G s.Regions [];have hl:=h.E.sizes.regions;unfold Zoy;simp only [List.length_nil] at this;omega
theorem ZpR (s:Sta) (e:Event) (a m:Int) (h:RqS s e m) (l:List Pt) (hl:l.length≤1000):∀ (k i:Nat),i+k=l.length→
 ∃ fr',(plE s m (l.drop i)=0→Zg rE [1,50,51,52] c74L0b [(1,.iptr false [rqI s e a m]),(50,.isl false false 2 (l.map Pt.enc)),(51,I l.length),(52,I i)] []=some (.exit 1,fr',[]))∧
  (plE s m (l.drop i)≠0→Zg rE [1,50,51,52] c74L0b [(1,.iptr false [rqI s e a m]),(50,.isl false false 2 (l.map Pt.enc)),(51,I l.length),(52,I i)] []=some (.ret,fr',[])∧get fr' 2=I (plE s m (l.drop i)))
 | 0,i,hi=>by
  have hd:l.drop i=[]:=List.drop_eq_nil_of_le (by omega)
  have hi':i=l.length:=by omega
  refine ⟨[(1,.iptr false [rqI s e a m]),(2,.bot),(50,.isl false false 2 (l.map Pt.enc)),(51,I l.length),(52,I i)],fun _=>?_,fun hc=>?_⟩
  ·rw [hi'];refine Q7 rfl ?_ (by simp)
   simp only [go_sem,qy,qq,qx,qz,qv,qk,reduceIte,c74L0b,ZG]
  ·rw [hd] at hc;exact absurd rfl hc
 | k+1,i,hi=>by
  obtain ⟨x,hx⟩:∃ x,l[i]? = some x:=⟨_,List.getElem?_eq_getElem (by omega)⟩
  have hg:=Z6 (f:=Pt.enc) hx;have hi':=Zh (Z7 hx);have hwr:=Zx (n:=i) (by omega)
  have hd:l.drop i=x::l.drop (i+1):=by
   rw [List.drop_eq_getElem_cons (Z7 hx)];congr 1;have:=List.getElem?_eq_getElem (Z7 hx);rw [hx] at this;exact (Option.some.inj this).symm
  have hcl:=Zow s;have hbl:=Zot s;have hc:Z4 [.iptr false [rqI s e a m]]=true:=by simp only [go_sem,qy,qq,qx,qz,qv,qk,reduceIte,hcl]
  have hC:=ZpO s h.c x;have hlen:=ZqC s h.c x;have hI:=DR (ZoH s x) false m (by omega)
  have hA:=Zqz (ZoH s x) (by omega) (fun c=>c != m&&!ZoW s m c) 146 [.iptr false [rqI s e a m]] hc (fun c _=>ZqB s e a m h c)
  rw [hd];unfold plE;cases c1:(ZoH s x).any (fun y=>m==y) with
  | false=>
   rw [c1] at hI;refine ⟨[(1,.iptr false [rqI s e a m]),(2,I 18),(50,.isl false false 2 (l.map Pt.enc)),(51,I l.length),(52,I i)],fun hq=>?_,fun _=>⟨?_,by simp only [go_sem,qy,qq,qx,qz,qv,qk,reduceIte,Bool.not_false,cond_true]⟩⟩
   ·exact absurd (show (18:Int)=0 from hq) (by decide)
   ·refine Q7 rfl ?_ (by simp)
    simp only [go_sem,qy,qq,qx,qz,qv,qk,reduceIte,c74L0b,hg,hi',Pt.enc,hC,hI,hcl,hbl]
  | true=>
  rw [c1] at hI;cases c2:(ZoH s x).any (fun c=>c != m&&!ZoW s m c) with
  | true=>
   rw [c2] at hA;refine ⟨[(1,.iptr false [rqI s e a m]),(2,I 19),(50,.isl false false 2 (l.map Pt.enc)),(51,I l.length),(52,I i)],fun hq=>?_,fun _=>⟨?_,by simp only [go_sem,qy,qq,qx,qz,qv,qk,reduceIte,Bool.not_true,cond_false,cond_true]⟩⟩
   ·exact absurd (show (19:Int)=0 from hq) (by decide)
   ·refine Q7 rfl ?_ (by simp)
    simp only [go_sem,qy,qq,qx,qz,qv,qk,reduceIte,c74L0b,hg,hi',Pt.enc,hC,hI,hA,hcl,hbl]
  | false=>
  rw [c2] at hA;obtain ⟨fr',h1,h2⟩:=ZpR s e a m h l hl k (i+1) (by omega)
  have hstep:Zb rE c74L0b [(1,.iptr false [rqI s e a m]),(50,.isl false false 2 (l.map Pt.enc)),(51,I l.length),(52,I i)] []=some (.normal,[(1,.iptr false [rqI s e a m]),(2,.bot),(50,.isl false false 2 (l.map Pt.enc)),(51,I l.length),(52,I (i+1:Nat))],[]):=by
   simp only [go_sem,qy,qq,qx,qz,qv,qk,reduceIte,c74L0b,hg,hi',hwr,Pt.enc,hC,hI,hA,hcl,hbl]
  rw [Yt rfl hstep];exact ⟨fr',h1,h2⟩
theorem ZqD (s:Sta) (e:Event) (a m:Int) (h:RqS s e m):pfn rE 74 [rqI s e a m]=some (I (Zp1 s e a m)):=by
 have hcl:=Zow s;have hbl:=Zot s;have hc:Z4 [.iptr false [rqI s e a m]]=true:=by simp only [go_sem,qy,qq,qx,qz,qv,qk,reduceIte,hcl]
 have hA:=ZpP s.Regions (by have:=h.c.E.sizes.regions;omega) (fun x=>Z3 x.Id e.Id) 143 [.iptr false [rqI s e a m]] hc (fun x _=>ZqA s e a m x)
 have hP:=Zqv e h.ev;have hlen:(ZoM e).length≤1000:=by
  unfold ZoM;have h1:=h.ev.lst;cases Q9 e with
  | false=>exact Nat.zero_le _
  | true=>
  cases e.Kind==1||(e.Kind==2||e.Kind==5) with
  | true=>show (e.Path.l.take 1).length≤1000;rw [List.length_take];omega
  | false=>
  cases e.Kind==6||e.Kind==10 with
  | true=>show 1≤1000;omega
  | false=>
  cases e.Kind==9 with
  | true=>show (e.Lst.l.map (·.Point)).length≤1000;rw [List.length_map];omega
  | false=>exact Nat.zero_le _
 have L:=ZpR s e a m h (ZoM e) hlen (ZoM e).length 0 (by omega)
 rw [List.drop_zero] at L;obtain ⟨fr',l1,l2⟩:=L;simp only [evA] at hP;rw [Z5 (f:=74) rfl rfl];unfold Zp1;have z0:((0:Nat):Int)=0:=rfl;rw [z0] at l1 l2;by_cases hz:plE s m (ZoM e)=0
 ·have l1:=l1 hz;rw [hz];cases k1:e.Kind==1 with
  | false=>simp only [go_sem,qy,qq,qx,qz,qv,qk,reduceIte,c74,c74L0,k1,hP,l1,hcl,hbl,cond_false,List.length_map]
  | true=>
   cases k2:s.Regions.any (fun x=>Z3 x.Id e.Id) with
   | true=>
    rw [k2] at hA;simp only [go_sem,qy,qq,qx,qz,qv,qk,reduceIte,c74,c74L0,k1,hA,hcl,hbl,cond_true]
   | false=>
   rw [k2] at hA;cases k3:e.A==1 with
   | false=>simp only [go_sem,qy,qq,qx,qz,qv,qk,reduceIte,c74,c74L0,k1,k3,hA,hP,l1,hcl,hbl,cond_true,cond_false,Bool.false_and,List.length_map]
   | true=>cases k4:a==0<;>simp only [go_sem,qy,qq,qx,qz,qv,qk,reduceIte,c74,c74L0,k1,k3,k4,hA,hP,l1,hcl,hbl,cond_true,cond_false,Bool.true_and]
 ·obtain ⟨l2,l3⟩:=l2 hz;cases k1:e.Kind==1 with
  | false=>simp only [go_sem,qy,qq,qx,qz,qv,qk,reduceIte,c74,c74L0,k1,hP,l2,l3,hcl,hbl,cond_false,List.length_map]
  | true=>
   cases k2:s.Regions.any (fun x=>Z3 x.Id e.Id) with
   | true=>
    rw [k2] at hA;simp only [go_sem,qy,qq,qx,qz,qv,qk,reduceIte,c74,c74L0,k1,hA,hcl,hbl,cond_true]
   | false=>
   rw [k2] at hA;cases k3:e.A==1 with
   | false=>simp only [go_sem,qy,qq,qx,qz,qv,qk,reduceIte,c74,c74L0,k1,k3,hA,hP,l2,l3,hcl,hbl,cond_true,cond_false,Bool.false_and,List.length_map]
   | true=>cases k4:a==0<;>simp only [go_sem,qy,qq,qx,qz,qv,qk,reduceIte,c74,c74L0,k1,k3,k4,hA,hP,l2,l3,hcl,hbl,cond_true,cond_false,Bool.true_and]
end Go.AM
namespace Go.AM
open Go
def kOf (ks:List Int) (e:Event):Bool:=ks.any (fun x=>e.Kind==x)
theorem ZoJ (e:Event) (ks:List Int) (ex:Bool) (hl:ks.length≤1000):pfn rE 244 [.isl false ex 1 (ks.map I),evI e]=some (.bool (kOf ks e)):=by
 have h:=DR ks ex e.Kind (by omega)
 rw [Z5 (f:=244) rfl rfl];unfold kOf;simp only [go_sem,qy,qq,qx,qz,qv,qk,reduceIte,c244,h]
def Zor (s:Sta) (e:Event):List Str:=
 (((e.Ids.l++bif kOf [9,12] e then [e.Id] else [])++bif kOf [7] e then [e.Other] else [])++bif kOf [8] e then e.Lst.l.map (·.Id) else [])++bif kOf [12] e then (s.Units.filter (fun u=>Z3 u.Id e.Id)).map (·.Door) else []
def ZoQ (e:Event) (x:Region):Bool:=kOf [1,3,12] e&&Z3 x.Id e.Id
def ZoR (e:Event) (x:Street):Bool:=(kOf [3,4,8,12] e&&Z3 x.Id e.Id)||((kOf [4] e&&Z3 x.Id e.Other)||(kOf [6] e&&Z3 x.Id e.Text))
def ZoS (e:Event) (x:Building):Bool:=(kOf [11] e&&Z3 x.Id e.Id)||(kOf [6] e&&Z3 x.Id e.Other)
def ZoT (l:List Str) (x:Door):Bool:=l.any (fun y=>Z3 x.Id y)
def Zou (s:Sta) (m o:Int):Bool:=Zoq s o==m
def Zpb (s:Sta) (e:Event) (m:Int):Bool:=
 s.Regions.all (fun x=>!ZoQ e x||Zou s m x.Owner)&&(s.Streets.all (fun x=>!ZoR e x||Zou s m x.Owner)&&(s.Buildings.all (fun x=>!ZoS e x||Zou s m x.Owner)&&s.Doors.all (fun x=>!ZoT (Zor s e) x||Zou s m x.Owner)))
def Zp6 (s:Sta) (e:Event) (m:Int):Int:=bif Zpb s e m then 0 else 18
def ZoA (s:Sta) (e:Event) (a m:Int):Fr:=[(1,.iptr false [rqI s e a m]),(2,.ptr 0 0 0 1),(12,.clo (.func 245) [] [.iptr false [ldI s],.ptr 1 0 0 1,evI e,.ptr 3 0 0 1])]
def thX (s:Sta) (e:Event) (a m:Int) (n:Int) (st:LoopState) (ex:AExit) (l:List Str):Hp:=[.row 1 [I n],.row 1 [.clo (.func 244) [] [evI e]],.row 1 (l.map encS),.row 1 [.sl 2 l.length 0 l.length false],.loop st ex (ZoA s e a m) [13] c72R0a c72R0b]
abbrev thH (s:Sta) (e:Event) (a m:Int):Hp:=thX s e a m 0 .ready .normal (Zor s e)
abbrev thD (s:Sta) (e:Event) (a m:Int):Hp:=thX s e a m 18 .done .ret (Zor s e)
theorem ZoI (s:Sta) (e:Event) (a m:Int):Zd 5 (frV (ZoA s e a m))=true∧Zd 6 (frV (ZoA s e a m))=true:=by
 have hbl:=Zot s;have hcl:=Zow s;have hc:Z4 [rqI s e a m,ldI s,evI e]=true:=by simp only [go_sem,qy,qq,qx,qz,qv,qk,reduceIte,hcl]
 have hb:=fun n=>ZN (n:=n) _ hc
 simp only [Zd,Bool.and_eq_true] at hb;constructor
 ·obtain ⟨h1,h2,h3,_⟩:=hb 5;simp only [go_sem,qy,qq,qx,qz,qv,qk,reduceIte,ZoA,h1,h2,h3,hbl]
 ·obtain ⟨h1,h2,h3,_⟩:=hb 6;simp only [go_sem,qy,qq,qx,qz,qv,qk,reduceIte,ZoA,h1,h2,h3,hbl]
theorem Zpc (s:Sta) (e:Event) (a m:Int) (o:Int) (q:AObj) (hq:∀ n,Zj n q=true) (hM:pfn rE 66 [ldI s,I o]=some (I (Zoq s o))):
 U4 rE 4 [I o] (thH s e a m++[q])=some (bif Zou s m o then (.bool true,thH s e a m++[q]) else (.bool false,thD s e a m++[q])):=by
 have hcl:=Zow s;have hbl:=Zot s;obtain ⟨hf4,hf5⟩:=ZoI s e a m;unfold Zou;have hS:∀ n,Zd n ((Zor s e).map encS)=true:=fun n=>ZN _ (Zw (fun t=>rfl) _)
 cases c:Zoq s o==m with
 | true=>
  have h:=Ss (E:=rE) (b:=4) (args:=[I o]) (h:=thH s e a m++[q]) (fr:=ZoA s e a m) (ps:=[13]) (assign:=c72R0a) (body:=c72R0b)
   (fr0:=(13,I o)::ZoA s e a m) rfl rfl (by simp only [go_sem,qy,qq,qx,qz,qv,qk,reduceIte,c72R0a,thX,ZoA,List.cons_append,List.nil_append]<;>rfl) (by rfl)
   (e:=.normal) (fr2:=[]) (h2:=thX s e a m 0 .busy .normal (Zor s e)++[q])
   (by
    have hne:(Zoq s o != m)=false:=by rw [bne,c];rfl
    simp only [go_sem,qy,qq,qx,qz,qv,qk,reduceIte,c72R0b,thX,ZoA,List.cons_append,List.nil_append,hM,hne,hcl,hbl,hq,hS]<;>rfl) (by rfl)
  exact h
 | false=>
  have h:=Ss (E:=rE) (b:=4) (args:=[I o]) (h:=thH s e a m++[q]) (fr:=ZoA s e a m) (ps:=[13]) (assign:=c72R0a) (body:=c72R0b)
   (fr0:=(13,I o)::ZoA s e a m) rfl rfl (by simp only [go_sem,qy,qq,qx,qz,qv,qk,reduceIte,c72R0a,thX,ZoA,List.cons_append,List.nil_append]<;>rfl) (by rfl)
   (e:=.ret) (fr2:=[]) (h2:=thX s e a m 18 .busy .normal (Zor s e)++[q])
   (by
    have hne:(Zoq s o != m)=true:=by rw [bne,c];rfl
    simp only [go_sem,qy,qq,qx,qz,qv,qk,reduceIte,c72R0b,thX,ZoA,List.cons_append,List.nil_append,hM,hne,hcl,hbl,hq,hS]<;>rfl) (by rfl)
  exact h
theorem ZpS (s:Sta) (e:Event) (a m:Int) (h:RqS s e m) (i:Nat) (x:Region) (hx:s.Regions[i]? = some x) (hl:s.Regions.length≤1000) (ho:0≤x.Owner):
 Zb rE c245L0b [(0,.yld 4),(1,.iptr false [ldI s]),(2,.ptr 1 0 0 1),(3,evI e),(4,.ptr 3 0 0 1),(20,.isl false false 6 (s.Regions.map Region.enc)),(21,I s.Regions.length),(22,I i)] (thH s e a m)=bif !ZoQ e x||Zou s m x.Owner then some (.normal,[(0,.yld 4),(1,.iptr false [ldI s]),(2,.ptr 1 0 0 1),(3,evI e),(4,.ptr 3 0 0 1),(20,.isl false false 6 (s.Regions.map Region.enc)),(21,I s.Regions.length),(22,I (i+1:Nat))],thH s e a m) else some (.ret,[(0,.yld 4),(1,.iptr false [ldI s]),(2,.ptr 1 0 0 1),(3,evI e),(4,.ptr 3 0 0 1),(20,.isl false false 6 (s.Regions.map Region.enc)),(21,I s.Regions.length),(22,I i)],thD s e a m):=by
 have hg:=Z6 (f:=Region.enc) hx;have hi':=Zh (Z7 hx);have hwr:=Zx (n:=i) (by have:=Z7 hx;omega)
 have hcl:=Zow s;have hbl:=Zot s;obtain ⟨hf4,hf5⟩:=ZoI s e a m;have hS:∀ n,Zd n ((Zor s e).map encS)=true:=fun n=>ZN _ (Zw (fun t=>rfl) _)
 have hq:∀ n,Zj n (.row 6 [x.enc])=true:=fun n=>ZN (n:=n) [x.enc] (Zw (f:=Region.enc) (fun t=>rfl) [x])
 have hy:=Zpc s e a m x.Owner (.row 6 [x.enc]) hq (h.c.mst ho);simp only [thX,List.cons_append,List.nil_append,Region.enc,NL.enc] at hy;simp only [Region.enc,NL.enc] at hq;have hk0:=ZoJ e [1,3,12] false (by decide)
 simp only [List.map_cons,List.map_nil] at hk0;unfold ZoQ;cases c1:kOf [1,3,12] e with
 | false=>
  rw [c1] at hk0;simp only [go_sem,qy,qq,qx,qz,qv,qk,reduceIte,c245L0b,thX,S3,hg,hi',hwr,hcl,hbl,hf4,hf5,hq,hS,hy,Region.enc,NL.enc,Bool.not_true,Bool.not_false,Bool.false_or,Bool.true_or,Bool.or_false,Bool.or_true,Bool.true_and,Bool.false_and,cond_true,cond_false,hk0]
 | true=>
 rw [c1] at hk0;cases c2:Z3 x.Id e.Id with
 | false=>simp only [go_sem,qy,qq,qx,qz,qv,qk,reduceIte,c245L0b,thX,S3,hg,hi',hwr,hcl,hbl,hf4,hf5,hq,hS,hy,Region.enc,NL.enc,Bool.not_true,Bool.not_false,Bool.false_or,Bool.true_or,Bool.or_false,Bool.or_true,Bool.true_and,Bool.false_and,cond_true,cond_false,hk0,c2]
 | true=>cases c9:Zou s m x.Owner<;>rw [c9] at hy<;>simp only [cond_true,cond_false] at hy<;>simp only [go_sem,qy,qq,qx,qz,qv,qk,reduceIte,c245L0b,thX,S3,hg,hi',hwr,hcl,hbl,hf4,hf5,hq,hS,hy,Region.enc,NL.enc,Bool.not_true,Bool.not_false,Bool.false_or,Bool.true_or,Bool.or_false,Bool.or_true,Bool.true_and,Bool.false_and,cond_true,cond_false,hk0,c2]
set_option maxHeartbeats 4000000 in
theorem ZpT (s:Sta) (e:Event) (a m:Int) (h:RqS s e m) (i:Nat) (x:Street) (hx:s.Streets[i]? = some x) (hl:s.Streets.length≤1000) (ho:0≤x.Owner):
 Zb rE c245L1b [(0,.yld 4),(1,.iptr false [ldI s]),(2,.ptr 1 0 0 1),(3,evI e),(4,.ptr 3 0 0 1),(48,.isl false false 5 (s.Streets.map Street.enc)),(49,I s.Streets.length),(50,I i)] (thH s e a m)=bif !ZoR e x||Zou s m x.Owner then some (.normal,[(0,.yld 4),(1,.iptr false [ldI s]),(2,.ptr 1 0 0 1),(3,evI e),(4,.ptr 3 0 0 1),(48,.isl false false 5 (s.Streets.map Street.enc)),(49,I s.Streets.length),(50,I (i+1:Nat))],thH s e a m) else some (.ret,[(0,.yld 4),(1,.iptr false [ldI s]),(2,.ptr 1 0 0 1),(3,evI e),(4,.ptr 3 0 0 1),(48,.isl false false 5 (s.Streets.map Street.enc)),(49,I s.Streets.length),(50,I i)],thD s e a m):=by
 have hg:=Z6 (f:=Street.enc) hx;have hi':=Zh (Z7 hx);have hwr:=Zx (n:=i) (by have:=Z7 hx;omega)
 have hcl:=Zow s;have hbl:=Zot s;obtain ⟨hf4,hf5⟩:=ZoI s e a m;have hS:∀ n,Zd n ((Zor s e).map encS)=true:=fun n=>ZN _ (Zw (fun t=>rfl) _)
 have hq:∀ n,Zj n (.row 5 [x.enc])=true:=fun n=>ZN (n:=n) [x.enc] (Zw (f:=Street.enc) (fun t=>rfl) [x])
 have hy:=Zpc s e a m x.Owner (.row 5 [x.enc]) hq (h.c.mst ho);simp only [thX,List.cons_append,List.nil_append,Street.enc,NL.enc] at hy;simp only [Street.enc,NL.enc] at hq;have hk0:=ZoJ e [3,4,8,12] false (by decide)
 simp only [List.map_cons,List.map_nil] at hk0;have hk1:=ZoJ e [4] false (by decide)
 simp only [List.map_cons,List.map_nil] at hk1;have hk2:=ZoJ e [6] false (by decide)
 simp only [List.map_cons,List.map_nil] at hk2;unfold ZoR;cases c1:kOf [3,4,8,12] e<;>cases c4:kOf [4] e<;>cases c6:kOf [6] e<;>rw [c1] at hk0<;>rw [c4] at hk1<;>rw [c6] at hk2<;>cases d1:Z3 x.Id e.Id<;>cases d2:Z3 x.Id e.Other<;>cases d3:Z3 x.Id e.Text<;>
  (first | (simp only [go_sem,qy,qq,qx,qz,qv,qk,reduceIte,c245L1b,thX,S3,hg,hi',hwr,hcl,hbl,hf4,hf5,hq,hS,hy,Street.enc,NL.enc,Bool.not_true,Bool.not_false,Bool.false_or,Bool.true_or,Bool.or_false,Bool.or_true,Bool.true_and,Bool.false_and,cond_true,cond_false,hk0,hk1,hk2,d1,d2,d3];done) | (cases c9:Zou s m x.Owner<;>rw [c9] at hy<;>simp only [cond_true,cond_false] at hy<;>simp only [go_sem,qy,qq,qx,qz,qv,qk,reduceIte,c245L1b,thX,S3,hg,hi',hwr,hcl,hbl,hf4,hf5,hq,hS,hy,Street.enc,NL.enc,Bool.not_true,Bool.not_false,Bool.false_or,Bool.true_or,Bool.or_false,Bool.or_true,Bool.true_and,Bool.false_and,cond_true,cond_false,hk0,hk1,hk2,d1,d2,d3]))
set_option maxHeartbeats 1000000 in
theorem ZpU (s:Sta) (e:Event) (a m:Int) (h:RqS s e m) (i:Nat) (x:Building) (hx:s.Buildings[i]? = some x) (hl:s.Buildings.length≤1000) (ho:0≤x.Owner):
 Zb rE c245L2b [(0,.yld 4),(1,.iptr false [ldI s]),(2,.ptr 1 0 0 1),(3,evI e),(4,.ptr 3 0 0 1),(102,.isl false false 4 (s.Buildings.map Building.enc)),(103,I s.Buildings.length),(104,I i)] (thH s e a m)=bif !ZoS e x||Zou s m x.Owner then some (.normal,[(0,.yld 4),(1,.iptr false [ldI s]),(2,.ptr 1 0 0 1),(3,evI e),(4,.ptr 3 0 0 1),(102,.isl false false 4 (s.Buildings.map Building.enc)),(103,I s.Buildings.length),(104,I (i+1:Nat))],thH s e a m) else some (.ret,[(0,.yld 4),(1,.iptr false [ldI s]),(2,.ptr 1 0 0 1),(3,evI e),(4,.ptr 3 0 0 1),(102,.isl false false 4 (s.Buildings.map Building.enc)),(103,I s.Buildings.length),(104,I i)],thD s e a m):=by
 have hg:=Z6 (f:=Building.enc) hx;have hi':=Zh (Z7 hx);have hwr:=Zx (n:=i) (by have:=Z7 hx;omega)
 have hcl:=Zow s;have hbl:=Zot s;obtain ⟨hf4,hf5⟩:=ZoI s e a m;have hS:∀ n,Zd n ((Zor s e).map encS)=true:=fun n=>ZN _ (Zw (fun t=>rfl) _)
 have hq:∀ n,Zj n (.row 4 [x.enc])=true:=fun n=>ZN (n:=n) [x.enc] (Zw (f:=Building.enc) (fun t=>rfl) [x])
 have hy:=Zpc s e a m x.Owner (.row 4 [x.enc]) hq (h.c.mst ho);simp only [thX,List.cons_append,List.nil_append,Building.enc,NL.enc] at hy;simp only [Building.enc,NL.enc] at hq;have hk0:=ZoJ e [11] false (by decide)
 simp only [List.map_cons,List.map_nil] at hk0;have hk1:=ZoJ e [6] false (by decide)
 simp only [List.map_cons,List.map_nil] at hk1;unfold ZoS;cases c1:kOf [11] e<;>cases c6:kOf [6] e<;>rw [c1] at hk0<;>rw [c6] at hk1<;>cases d1:Z3 x.Id e.Id<;>cases d2:Z3 x.Id e.Other<;>
  (first | (simp only [go_sem,qy,qq,qx,qz,qv,qk,reduceIte,c245L2b,thX,S3,hg,hi',hwr,hcl,hbl,hf4,hf5,hq,hS,hy,Building.enc,NL.enc,Bool.not_true,Bool.not_false,Bool.false_or,Bool.true_or,Bool.or_false,Bool.or_true,Bool.true_and,Bool.false_and,cond_true,cond_false,hk0,hk1,d1,d2];done) | (cases c9:Zou s m x.Owner<;>rw [c9] at hy<;>simp only [cond_true,cond_false] at hy<;>simp only [go_sem,qy,qq,qx,qz,qv,qk,reduceIte,c245L2b,thX,S3,hg,hi',hwr,hcl,hbl,hf4,hf5,hq,hS,hy,Building.enc,NL.enc,Bool.not_true,Bool.not_false,Bool.false_or,Bool.true_or,Bool.or_false,Bool.or_true,Bool.true_and,Bool.false_and,cond_true,cond_false,hk0,hk1,d1,d2]))
theorem ZpV (s:Sta) (e:Event) (a m:Int) (h:RqS s e m) (i:Nat) (x:Door) (hx:s.Doors[i]? = some x) (hl:s.Doors.length≤1000) (ho:0≤x.Owner) (hd:(Zor s e).length≤100000):
 Zb rE c245L3b [(0,.yld 4),(4,.ptr 3 0 0 1),(142,.isl false false 16 (s.Doors.map Door.enc)),(143,I s.Doors.length),(144,I i)] (thH s e a m)=bif !ZoT (Zor s e) x||Zou s m x.Owner then some (.normal,[(0,.yld 4),(4,.ptr 3 0 0 1),(142,.isl false false 16 (s.Doors.map Door.enc)),(143,I s.Doors.length),(144,I (i+1:Nat))],thH s e a m) else some (.ret,[(0,.yld 4),(4,.ptr 3 0 0 1),(142,.isl false false 16 (s.Doors.map Door.enc)),(143,I s.Doors.length),(144,I i)],thD s e a m):=by
 have hg:=Z6 (f:=Door.enc) hx;have hi':=Zh (Z7 hx);have hwr:=Zx (n:=i) (by have:=Z7 hx;omega)
 have hcl:=Zow s;have hbl:=Zot s;obtain ⟨hf4,hf5⟩:=ZoI s e a m;have hS:∀ n,Zd n ((Zor s e).map encS)=true:=fun n=>ZN _ (Zw (fun t=>rfl) _)
 have hq:∀ n,Zj n (.row 16 [x.enc])=true:=fun n=>ZN (n:=n) [x.enc] (Zw (f:=Door.enc) (fun t=>rfl) [x])
 have hy:=Zpc s e a m x.Owner (.row 16 [x.enc]) hq (h.c.mst ho);simp only [thX,List.cons_append,List.nil_append,Door.enc,NL.enc] at hy;simp only [Door.enc,NL.enc] at hq;unfold ZoT;have hD:=Zqr (Zor s e) hd x.Id true false;have hcS:Z4 ((Zor s e).map encS)=true:=Zw (fun t=>rfl) _
 have htk:List.take (Zor s e).length ((Zor s e).map encS)=(Zor s e).map encS:=List.take_of_length_le (by simp)
 cases c1:(Zor s e).any (fun y=>Z3 x.Id y) with
 | false=>
  rw [c1] at hD;simp only [go_sem,qy,qq,qx,qz,qv,qk,reduceIte,c245L3b,thX,S3,hg,hi',hwr,hcl,hbl,hf4,hf5,hq,hS,hy,Door.enc,NL.enc,Bool.not_true,Bool.not_false,Bool.false_or,Bool.true_or,Bool.or_false,Bool.or_true,Bool.true_and,Bool.false_and,cond_true,cond_false,hD,hcS,htk,List.length_map,List.drop_zero,beq_self_eq_true]
 | true=>
  rw [c1] at hD;cases c9:Zou s m x.Owner<;>rw [c9] at hy<;>simp only [cond_true,cond_false] at hy<;>simp only [go_sem,qy,qq,qx,qz,qv,qk,reduceIte,c245L3b,thX,S3,hg,hi',hwr,hcl,hbl,hf4,hf5,hq,hS,hy,Door.enc,NL.enc,Bool.not_true,Bool.not_false,Bool.false_or,Bool.true_or,Bool.or_false,Bool.or_true,Bool.true_and,Bool.false_and,cond_true,cond_false,hD,hcS,htk,List.length_map,List.drop_zero,beq_self_eq_true]
end Go.AM
namespace Go.AM
open Go
theorem ZqE (s:Sta) (e:Event) (a m:Int) (h:RqS s e m) (hl:s.Regions.length≤1000) (ho:∀ x∈s.Regions,0≤x.Owner):
 ∃ fr' h',Zg rE [0,1,2,3,4,20,21,22] c245L0b [(0,.yld 4),(1,.iptr false [ldI s]),(2,.ptr 1 0 0 1),(3,evI e),(4,.ptr 3 0 0 1),(20,.isl false false 6 (s.Regions.map Region.enc)),(21,I s.Regions.length),(22,.int .i64 0)] (thH s e a m)=some (if s.Regions.all (fun x=>!ZoQ e x||Zou s m x.Owner)=true then .exit 0 else .ret,fr',h')∧
  (s.Regions.all (fun x=>!ZoQ e x||Zou s m x.Owner)=true→fr'=[(0,.yld 4),(1,.iptr false [ldI s]),(2,.ptr 1 0 0 1),(3,evI e),(4,.ptr 3 0 0 1),(20,.isl false false 6 (s.Regions.map Region.enc)),(21,I s.Regions.length),(22,I s.Regions.length)]∧h'=thH s e a m)∧(s.Regions.all (fun x=>!ZoQ e x||Zou s m x.Owner)=false→h'=thD s e a m):=by
 have hbl:=Zot s;have hcl:=Zow s;obtain ⟨hf4,hf5⟩:=ZoI s e a m;have hS:∀ n,Zd n ((Zor s e).map encS)=true:=fun n=>ZN _ (Zw (fun t=>rfl) _)
 have L:=Jk (E:=rE) (live:=[0,1,2,3,4,20,21,22]) (b:=c245L0b) s.Regions (fun _ x=>!ZoQ e x||Zou s m x.Owner) (fun i=>[(0,.yld 4),(1,.iptr false [ldI s]),(2,.ptr 1 0 0 1),(3,evI e),(4,.ptr 3 0 0 1),(20,.isl false false 6 (s.Regions.map Region.enc)),(21,I s.Regions.length),(22,I i)]) (fun _=>thH s e a m) 0
  (fun fr h'=>fr=[(0,.yld 4),(1,.iptr false [ldI s]),(2,.ptr 1 0 0 1),(3,evI e),(4,.ptr 3 0 0 1),(20,.isl false false 6 (s.Regions.map Region.enc)),(21,I s.Regions.length),(22,I s.Regions.length)]∧h'=thH s e a m) (fun _ h'=>h'=thD s e a m) (fun i=>rfl)
  (fun i x hx hP=>by
   have:=ZpS s e a m h i x hx hl (ho x (List.mem_of_getElem? hx));rw [hP,cond_true] at this;exact ⟨_,this,rfl⟩)
  (fun i x hx hP=>by
   have:=ZpS s e a m h i x hx hl (ho x (List.mem_of_getElem? hx));rw [hP,cond_false] at this;exact ⟨_,_,this,rfl⟩)
  ⟨[(0,.yld 4),(1,.iptr false [ldI s]),(2,.ptr 1 0 0 1),(3,evI e),(4,.ptr 3 0 0 1),(20,.isl false false 6 (s.Regions.map Region.enc)),(21,I s.Regions.length),(22,I s.Regions.length)],thH s e a m,by simp only [go_sem,qy,qq,qx,qz,qv,qk,reduceIte,c245L0b,thX,ZG,hbl,hcl,hf4,hS],rfl,rfl⟩
 rw [QE] at L;exact L
theorem ZqF (s:Sta) (e:Event) (a m:Int) (h:RqS s e m) (hl:s.Streets.length≤1000) (ho:∀ x∈s.Streets,0≤x.Owner):
 ∃ fr' h',Zg rE [0,1,2,3,4,48,49,50] c245L1b [(0,.yld 4),(1,.iptr false [ldI s]),(2,.ptr 1 0 0 1),(3,evI e),(4,.ptr 3 0 0 1),(48,.isl false false 5 (s.Streets.map Street.enc)),(49,I s.Streets.length),(50,.int .i64 0)] (thH s e a m)=some (if s.Streets.all (fun x=>!ZoR e x||Zou s m x.Owner)=true then .exit 2 else .ret,fr',h')∧
  (s.Streets.all (fun x=>!ZoR e x||Zou s m x.Owner)=true→fr'=[(0,.yld 4),(1,.iptr false [ldI s]),(2,.ptr 1 0 0 1),(3,evI e),(4,.ptr 3 0 0 1),(48,.isl false false 5 (s.Streets.map Street.enc)),(49,I s.Streets.length),(50,I s.Streets.length)]∧h'=thH s e a m)∧(s.Streets.all (fun x=>!ZoR e x||Zou s m x.Owner)=false→h'=thD s e a m):=by
 have hbl:=Zot s;have hcl:=Zow s;obtain ⟨hf4,hf5⟩:=ZoI s e a m;have hS:∀ n,Zd n ((Zor s e).map encS)=true:=fun n=>ZN _ (Zw (fun t=>rfl) _)
 have L:=Jk (E:=rE) (live:=[0,1,2,3,4,48,49,50]) (b:=c245L1b) s.Streets (fun _ x=>!ZoR e x||Zou s m x.Owner) (fun i=>[(0,.yld 4),(1,.iptr false [ldI s]),(2,.ptr 1 0 0 1),(3,evI e),(4,.ptr 3 0 0 1),(48,.isl false false 5 (s.Streets.map Street.enc)),(49,I s.Streets.length),(50,I i)]) (fun _=>thH s e a m) 2
  (fun fr h'=>fr=[(0,.yld 4),(1,.iptr false [ldI s]),(2,.ptr 1 0 0 1),(3,evI e),(4,.ptr 3 0 0 1),(48,.isl false false 5 (s.Streets.map Street.enc)),(49,I s.Streets.length),(50,I s.Streets.length)]∧h'=thH s e a m) (fun _ h'=>h'=thD s e a m) (fun i=>rfl)
  (fun i x hx hP=>by
   have:=ZpT s e a m h i x hx hl (ho x (List.mem_of_getElem? hx));rw [hP,cond_true] at this;exact ⟨_,this,rfl⟩)
  (fun i x hx hP=>by
   have:=ZpT s e a m h i x hx hl (ho x (List.mem_of_getElem? hx));rw [hP,cond_false] at this;exact ⟨_,_,this,rfl⟩)
  ⟨[(0,.yld 4),(1,.iptr false [ldI s]),(2,.ptr 1 0 0 1),(3,evI e),(4,.ptr 3 0 0 1),(48,.isl false false 5 (s.Streets.map Street.enc)),(49,I s.Streets.length),(50,I s.Streets.length)],thH s e a m,by simp only [go_sem,qy,qq,qx,qz,qv,qk,reduceIte,c245L1b,thX,ZG,hbl,hcl,hf4,hS],rfl,rfl⟩
 rw [QE] at L;exact L
theorem ZqG (s:Sta) (e:Event) (a m:Int) (h:RqS s e m) (hl:s.Buildings.length≤1000) (ho:∀ x∈s.Buildings,0≤x.Owner):
 ∃ fr' h',Zg rE [0,1,2,3,4,102,103,104] c245L2b [(0,.yld 4),(1,.iptr false [ldI s]),(2,.ptr 1 0 0 1),(3,evI e),(4,.ptr 3 0 0 1),(102,.isl false false 4 (s.Buildings.map Building.enc)),(103,I s.Buildings.length),(104,.int .i64 0)] (thH s e a m)=some (if s.Buildings.all (fun x=>!ZoS e x||Zou s m x.Owner)=true then .exit 4 else .ret,fr',h')∧
  (s.Buildings.all (fun x=>!ZoS e x||Zou s m x.Owner)=true→fr'=[(0,.yld 4),(1,.iptr false [ldI s]),(2,.ptr 1 0 0 1),(3,evI e),(4,.ptr 3 0 0 1),(102,.isl false false 4 (s.Buildings.map Building.enc)),(103,I s.Buildings.length),(104,I s.Buildings.length)]∧h'=thH s e a m)∧(s.Buildings.all (fun x=>!ZoS e x||Zou s m x.Owner)=false→h'=thD s e a m):=by
 have hbl:=Zot s;have hcl:=Zow s;obtain ⟨hf4,hf5⟩:=ZoI s e a m;have hS:∀ n,Zd n ((Zor s e).map encS)=true:=fun n=>ZN _ (Zw (fun t=>rfl) _)
 have L:=Jk (E:=rE) (live:=[0,1,2,3,4,102,103,104]) (b:=c245L2b) s.Buildings (fun _ x=>!ZoS e x||Zou s m x.Owner) (fun i=>[(0,.yld 4),(1,.iptr false [ldI s]),(2,.ptr 1 0 0 1),(3,evI e),(4,.ptr 3 0 0 1),(102,.isl false false 4 (s.Buildings.map Building.enc)),(103,I s.Buildings.length),(104,I i)]) (fun _=>thH s e a m) 4
  (fun fr h'=>fr=[(0,.yld 4),(1,.iptr false [ldI s]),(2,.ptr 1 0 0 1),(3,evI e),(4,.ptr 3 0 0 1),(102,.isl false false 4 (s.Buildings.map Building.enc)),(103,I s.Buildings.length),(104,I s.Buildings.length)]∧h'=thH s e a m) (fun _ h'=>h'=thD s e a m) (fun i=>rfl)
  (fun i x hx hP=>by
   have:=ZpU s e a m h i x hx hl (ho x (List.mem_of_getElem? hx));rw [hP,cond_true] at this;exact ⟨_,this,rfl⟩)
  (fun i x hx hP=>by
   have:=ZpU s e a m h i x hx hl (ho x (List.mem_of_getElem? hx));rw [hP,cond_false] at this;exact ⟨_,_,this,rfl⟩)
  ⟨[(0,.yld 4),(1,.iptr false [ldI s]),(2,.ptr 1 0 0 1),(3,evI e),(4,.ptr 3 0 0 1),(102,.isl false false 4 (s.Buildings.map Building.enc)),(103,I s.Buildings.length),(104,I s.Buildings.length)],thH s e a m,by simp only [go_sem,qy,qq,qx,qz,qv,qk,reduceIte,c245L2b,thX,ZG,hbl,hcl,hf4,hS],rfl,rfl⟩
 rw [QE] at L;exact L
theorem ZqH (s:Sta) (e:Event) (a m:Int) (h:RqS s e m) (hl:s.Doors.length≤1000) (ho:∀ x∈s.Doors,0≤x.Owner) (hd:(Zor s e).length≤100000):
 ∃ fr' h',Zg rE [0,4,142,143,144] c245L3b [(0,.yld 4),(4,.ptr 3 0 0 1),(142,.isl false false 16 (s.Doors.map Door.enc)),(143,I s.Doors.length),(144,.int .i64 0)] (thH s e a m)=some (if s.Doors.all (fun x=>!ZoT (Zor s e) x||Zou s m x.Owner)=true then .exit 6 else .ret,fr',h')∧
  (s.Doors.all (fun x=>!ZoT (Zor s e) x||Zou s m x.Owner)=true→fr'=[(0,.yld 4),(4,.ptr 3 0 0 1),(142,.isl false false 16 (s.Doors.map Door.enc)),(143,I s.Doors.length),(144,I s.Doors.length)]∧h'=thH s e a m)∧(s.Doors.all (fun x=>!ZoT (Zor s e) x||Zou s m x.Owner)=false→h'=thD s e a m):=by
 have hbl:=Zot s;have hcl:=Zow s;obtain ⟨hf4,hf5⟩:=ZoI s e a m;have hS:∀ n,Zd n ((Zor s e).map encS)=true:=fun n=>ZN _ (Zw (fun t=>rfl) _)
 have L:=Jk (E:=rE) (live:=[0,4,142,143,144]) (b:=c245L3b) s.Doors (fun _ x=>!ZoT (Zor s e) x||Zou s m x.Owner) (fun i=>[(0,.yld 4),(4,.ptr 3 0 0 1),(142,.isl false false 16 (s.Doors.map Door.enc)),(143,I s.Doors.length),(144,I i)]) (fun _=>thH s e a m) 6
  (fun fr h'=>fr=[(0,.yld 4),(4,.ptr 3 0 0 1),(142,.isl false false 16 (s.Doors.map Door.enc)),(143,I s.Doors.length),(144,I s.Doors.length)]∧h'=thH s e a m) (fun _ h'=>h'=thD s e a m) (fun i=>rfl)
  (fun i x hx hP=>by
   have:=ZpV s e a m h i x hx hl (ho x (List.mem_of_getElem? hx)) hd;rw [hP,cond_true] at this;exact ⟨_,this,rfl⟩)
  (fun i x hx hP=>by
   have:=ZpV s e a m h i x hx hl (ho x (List.mem_of_getElem? hx)) hd;rw [hP,cond_false] at this;exact ⟨_,_,this,rfl⟩)
  ⟨[(0,.yld 4),(4,.ptr 3 0 0 1),(142,.isl false false 16 (s.Doors.map Door.enc)),(143,I s.Doors.length),(144,I s.Doors.length)],thH s e a m,by simp only [go_sem,qy,qq,qx,qz,qv,qk,reduceIte,c245L3b,thX,ZG,hbl,hcl,hf4,hS],rfl,rfl⟩
 rw [QE] at L;exact L
def owH (e:Event) (l:List Str):Hp:=[.row 1 [I 0],.row 1 [.clo (.func 244) [] [evI e]],.row 1 (l.map encS),.row 1 [.sl 2 l.length 0 l.length false]]
theorem Zpd (e:Event) (l:List Str) (x:Str) (hl:l.length≤1000000) (r:List AObj):appW (owH e l++r) true 1 16 (.sl 2 l.length 0 l.length false) (.isl false false 1 [.str x]) =
 some (.sl 2 (l.length+1) 0 (l.length+1) false,[.row 1 [I 0],.row 1 [.clo (.func 244) [] [evI e]],.row 1 ((l++[x]).map encS),.row 1 [.sl 2 l.length 0 l.length false]]++r):=by
 have:=XC (h:=owH e l++r) (fz:=true) (b:=2) (g:=l.length) (sz:=1) (bytes:=16) (es:=l.map encS) (bw:=false) (ex:=false) (ys:=[.str x]) (by
  show (bif (l.map encS).length==l.length then some (1,l.map encS) else none)=_
  rw [List.length_map,beq_self_eq_true];rfl) rfl rfl (by decide) (by decide) (by simp;omega)
 rw [this,List.map_append];rfl
theorem ZoU (e:Event) (n:Nat):bel n (evI e)=true:=by
 have hc:Z4 [evI e]=true:=by simp only [go_sem,qy,qq,qx,qz,qv,qk,reduceIte]
 have:=ZN (n:=n) [evI e] hc;unfold Zd at this;rw [Bool.and_eq_true] at this;exact this.1
theorem ZqI (s:Sta) (e:Event) (l:List Str) (hl:l.length+e.Lst.l.length≤100000):Zg rE [2,3,5,6,35,36,37] c140L0b [(2,.iptr false [ldI s]),(3,evI e),(5,.ptr 1 0 0 1),(6,.ptr 3 0 0 1),(35,.isl false e.Lst.ex 7 (e.Lst.l.map Ent.enc)),(36,I e.Lst.l.length),(37,.int .i64 0)] (owH e l) =
 some (.exit 0,[(2,.iptr false [ldI s]),(3,evI e),(5,.ptr 1 0 0 1),(6,.ptr 3 0 0 1),(35,.isl false e.Lst.ex 7 (e.Lst.l.map Ent.enc)),(36,I e.Lst.l.length),(37,I e.Lst.l.length)],owH e (l++e.Lst.l.map (·.Id))):=by
 have hbl:=Zot s;have hbe:=ZoU e;have hS:∀ (D:List Str) n,Zd n (D.map encS)=true:=fun D n=>ZN _ (Zw (fun t=>rfl) _)
 have L:=Y8 (E:=rE) (live:=[2,3,5,6,35,36,37]) (b:=c140L0b) e.Lst.l.length (fun i=>[(2,.iptr false [ldI s]),(3,evI e),(5,.ptr 1 0 0 1),(6,.ptr 3 0 0 1),(35,.isl false e.Lst.ex 7 (e.Lst.l.map Ent.enc)),(36,I e.Lst.l.length),(37,I i)])
  (fun i=>owH e (l++(e.Lst.l.take i).map (·.Id))) (fun i=>rfl)
  (fun i hi=>by
   obtain ⟨x,hx⟩:∃ x,e.Lst.l[i]? = some x:=⟨_,List.getElem?_eq_getElem hi⟩;have hg:=Z6 (f:=Ent.enc) hx;have hi':=Zh hi;have hwr:=Zx (n:=i) (by omega)
   have htk:l++(e.Lst.l.take (i+1)).map (·.Id)=(l++(e.Lst.l.take i).map (·.Id))++[x.Id]:=by
    rw [List.take_add_one,hx,List.map_append,List.append_assoc];rfl
   have hlen:(l++(e.Lst.l.take i).map (·.Id)).length≤1000000:=by rw [List.length_append,List.length_map,List.length_take];omega
   rw [htk];generalize l++(e.Lst.l.take i).map (·.Id)=D at *;have ha:=fun q=>Zpd e D x.Id hlen [q]
   simp only [owH,List.cons_append,List.nil_append] at ha;have hl1:(D++[x.Id]).length=D.length+1:=by simp
   refine ⟨[(2,.iptr false [ldI s]),(3,evI e),(5,.ptr 1 0 0 1),(6,.ptr 3 0 0 1),(35,.isl false e.Lst.ex 7 (e.Lst.l.map Ent.enc)),(36,I e.Lst.l.length),(37,I (i+1:Nat))],?_,rfl⟩;unfold owH;rw [hl1];simp only [go_sem,qy,qq,qx,qz,qv,qk,reduceIte,c140L0b,hg,hi',hwr,ha,Ent.enc,hbl,hbe,hS])
  (e:=.exit 0) (fr:=[(2,.iptr false [ldI s]),(3,evI e),(5,.ptr 1 0 0 1),(6,.ptr 3 0 0 1),(35,.isl false e.Lst.ex 7 (e.Lst.l.map Ent.enc)),(36,I e.Lst.l.length),(37,I e.Lst.l.length)]) (h:=owH e (l++e.Lst.l.map (·.Id))) (by
   rw [List.take_length];simp only [go_sem,qy,qq,qx,qz,qv,qk,reduceIte,c140L0b,owH,ZG,hbl,hbe,hS]) (by simp)
 have e0:l++(e.Lst.l.take 0).map (·.Id)=l:=by simp
 rw [e0] at L;exact L
theorem ZqJ (s:Sta) (e:Event) (l:List Str) (hl:l.length+s.Units.length≤100000):Zg rE [2,3,5,6,54,55,56] c140L1b [(2,.iptr false [ldI s]),(3,evI e),(5,.ptr 1 0 0 1),(6,.ptr 3 0 0 1),(54,.isl false false 6 (s.Units.map Unit'.enc)),(55,I s.Units.length),(56,.int .i64 0)] (owH e l) =
 some (.exit 2,[(2,.iptr false [ldI s]),(3,evI e),(5,.ptr 1 0 0 1),(6,.ptr 3 0 0 1),(54,.isl false false 6 (s.Units.map Unit'.enc)),(55,I s.Units.length),(56,I s.Units.length)],owH e (l++(s.Units.filter (fun u=>Z3 u.Id e.Id)).map (·.Door))):=by
 have hbl:=Zot s;have hbe:=ZoU e;have hS:∀ (D:List Str) n,Zd n (D.map encS)=true:=fun D n=>ZN _ (Zw (fun t=>rfl) _)
 have L:=Y8 (E:=rE) (live:=[2,3,5,6,54,55,56]) (b:=c140L1b) s.Units.length (fun i=>[(2,.iptr false [ldI s]),(3,evI e),(5,.ptr 1 0 0 1),(6,.ptr 3 0 0 1),(54,.isl false false 6 (s.Units.map Unit'.enc)),(55,I s.Units.length),(56,I i)])
  (fun i=>owH e (l++((s.Units.take i).filter (fun u=>Z3 u.Id e.Id)).map (·.Door))) (fun i=>rfl)
  (fun i hi=>by
   obtain ⟨x,hx⟩:∃ x,s.Units[i]? = some x:=⟨_,List.getElem?_eq_getElem hi⟩;have hg:=Z6 (f:=Unit'.enc) hx;have hi':=Zh hi;have hwr:=Zx (n:=i) (by omega)
   have htk:l++((s.Units.take (i+1)).filter (fun u=>Z3 u.Id e.Id)).map (·.Door)=(l++((s.Units.take i).filter (fun u=>Z3 u.Id e.Id)).map (·.Door))++bif Z3 x.Id e.Id then [x.Door] else []:=by
    rw [List.take_add_one,hx,List.filter_append,List.map_append,List.append_assoc];congr 2;show ([x].filter _).map _=_
    cases hc:Z3 x.Id e.Id<;>simp [hc]
   have hlen:(l++((s.Units.take i).filter (fun u=>Z3 u.Id e.Id)).map (·.Door)).length≤1000000:=by
    rw [List.length_append,List.length_map];have:=List.length_filter_le (fun u:Unit'=>Z3 u.Id e.Id) (s.Units.take i)
    rw [List.length_take] at this;omega
   rw [htk];generalize l++((s.Units.take i).filter (fun u=>Z3 u.Id e.Id)).map (·.Door)=D at *
   refine ⟨[(2,.iptr false [ldI s]),(3,evI e),(5,.ptr 1 0 0 1),(6,.ptr 3 0 0 1),(54,.isl false false 6 (s.Units.map Unit'.enc)),(55,I s.Units.length),(56,I (i+1:Nat))],?_,rfl⟩;cases c:Z3 x.Id e.Id with
   | false=>
    rw [cond_false,List.append_nil];simp only [go_sem,qy,qq,qx,qz,qv,qk,reduceIte,c140L1b,owH,hg,hi',hwr,Unit'.enc,c,hbl,hbe,hS]
   | true=>
    rw [cond_true];have ha:=fun q=>Zpd e D x.Door hlen [q]
    simp only [owH,List.cons_append,List.nil_append] at ha;have hl1:(D++[x.Door]).length=D.length+1:=by simp
    unfold owH;rw [hl1];simp only [go_sem,qy,qq,qx,qz,qv,qk,reduceIte,c140L1b,hg,hi',hwr,ha,Unit'.enc,c,hbl,hbe,hS])
  (e:=.exit 2) (fr:=[(2,.iptr false [ldI s]),(3,evI e),(5,.ptr 1 0 0 1),(6,.ptr 3 0 0 1),(54,.isl false false 6 (s.Units.map Unit'.enc)),(55,I s.Units.length),(56,I s.Units.length)]) (h:=owH e (l++(s.Units.filter (fun u=>Z3 u.Id e.Id)).map (·.Door))) (by
   rw [List.take_length];simp only [go_sem,qy,qq,qx,qz,qv,qk,reduceIte,c140L1b,owH,ZG,hbl,hbe,hS]) (by simp)
 have e0:l++((s.Units.take 0).filter (fun u=>Z3 u.Id e.Id)).map (·.Door)=l:=by simp
 rw [e0] at L;exact L
theorem ZqK (l:List Str) (ex:Bool) (hl:l.length≤1000000) (h:Hp):fnV rE 164 [.isl false ex 1 (l.map encS)] h=some (.sl h.length l.length 0 l.length false,h++[.row 1 (l.map encS)]):=by
 have hble:Nat.ble l.length 1000000=true:=Nat.ble_eq_true_of_le hl;have hfit:(l.map encS).all (fits 1)=true:=by rw [List.all_map,List.all_eq_true];intro x _;rfl
 rw [V8 (s:=J9) rfl];simp only [J9,Q2,Qq,hfit,List.length_map,hble,beq_self_eq_true,Bool.true_or,Bool.and_true,Bool.true_and,cond_true]
end Go.AM
namespace Go.AM
open Go
theorem c140_eq:c140=.seq s140p0 (.seq s140p1 (.seq s140p2 (.seq s140p3 (.seq s140p4 (.seq s140p5 (.seq s140p6 (.seq s140p7 .ret))))))):=rfl
def owG (s:Sta) (e:Event) (k:Nat) (b:Bool):Fr:=bif b then [(2,.iptr false [ldI s]),(3,evI e),(5,.ptr 1 0 0 1),(6,.ptr 3 0 0 1)] else [(2,.iptr false [ldI s]),(3,evI e),(5,.ptr 1 0 0 1),(6,.ptr 3 0 0 1),(k,.bool false)]
def ow1 (e:Event) (l:List Str):List Str:=l++bif kOf [9,12] e then [e.Id] else []
def ow2 (e:Event) (l:List Str):List Str:=l++bif kOf [7] e then [e.Other] else []
def ow3 (e:Event) (l:List Str):List Str:=l++bif kOf [8] e then e.Lst.l.map (·.Id) else []
def ow4 (s:Sta) (e:Event) (l:List Str):List Str:=l++bif kOf [12] e then (s.Units.filter (fun u=>Z3 u.Id e.Id)).map (·.Door) else []
theorem ZpW (s:Sta) (e:Event):Zor s e=ow4 s e (ow3 e (ow2 e (ow1 e e.Ids.l))):=rfl
theorem ZqL (s:Sta) (e:Event) (l:List Str) (b:Bool) (hl:l.length≤100000):Zb rE s140p3 (owG s e 0 b) (owH e l)=some (.normal,owG s e 17 (kOf [9,12] e),owH e (ow1 e l)):=by
 have hbl:=Zot s;have hbe:=ZoU e;have hS:∀ (D:List Str) n,Zd n (D.map encS)=true:=fun D n=>ZN _ (Zw (fun t=>rfl) _)
 have hk:=ZoJ e [9,12] false (by decide)
 simp only [List.map_cons,List.map_nil] at hk;unfold ow1;cases c:kOf [9,12] e with
 | false=>
  rw [c] at hk;rw [cond_false,List.append_nil];cases b<;>simp only [go_sem,qy,qq,qx,qz,qv,qk,reduceIte,s140p3,owG,cond_true,cond_false,owH,hk,hbl,hbe,hS]
 | true=>
  rw [c] at hk;rw [cond_true];have ha:=Zpd e l e.Id (by omega) []
  have hl1:(l++[e.Id]).length=l.length+1:=by simp
  unfold owH at ha ⊢;rw [hl1];simp only [List.append_nil] at ha;cases b<;>simp only [go_sem,qy,qq,qx,qz,qv,qk,reduceIte,s140p3,owG,cond_true,cond_false,hk,ha,hbl,hbe,hS]
theorem ZqM (s:Sta) (e:Event) (l:List Str) (b:Bool) (hl:l.length≤100000):Zb rE s140p4 (owG s e 17 b) (owH e l)=some (.normal,owG s e 25 (kOf [7] e),owH e (ow2 e l)):=by
 have hbl:=Zot s;have hbe:=ZoU e;have hS:∀ (D:List Str) n,Zd n (D.map encS)=true:=fun D n=>ZN _ (Zw (fun t=>rfl) _)
 have hk:=ZoJ e [7] false (by decide)
 simp only [List.map_cons,List.map_nil] at hk;unfold ow2;cases c:kOf [7] e with
 | false=>
  rw [c] at hk;rw [cond_false,List.append_nil];cases b<;>simp only [go_sem,qy,qq,qx,qz,qv,qk,reduceIte,s140p4,owG,cond_true,cond_false,owH,hk,hbl,hbe,hS]
 | true=>
  rw [c] at hk;rw [cond_true];have ha:=Zpd e l e.Other (by omega) []
  have hl1:(l++[e.Other]).length=l.length+1:=by simp
  unfold owH at ha ⊢;rw [hl1];simp only [List.append_nil] at ha;cases b<;>simp only [go_sem,qy,qq,qx,qz,qv,qk,reduceIte,s140p4,owG,cond_true,cond_false,hk,ha,hbl,hbe,hS]
theorem ZqN (s:Sta) (e:Event) (l:List Str) (b:Bool) (hl:l.length+e.Lst.l.length≤100000):Zb rE s140p5 (owG s e 25 b) (owH e l)=some (.normal,owG s e 33 (kOf [8] e),owH e (ow3 e l)):=by
 have hbl:=Zot s;have hbe:=ZoU e;have hS:∀ (D:List Str) n,Zd n (D.map encS)=true:=fun D n=>ZN _ (Zw (fun t=>rfl) _)
 have hE:∀ n,Zd n (e.Lst.l.map Ent.enc)=true:=fun n=>ZN _ (Zw (fun t=>rfl) _)
 have hk:=ZoJ e [8] false (by decide)
 simp only [List.map_cons,List.map_nil] at hk;unfold ow3;cases c:kOf [8] e with
 | false=>
  rw [c] at hk;rw [cond_false,List.append_nil];cases b<;>simp only [go_sem,qy,qq,qx,qz,qv,qk,reduceIte,s140p5,owG,cond_true,cond_false,owH,hk,hbl,hbe,hS]
 | true=>
  rw [c] at hk;rw [cond_true];have hL:=ZqI s e l hl;generalize l++e.Lst.l.map (·.Id)=D at *;unfold owH at hL ⊢;cases b<;>simp only [go_sem,qy,qq,qx,qz,qv,qk,reduceIte,s140p5,c140L0,owG,cond_true,cond_false,hk,hL,hbl,hbe,hS,hE]
theorem ZqO (s:Sta) (e:Event) (l:List Str) (b:Bool) (hl:l.length+s.Units.length≤100000):Zb rE s140p6 (owG s e 33 b) (owH e l)=some (.normal,owG s e 49 (kOf [12] e),owH e (ow4 s e l)):=by
 have hbl:=Zot s;have hbe:=ZoU e;have hS:∀ (D:List Str) n,Zd n (D.map encS)=true:=fun D n=>ZN _ (Zw (fun t=>rfl) _)
 have hE:∀ n,Zd n (s.Units.map Unit'.enc)=true:=fun n=>ZN _ (Zw (fun t=>rfl) _)
 have hk:=ZoJ e [12] false (by decide)
 simp only [List.map_cons,List.map_nil] at hk;unfold ow4;cases c:kOf [12] e with
 | false=>
  rw [c] at hk;rw [cond_false,List.append_nil];cases b<;>simp only [go_sem,qy,qq,qx,qz,qv,qk,reduceIte,s140p6,owG,cond_true,cond_false,owH,hk,hbl,hbe,hS]
 | true=>
  rw [c] at hk;rw [cond_true];have hL:=ZqJ s e l hl;generalize l++(s.Units.filter (fun u=>Z3 u.Id e.Id)).map (·.Door)=D at *
  unfold owH at hL ⊢;cases b<;>simp only [go_sem,qy,qq,qx,qz,qv,qk,reduceIte,s140p6,c140L1,owG,cond_true,cond_false,hk,hL,hbl,hbe,hS,hE]
theorem ZqP (s:Sta) (e:Event) (hl:e.Ids.l.length≤1000000):Zb rE s140p2 [(2,.iptr false [ldI s]),(3,evI e),(5,.ptr 1 0 0 1)] [.row 1 [I 0],.row 1 [.clo (.func 244) [] [evI e]]]=some (.normal,owG s e 0 true,owH e e.Ids.l):=by
 have hC:=ZqK e.Ids.l e.Ids.ex hl [.row 1 [I 0],.row 1 [.clo (.func 244) [] [evI e]]];have hbl:=Zot s;have hbe:=ZoU e;have hS:∀ (D:List Str) n,Zd n (D.map encS)=true:=fun D n=>ZN _ (Zw (fun t=>rfl) _)
 unfold owH owG;simp only [go_sem,qy,qq,qx,qz,qv,qk,reduceIte,s140p2,cond_true,hC,hbl,hbe,hS]
theorem ZpX (s:Sta) (e:Event) (h1:e.Ids.l.length≤1000) (h2:e.Lst.l.length≤1000) (h3:s.Units.length≤1000):(ow1 e e.Ids.l).length≤1001∧(ow2 e (ow1 e e.Ids.l)).length≤1002∧(ow3 e (ow2 e (ow1 e e.Ids.l))).length≤2002∧(Zor s e).length≤3002:=by
 have a1:(ow1 e e.Ids.l).length≤1001:=by
  unfold ow1;cases kOf [9,12] e<;>simp<;>omega
 have a2:(ow2 e (ow1 e e.Ids.l)).length≤1002:=by
  unfold ow2;cases kOf [7] e<;>simp<;>omega
 have a3:(ow3 e (ow2 e (ow1 e e.Ids.l))).length≤2002:=by
  rw [ow3];cases kOf [8] e<;>simp<;>omega
 refine ⟨a1,a2,a3,?_⟩;rw [ZpW,ow4];have:=List.length_filter_le (fun u:Unit'=>Z3 u.Id e.Id) s.Units
 cases kOf [12] e<;>simp<;>omega
theorem ZqQ (s:Sta) (e:Event) (h1:e.Ids.l.length≤1000) (h2:e.Lst.l.length≤1000) (h3:s.Units.length≤1000):fnV rE 140 [ldI s,evA e] [.row 1 [I 0]]=some (.clo (.func 245) [] [.iptr false [ldI s],.ptr 1 0 0 1,evI e,.ptr 3 0 0 1],owH e (Zor s e)):=by
 obtain ⟨a1,a2,a3,a4⟩:=ZpX s e h1 h2 h3;have q2:=ZqP s e (by omega)
 have q3:=ZqL s e e.Ids.l true (by omega)
 have q4:=ZqM s e (ow1 e e.Ids.l) (kOf [9,12] e) (by omega)
 have q5:=ZqN s e (ow2 e (ow1 e e.Ids.l)) (kOf [7] e) (by omega)
 have q6:=ZqO s e (ow3 e (ow2 e (ow1 e e.Ids.l))) (kOf [8] e) (by omega)
 rw [←ZpW] at q6;have hbl:=Zot s;have hcl:=Zow s;have hbe:=ZoU e;have hS:∀ (D:List Str) n,Zd n (D.map encS)=true:=fun D n=>ZN _ (Zw (fun t=>rfl) _)
 have q0:Zb rE s140p0 [(0,ldI s),(1,evA e)] [.row 1 [I 0]]=some (.normal,[(2,.iptr false [ldI s]),(3,evI e)],[.row 1 [I 0]]):=by
  simp only [go_sem,qy,qq,qx,qz,qv,qk,reduceIte,s140p0,hcl,hbl,hbe]
 have q1:Zb rE s140p1 [(2,.iptr false [ldI s]),(3,evI e)] [.row 1 [I 0]]=some (.normal,[(2,.iptr false [ldI s]),(3,evI e),(5,.ptr 1 0 0 1)],[.row 1 [I 0],.row 1 [.clo (.func 244) [] [evI e]]]):=by
  simp only [go_sem,qy,qq,qx,qz,qv,qk,reduceIte,s140p1,hcl,hbl,hbe]
 generalize Zor s e=D at *;have q7:∀ b,∃ fr,Zb rE s140p7 (owG s e 49 b) (owH e D)=some (.normal,fr,owH e D)∧get fr 4=.clo (.func 245) [] [.iptr false [ldI s],.ptr 1 0 0 1,evI e,.ptr 3 0 0 1]:=by
  intro b;cases b
  ·exact ⟨_,by simp only [go_sem,qy,qq,qx,qz,qv,qk,reduceIte,s140p7,owG,owH,cond_true,cond_false,hbl,hbe]<;>rfl,rfl⟩
  ·exact ⟨_,by simp only [go_sem,qy,qq,qx,qz,qv,qk,reduceIte,s140p7,owG,owH,cond_true,cond_false,hbl,hbe]<;>rfl,rfl⟩
 obtain ⟨fr,q7,g7⟩:=q7 (kOf [12] e);rw [Q6 (f:=140) rfl rfl,c140_eq];simp only [go_sem,qy,qq,qx,qz,qv,qk,reduceIte,q0,q1,q2,q3,q4,q5,q6,q7,g7]
end Go.AM
namespace Go.AM
open Go
theorem ClS.str {s:Sta} (h:ClS s) {x:Street} (hx:x∈s.Streets):0≤x.Owner∧x.Owner≤63:=by
 have:=h.prop.st x hx;unfold Vp at this;simp only [Bool.and_eq_true] at this;exact Zpa this.1
theorem ClS.bld {s:Sta} (h:ClS s) {x:Building} (hx:x∈s.Buildings):0≤x.Owner∧x.Owner≤63:=by
 have:=h.prop.bu x hx;unfold Vq at this;simp only [Bool.and_eq_true] at this;exact Zpa this.1
theorem ClS.dor {s:Sta} (h:ClS s) {x:Door} (hx:x∈s.Doors):0≤x.Owner∧x.Owner≤63:=by
 obtain ⟨i,hi⟩:=List.getElem?_of_mem hx;have:=h.prop.dr i x hi;unfold Vr at this;simp only [Bool.and_eq_true] at this;exact Zpa this.1
theorem ZqR (s:Sta) (e:Event) (a m:Int) (h:RqS s e m):
 rf rE (.clo (.func 245) [] [.iptr false [ldI s],.ptr 1 0 0 1,evI e,.ptr 3 0 0 1]) [13] c72R0a c72R0b (ZoA s e a m) (owH e (Zor s e))=bif Zpb s e m
  then some (.normal,ZoA s e a m,thX s e a m 0 .exhausted .normal (Zor s e)) else some (.ret,ZoA s e a m,thX s e a m 18 .exhausted .ret (Zor s e)):=by
 have hz:=h.c.E.sizes;have hd:=(ZpX s e (by have:=h.ev.ids;omega) (by have:=h.ev.lst;omega) hz.units).2.2.2
 obtain ⟨f1,h1,L1,A1,B1⟩:=ZqE s e a m h hz.regions (fun x hx=>(h.c.reg hx).1)
 obtain ⟨f2,h2,L2,A2,B2⟩:=ZqF s e a m h hz.streets (fun x hx=>(h.c.str hx).1)
 obtain ⟨f3,h3,L3,A3,B3⟩:=ZqG s e a m h hz.buildings (fun x hx=>(h.c.bld hx).1)
 obtain ⟨f4,h4,L4,A4,B4⟩:=ZqH s e a m h hz.doors (fun x hx=>(h.c.dor hx).1) (by omega)
 have hbl:=Zot s;have hcl:=Zow s;obtain ⟨hf4,hf5⟩:=ZoI s e a m;have hS:∀ n,Zd n ((Zor s e).map encS)=true:=fun n=>ZN _ (Zw (fun t=>rfl) _)
 unfold Zpb;rw [Z1k (c:=c245) rfl];cases c1:s.Regions.all (fun x=>!ZoQ e x||Zou s m x.Owner) with
 | false=>
  have e1:=B1 c1;subst e1;rw [c1] at L1;simp only [thX,Bool.false_eq_true,if_false] at L1;rw [Bool.false_and,cond_false];simp only [go_sem,qy,qq,qx,qz,qv,qk,reduceIte,c245,c245L0,owH,thX,List.cons_append,List.nil_append,L1,hbl,hcl,hf4,hf5,hS];rfl
 | true=>
 obtain ⟨e1,e1'⟩:=A1 c1;subst e1;subst e1';rw [c1] at L1;simp only [thX,if_true] at L1;cases c2:s.Streets.all (fun x=>!ZoR e x||Zou s m x.Owner) with
 | false=>
  have e1:=B2 c2;subst e1;rw [c2] at L2;simp only [thX,Bool.false_eq_true,if_false] at L2;rw [Bool.true_and,Bool.false_and,cond_false];simp only [go_sem,qy,qq,qx,qz,qv,qk,reduceIte,c245,c245L0,c245L1,owH,thX,List.cons_append,List.nil_append,L1,L2,hbl,hcl,hf4,hf5,hS];rfl
 | true=>
 obtain ⟨e1,e1'⟩:=A2 c2;subst e1;subst e1';rw [c2] at L2;simp only [thX,if_true] at L2;cases c3:s.Buildings.all (fun x=>!ZoS e x||Zou s m x.Owner) with
 | false=>
  have e1:=B3 c3;subst e1;rw [c3] at L3;simp only [thX,Bool.false_eq_true,if_false] at L3;rw [Bool.true_and,Bool.true_and,Bool.false_and,cond_false];simp only [go_sem,qy,qq,qx,qz,qv,qk,reduceIte,c245,c245L0,c245L1,c245L2,owH,thX,List.cons_append,List.nil_append,L1,L2,L3,hbl,hcl,hf4,hf5,hS];rfl
 | true=>
 obtain ⟨e1,e1'⟩:=A3 c3;subst e1;subst e1';rw [c3] at L3;simp only [thX,if_true] at L3;cases c4:s.Doors.all (fun x=>!ZoT (Zor s e) x||Zou s m x.Owner) with
 | false=>
  have e1:=B4 c4;subst e1;rw [c4] at L4;simp only [thX,Bool.false_eq_true,if_false] at L4;rw [Bool.true_and,Bool.true_and,Bool.true_and,cond_false];simp only [go_sem,qy,qq,qx,qz,qv,qk,reduceIte,c245,c245L0,c245L1,c245L2,c245L3,owH,thX,List.cons_append,List.nil_append,L1,L2,L3,L4,hbl,hcl,hf4,hf5,hS];rfl
 | true=>
 obtain ⟨e1,e1'⟩:=A4 c4;subst e1;subst e1';rw [c4] at L4;simp only [thX,if_true] at L4;rw [Bool.true_and,Bool.true_and,Bool.true_and,cond_true];simp only [go_sem,qy,qq,qx,qz,qv,qk,reduceIte,c245,c245L0,c245L1,c245L2,c245L3,owH,thX,List.cons_append,List.nil_append,L1,L2,L3,L4,hbl,hcl,hf4,hf5,hS];rfl
theorem ZqS (s:Sta) (e:Event) (a m:Int) (h:RqS s e m):pfn rE 72 [rqI s e a m]=some (I (Zp6 s e m)):=by
 have hrf:=ZqR s e a m h;have hO:=ZqQ s e (by have:=h.ev.ids;omega) (by have:=h.ev.lst;omega) h.c.E.sizes.units
 have hcl:=Zow s;have hbl:=Zot s;have hS:∀ n,Zd n ((Zor s e).map encS)=true:=fun n=>ZN _ (Zw (fun t=>rfl) _)
 obtain ⟨hf4,hf5⟩:=ZoI s e a m;generalize Zor s e=D at *;unfold Zp6;rw [Z5 (f:=72) rfl rfl];unfold owH at hrf hO;cases c:Zpb s e m with
 | true=>
  rw [c,cond_true] at hrf;simp only [ZoA] at hrf;simp only [go_sem,qy,qq,qx,qz,qv,qk,reduceIte,c72,hO,Sr,hrf,hcl,hbl,hS,thX,ZoA]
 | false=>
  rw [c,cond_false] at hrf;simp only [ZoA] at hrf;simp only [go_sem,qy,qq,qx,qz,qv,qk,reduceIte,c72,hO,Sr,hrf,hcl,hbl,hS,thX,ZoA]
end Go.AM
namespace Go.AM
open Go
def Zpe (s:Sta) (a b:Int):Bool:=(Jx s&&(Zoz a&&Zoz b))&&ZoW s (Zoq s a) (Zoq s b)
theorem Zpf {a:Int} (h:Zoz a=true):0≤a∧a≤63:=by
 unfold Zoz at h;simpa using h
theorem ZqT (s:Sta) (hE:StE s) (a b:Int):pfn rE 26 [stA s,I a,I b]=some (.bool (Zpe s a b)):=by
 have hO:=Zp7 s hE;have hA:=Zp8 a;have hB:=Zp8 b;have hcl:=Zow s;unfold Zpe;rw [Z5 (f:=26) rfl rfl];cases c:Jx s with
 | false=>
  rw [c] at hO;simp only [go_sem,qy,qq,qx,qz,qv,qk,reduceIte,c26,hO,hcl,Bool.false_and]
 | true=>
 rw [c] at hO;cases c1:Zoz a with
 | false=>
  rw [c1] at hA;simp only [go_sem,qy,qq,qx,qz,qv,qk,reduceIte,c26,hO,hA,hcl,Bool.false_and,Bool.and_false]
 | true=>
 rw [c1] at hA;cases c2:Zoz b with
 | false=>
  rw [c2] at hB;simp only [go_sem,qy,qq,qx,qz,qv,qk,reduceIte,c26,hO,hA,hB,hcl,Bool.false_and,Bool.and_false]
 | true=>
 rw [c2] at hB;have h:ClS s:=⟨hE,c⟩;have m1:=h.mst (Zpf c1).1;have m2:=h.mst (Zpf c2).1;have hP:=ZpL s (Zoq s a) (Zoq s b) hE.sizes.rulings (ZpQ h);simp only [go_sem,qy,qq,qx,qz,qv,qk,reduceIte,c26,hO,hA,hB,m1,m2,hP,hcl,Bool.true_and,Bool.and_true]
def cvV:List (Nat×Int)→Int
 | []=>0
 | x::l=>bif x.2==0 then cvV l else x.2
abbrev cvF (R:AV) (L:List (Nat×Int)) (i:Nat):Fr:=[(46,.isl false false 1 (L.map fun x=>.clo (.func x.1) [R] [])),(47,I L.length),(48,I i)]
theorem ZpY (R:AV) (hc:clean R=true) (L:List (Nat×Int)) (hl:L.length≤1000) (hp:∀ x∈L,pfn rE x.1 [R]=some (I x.2)):∀ (k i:Nat),i+k=L.length→
 ∃ fr',Zg rE [46,47,48] c28L0b (cvF R L i) []=some (bif cvV (L.drop i)==0 then .exit 0 else .ret,fr',[])∧(cvV (L.drop i)≠0→get fr' 6=I (cvV (L.drop i)))
 | 0,i,hk=>by
  have hi:i=L.length:=by omega
  subst hi;refine ⟨_,Q7 rfl (e:=.exit 0) (by simp only [go_sem,qy,qq,qx,qz,qv,qk,reduceIte,c28L0b,ZG]<;>rfl) (by simp) |>.trans (by rw [List.drop_length];rfl),?_⟩
  rw [List.drop_length];exact fun h=>absurd rfl h
 | k+1,i,hk=>by
  obtain ⟨x,hx⟩:∃ x,L[i]? = some x:=⟨_,List.getElem?_eq_getElem (by omega)⟩
  have hg:=Z6 (f:=fun x:Nat×Int=>AV.clo (.func x.1) [R] []) hx
  have hi':=Zh (Z7 hx);have hwr:=Zx (n:=i) (by have:=Z7 hx;omega)
  have hy:=hp x (List.mem_of_getElem? hx);have hd:L.drop i=x::L.drop (i+1):=by
   have h1:=List.drop_eq_getElem_cons (Z7 hx);rw [h1];congr 1;have:=List.getElem?_eq_getElem (Z7 hx);rw [this] at hx;exact Option.some.inj hx
  rw [hd,cvV];cases c:x.2==0 with
  | true=>
   have hn:(x.2 != 0)=false:=by rw [bne,c];rfl
   obtain ⟨fr',h1,h2⟩:=ZpY R hc L hl hp k (i+1) (by omega)
   refine ⟨fr',?_,h2⟩;rw [cond_true,Yt rfl (fr':=(6,.bot)::cvF R L (i+1)) (h':=[]) (by
    simp only [go_sem,qy,qq,qx,qz,qv,qk,reduceIte,c28L0b,hg,hi',hwr,hy,hn,hc])]
   exact h1
  | false=>
   have hn:(x.2 != 0)=true:=by rw [bne,c];rfl
   rw [cond_false,c,cond_false];refine ⟨_,Q7 rfl (e:=.ret) (fr':=[(6,I x.2),(46,.isl false false 1 (L.map fun x=>.clo (.func x.1) [R] [])),(47,I L.length),(48,I i)]) (by
    simp only [go_sem,qy,qq,qx,qz,qv,qk,reduceIte,c28L0b,hg,hi',hwr,hy,hn,hc]) (by simp),fun _=>rfl⟩
def ZoN (s:Sta) (a:Int) (e:Event):Int:=bif !Jx s||(!Zoz a||!Q9 e) then 1 else
 cvV [(71,Zp0 s e a (Zoq s a)),(72,Zp6 s e (Zoq s a)),(73,Zp5 s e (Zoq s a)),(74,Zp1 s e a (Zoq s a))]
theorem Zpq (s:Sta) (hE:StE s) (a:Int) (e:Event) (hv:EvS e):pfn rE 28 [stA s,I a,evA e]=some (I (ZoN s a e)):=by
 have hO:=Zp7 s hE;have hA:=Zp8 a;have hF:=NH e hv;have hcl:=Zow s;have hbl:=Zot s;unfold ZoN;rw [Z5 (f:=28) rfl rfl];cases c:Jx s with
 | false=>
  rw [c] at hO;simp only [go_sem,qy,qq,qx,qz,qv,qk,reduceIte,c28,hO,hcl,Bool.not_false,Bool.true_or]
 | true=>
 rw [c] at hO;cases c1:Zoz a with
 | false=>
  rw [c1] at hA;simp only [go_sem,qy,qq,qx,qz,qv,qk,reduceIte,c28,hO,hA,hcl,Bool.not_false,Bool.true_or,Bool.not_true,Bool.false_or]
 | true=>
 rw [c1] at hA;cases c2:Q9 e with
 | false=>
  rw [c2] at hF;simp only [go_sem,qy,qq,qx,qz,qv,qk,reduceIte,c28,hO,hA,hF,hcl,Bool.not_false,Bool.not_true,Bool.false_or]
 | true=>
 rw [c2] at hF;have h:ClS s:=⟨hE,c⟩;have m1:=h.mst (Zpf c1).1;have hr:0≤Zoq s a∧Zoq s a≤63:=ZpH h.prop.pa (Zpf c1);have hq:RqS s e (Zoq s a):=⟨h,hv,c2,hr⟩;generalize Zoq s a=m at *;have hR:clean (rqI s e a m)=true:=by simp only [go_sem,qy,qq,qx,qz,qv,qk,reduceIte,hcl]
 obtain ⟨fr',L1,L2⟩:=ZpY (rqI s e a m) hR [(71,Zp0 s e a m),(72,Zp6 s e m),(73,Zp5 s e m),(74,Zp1 s e a m)] (by simp) (by
  intro x hx;simp only [List.mem_cons,List.not_mem_nil,or_false] at hx;rcases hx with rfl | rfl | rfl | rfl
  ·exact Zqw s e a m hq
  ·exact ZqS s e a m hq
  ·exact Zqy s e a m hq
  ·exact ZqD s e a m hq) 4 0 rfl
 rw [List.drop_zero] at L1 L2;generalize cvV [(71,Zp0 s e a m),(72,Zp6 s e m),(73,Zp5 s e m),(74,Zp1 s e a m)]=v at *;have hbR:∀ n,bel n (rqI s e a m)=true:=fun n=>by
  have:=ZN (n:=n) [rqI s e a m] (by simp only [Z4,hR,Bool.and_true])
  simpa only [Zd,Bool.and_true] using this
 replace L1:Zg rE [46,47,48] c28L0b [(46,.isl false false 1 [.clo (.func 71) [rqI s e a m] [],.clo (.func 72) [rqI s e a m] [],.clo (.func 73) [rqI s e a m] [],.clo (.func 74) [rqI s e a m] []]),(47,.int .i64 ((4:Nat):Int)),(48,.int .i64 0)] []=some (bif v==0 then .exit 0 else .ret,fr',[]):=L1
 cases c3:v==0 with
 | true=>
  have hv0:v=0:=by simpa using c3
  subst hv0;rw [c3,cond_true] at L1;simp only [go_sem,qy,qq,qx,qz,qv,qk,reduceIte,c28,c28L0,hO,hA,hF,m1,hcl,hbl,L1,Bool.not_true,Bool.false_or]
 | false=>
  have hv0:v≠0:=by simpa using c3
  have g:=L2 hv0;rw [c3,cond_false] at L1;simp only [go_sem,qy,qq,qx,qz,qv,qk,reduceIte,c28,c28L0,hO,hA,hF,m1,hcl,hbl,L1,g,Bool.not_true,Bool.false_or]
end Go.AM
namespace Go.AM
open Go
def Zpg (s:Sta) (p:Pt):List Int:=bif Jx s&&gOn p then ZoH s p else []
def Zph (s:Sta) (p:Pt):Int:=bif Jx s&&gOn p then 0 else 1
theorem ZqU (s:Sta) (hE:StE s) (p:Pt):pfn rE 21 [stA s,.agg [I p.X,I p.Y]]=some (.tup [.isl false false 1 ((Zpg s p).map I),I (Zph s p)]):=by
 have hO:=Zp7 s hE;have hG:=W8 p;have hcl:=Zow s;have hC:Z4 ((ZoH s p).map I)=true:=Zw (fun t=>rfl) _
 unfold Zpg Zph;rw [Z5 (f:=21) rfl rfl];cases c:Jx s with
 | false=>
  rw [c] at hO;simp only [go_sem,qy,qq,qx,qz,qv,qk,reduceIte,c21,hO,hcl,Bool.false_and,cond_false,List.map_nil]
 | true=>
 rw [c] at hO;cases c1:gOn p with
 | false=>
  rw [c1] at hG;simp only [go_sem,qy,qq,qx,qz,qv,qk,reduceIte,c21,hO,hG,hcl,Bool.and_false,cond_false,List.map_nil]
 | true=>
 rw [c1] at hG;have hK:=ZpO s ⟨hE,c⟩ p;simp only [go_sem,qy,qq,qx,qz,qv,qk,reduceIte,c21,hO,hG,hK,hcl,hC,Bool.and_true,cond_true]
theorem ZqV (s:Sta) (e:Event):pfn rE 20 [stA s,evA e]=some (.bool (YQ s&&Xn e)):=by
 have h1:=Z4F s;have h2:=Z4z e;rw [Z5 (f:=20) rfl rfl];cases c:YQ s with
 | false=>
  rw [c] at h1;simp only [go_sem,qy,qq,qx,qz,qv,qk,reduceIte,c20,h1,Bool.false_and]
 | true=>
  rw [c] at h1;simp only [go_sem,qy,qq,qx,qz,qv,qk,reduceIte,c20,h1,h2,Bool.true_and]
theorem ZpZ (l:List Int) (hl:l.length≤1000):pfn rE 25 [.isl false false 1 (l.map I),.isl false false 1 (l.map I)]=some (.bool true):=by
 have L:=Y8 (E:=rE) (live:=[0,1,5]) (b:=c25L0b) l.length (fun i=>[(0,.isl false false 1 (l.map I)),(1,.isl false false 1 (l.map I)),(5,I i)]) (fun _=>[]) (fun i=>rfl)
  (fun i hi=>by
   obtain ⟨x,hx⟩:∃ x,l[i]? = some x:=⟨_,List.getElem?_eq_getElem hi⟩;have hg:=Z6 (f:=I) hx;have hi':=Zh hi;have hwr:=Zx (n:=i) (by omega)
   have hn:(x != x)=false:=by simp
   refine ⟨_,by simp only [go_sem,qy,qq,qx,qz,qv,qk,reduceIte,c25L0b,hg,hi',hwr,hn];rfl,?_⟩
   simp only [go_sem,qy,qq,qx,qz,qv,qk,reduceIte])
  (e:=.exit 0) (by simp only [go_sem,qy,qq,qx,qz,qv,qk,reduceIte,c25L0b,ZG];rfl) (by simp)
 have L':Zg rE [0,1,5] c25L0b [(0,.isl false false 1 (l.map I)),(1,.isl false false 1 (l.map I)),(5,.int .i64 0)] []=_:=L;have hn:((l.length:Int) != (l.length:Int))=false:=by simp
 rw [Z5 (f:=25) rfl rfl];simp only [go_sem,qy,qq,qx,qz,qv,qk,reduceIte,c25,c25L0,hn,L']
theorem Zq0 (a b:Int):pfn rE 131 [I a,I b]=some (.isl false false 2 ([⟨a,0⟩,⟨b,0⟩,⟨b,9⟩,⟨a,9⟩].map Pt.enc)):=by
 rw [Z5 (f:=131) rfl rfl];simp only [go_sem,qy,qq,qx,qz,qv,qk,reduceIte,c131,List.map_cons,List.map_nil,Pt.enc]
def exS:Sta:=⟨[⟨B [97],1,1,⟨false,[⟨0,0⟩,⟨9,0⟩,⟨9,9⟩,⟨0,9⟩]⟩,⟨false,[]⟩,-1⟩,⟨B [98],1,2,⟨false,[⟨5,0⟩,⟨15,0⟩,⟨15,9⟩,⟨5,9⟩]⟩,⟨false,[]⟩,-1⟩],
 [⟨B [115],1,⟨false,[⟨0,0⟩,⟨9,0⟩]⟩,⟨false,[]⟩,-1⟩],[],[],[],[],[]⟩
theorem ZqW:pfn rE 56 []=some (stA exS):=by
 have h1:=Zq0 0 9;have h2:=Zq0 5 15;simp only [List.map_cons,List.map_nil,Pt.enc] at h1 h2;rw [Z5 (f:=56) rfl rfl];simp only [go_sem,qy,qq,qx,qz,qv,qk,reduceIte,c56,h1,h2,stA,exS,List.map_cons,List.map_nil,Region.enc,Street.enc,NL.enc,Pt.enc]
def ZoK (n:Int):Event:={ zEv with Kind:=5,Id:=B [104,111,117,115,101],Path:=⟨false,[⟨n,1⟩,⟨n+1,1⟩,⟨n,2⟩]⟩ }
theorem Zpr (n:Int) (hn:0≤n∧n≤100):pfn rE 57 [I n]=some (evA (ZoK n)):=by
 have hw:IntKind.i64.wrap (n+1)=n+1:=YM (by omega) (by omega)
 rw [Z5 (f:=57) rfl rfl];simp only [go_sem,qy,qq,qx,qz,qv,qk,reduceIte,c57,hw,evA,ZoK,zEv,List.map_cons,List.map_nil,Pt.enc]
end Go.AM
namespace Go.AM
open Go
def exE:Event:={ zEv with Kind:=12,Id:=B [115] }
def exG:Event:={ zEv with Kind:=14,A:=2,B:=1 }
def exH:Event:={ zEv with Kind:=15,Id:=B [104],Text:=B [120] }
def exU:Sta:={ exS with Rulings:=[⟨2,1⟩] }
def exM:Sta:={ exS with Merged:=[⟨1,2⟩],Rulings:=[⟨2,1⟩] }
theorem ckA (s:Sta) (a:Int) (e:Event) (c:Int) (h:(YQ s&&(Xn e&&ZoN s a e==c))=true):pfn rE 28 [stA s,I a,evA e]=some (I c):=by
 simp only [Bool.and_eq_true] at h;obtain ⟨h1,h2,h3⟩:=h;rw [Zpq s (Kl s h1).e a e (JL e h2)];have:ZoN s a e=c:=by simpa using h3
 rw [this]
theorem cmA (s:Sta) (p:Pt) (l:List Int) (h:(YQ s&&(Zph s p==0&&Zpg s p==l))=true):pfn rE 21 [stA s,.agg [I p.X,I p.Y]]=some (.tup [.isl false false 1 (l.map I),I 0]):=by
 simp only [Bool.and_eq_true] at h;obtain ⟨h1,h2,h3⟩:=h;rw [ZqU s (Kl s h1).e p];have q1:Zph s p=0:=by simpa using h2
 have q2:Zpg s p=l:=by simpa using h3
 rw [q1,q2]
theorem pvA (s:Sta) (a b:Int) (c:Bool) (h:(YQ s&&Zpe s a b==c)=true):pfn rE 26 [stA s,I a,I b]=some (.bool c):=by
 simp only [Bool.and_eq_true] at h;obtain ⟨h1,h2⟩:=h;rw [ZqT s (Kl s h1).e a b];have:Zpe s a b=c:=by simpa using h2
 rw [this]
theorem owA (s:Sta) (a c:Int) (h:(YQ s&&(bif Jx s&&Zoz a then Zoq s a else -1)==c)=true):pfn rE 23 [stA s,I a]=some (I c):=by
 simp only [Bool.and_eq_true] at h;obtain ⟨h1,h2⟩:=h;rw [Zpp s (Kl s h1).e a];have:=eq_of_beq h2;rw [this]
theorem ZqX:pfn rE 21 [stA exS,.agg [I 6,I 1]]=some (.tup [.isl false false 1 ([1,2].map I),I 0]):=cmA exS ⟨6,1⟩ _ (by decide +kernel)
theorem ZqY:pfn rE 21 [stA exS,.agg [I 20,I 1]]=some (.tup [.isl false false 1 (([]:List Int).map I),I 0]):=cmA exS ⟨20,1⟩ _ (by decide +kernel)
theorem ZqZ:pfn rE 21 [stA exM,.agg [I 6,I 1]]=some (.tup [.isl false false 1 ([1].map I),I 0]):=cmA exM ⟨6,1⟩ _ (by decide +kernel)
theorem ck1:pfn rE 28 [stA exS,I 1,evA (ZoK 1)]=some (I 0):=ckA _ _ _ _ (by decide +kernel)
theorem ck2:pfn rE 28 [stA exS,I 1,evA (ZoK 6)]=some (I 19):=ckA _ _ _ _ (by decide +kernel)
theorem ck3:pfn rE 28 [stA exS,I 1,evA (ZoK 12)]=some (I 18):=ckA _ _ _ _ (by decide +kernel)
theorem ck4:pfn rE 28 [stA exS,I 2,evA exE]=some (I 18):=ckA _ _ _ _ (by decide +kernel)
theorem ck5:pfn rE 28 [stA exS,I 1,evA exE]=some (I 0):=ckA _ _ _ _ (by decide +kernel)
theorem ck6:pfn rE 28 [stA exS,I 3,evA exH]=some (I 18):=ckA _ _ _ _ (by decide +kernel)
theorem ck7:pfn rE 28 [stA exS,I 0,evA exG]=some (I 0):=ckA _ _ _ _ (by decide +kernel)
theorem ck8:pfn rE 28 [stA exS,I 1,evA exG]=some (I 18):=ckA _ _ _ _ (by decide +kernel)
theorem ck9:pfn rE 28 [stA exU,I 2,evA (ZoK 6)]=some (I 0):=ckA _ _ _ _ (by decide +kernel)
theorem ckX:pfn rE 28 [stA exU,I 1,evA (ZoK 6)]=some (I 19):=ckA _ _ _ _ (by decide +kernel)
theorem ckY:pfn rE 28 [stA exM,I 2,evA exE]=some (I 0):=ckA _ _ _ _ (by decide +kernel)
theorem pv1:pfn rE 26 [stA exU,I 2,I 1]=some (.bool true):=pvA _ _ _ _ (by decide +kernel)
theorem pv2:pfn rE 26 [stA exU,I 1,I 2]=some (.bool false):=pvA _ _ _ _ (by decide +kernel)
theorem ow9:pfn rE 23 [stA exM,I 2]=some (I 1):=owA _ _ _ (by decide +kernel)
theorem Zr0:pfn rE 19 []=some (.bool true):=by
 have a1:=ZqX;have a2:=ZqY;have a3:=ZqZ;have b1:=ck1;have b2:=ck2;have b3:=ck3;have b4:=ck4;have b5:=ck5;have b6:=ck6;have b7:=ck7;have b8:=ck8;have b9:=ck9;have bX:=ckX;have bY:=ckY;have p1:=pv1;have p2:=pv2;have o9:=ow9;have e0:=ZqW;have d1:=Zpr 1 (by decide)
 have d6:=Zpr 6 (by decide)
 have d12:=Zpr 12 (by decide)
 have i2:=ZpZ [1,2] (by decide)
 have i1:=ZpZ [1] (by decide)
 generalize ZoK 1=B1 at *;generalize ZoK 6=B6 at *;generalize ZoK 12=B12 at *;have eR:exU=⟨exS.Regions,exS.Streets,exS.Buildings,exS.Doors,exS.Units,exS.Merged,[⟨2,1⟩]⟩:=rfl;have eM:exM=⟨exS.Regions,exS.Streets,exS.Buildings,exS.Doors,exS.Units,[⟨1,2⟩],[⟨2,1⟩]⟩:=rfl;rw [eR] at b9 bX p1 p2;rw [eM] at a3 bY o9;clear eR eM;generalize exS=S at *;simp only [exE,exG,exH,zEv,evA,stA,Pair.enc,List.map_cons,List.map_nil] at a1 a2 a3 b1 b2 b3 b4 b5 b6 b7 b8 b9 bX bY p1 p2 o9 e0 d1 d6 d12 i2 i1;have y0:((0:Int)==0)=true:=rfl;have y1:((1:Int)==1)=true:=rfl;have y18:((18:Int)==18)=true:=rfl;have y19:((19:Int)==19)=true:=rfl;have yl:(((0:Nat):Int)==0)=true:=rfl;rw [Z5 (f:=19) rfl rfl];simp only [go_sem,qy,qq,qx,qz,qv,qk,reduceIte,c19,a1,a2,a3,b1,b2,b3,b4,b5,b6,b7,b8,b9,bX,bY,p1,p2,o9,e0,d1,d6,d12,i2,i1,y0,y1,y18,y19,yl]
end Go.AM
namespace Go.AM
open Go
theorem ZrU {α:Type} {p:α→Bool} {l:List α} {i:Nat} {x:α} (hx:l[i]? = some x):(l.take (i+1)).any p=((l.take i).any p||p x):=by
 rw [List.take_add_one,hx,List.any_append];simp
theorem ZrV {s:Sta} (h:ClS s) {o:Int} (ho:0≤o∧o≤63):pfn rE 23 [stA s,I o]=some (I (Zoq s o)):=by
 have hk:Zoz o=true:=by unfold Zoz;simp;omega
 rw [Zpp s h.E o,h.pr,hk];rfl
def ZrR (s:Sta) (e:Event) (m:Int) (x:Street):Bool:=(((e.Kind==3||e.Kind==12)||e.Kind==8)&&Z3 x.Id e.Id)&&Zoq s x.Owner != m
def ZrS (s:Sta) (e:Event) (m:Int) (x:Building):Bool:=(e.Kind==11&&Z3 x.Id e.Id)&&Zoq s x.Owner != m
def ZrX (e:Event) (x:Door):Bool:=((e.Kind==9||e.Kind==12)&&Z3 x.Id e.Id)||e.Ids.l.any (fun y=>Z3 x.Id y)
def ZrT (s:Sta) (e:Event) (m:Int) (x:Door):Bool:=ZrX e x&&Zoq s x.Owner != m
set_option maxHeartbeats 2000000 in
theorem ZrZ (s:Sta) (e:Event) (a m:Int) (h:ClS s) (hl:s.Streets.length≤1000) (F:Bool) (hA:pfn rE 23 [stA s,I a]=some (I m)):
 Zg rE [3,5,7,8,9,10] c4L0b [(3,stI s),(5,evI e),(7,.bool true),(8,I a),(9,.bool F),(10,.int .i64 0)] []=some (.exit 0,[(3,stI s),(5,evI e),(7,.bool true),(8,I a),(9,.bool (F||s.Streets.any (ZrR s e m))),(10,I s.Streets.length)],[]):=by
 have L:=Y8 (E:=rE) (live:=[3,5,7,8,9,10]) (b:=c4L0b) s.Streets.length (fun i=>[(3,stI s),(5,evI e),(7,.bool true),(8,I a),(9,.bool (F||(s.Streets.take i).any (ZrR s e m))),(10,I i)]) (fun _=>[]) (fun i=>rfl)
  (fun i hi=>by
   obtain ⟨x,hx⟩:∃ x,s.Streets[i]? = some x:=⟨_,List.getElem?_eq_getElem hi⟩;have hg:=Z6 (f:=Street.enc) hx;have hi':=Zh hi;have hwr:=Zx (n:=i) (by omega)
   have hO:=ZrV h (h.str (List.mem_of_getElem? hx));rw [ZrU hx,←Bool.or_assoc];unfold ZrR;refine ⟨[(3,stI s),(5,evI e),(7,.bool true),(8,I a),(9,.bool ((F||(s.Streets.take i).any (ZrR s e m))||((((e.Kind==3||e.Kind==12)||e.Kind==8)&&Z3 x.Id e.Id)&&Zoq s x.Owner != m))),(10,I (i+1:Nat))],?_,rfl⟩;unfold ZrR;generalize (F||(s.Streets.take i).any _)=G;cases G with
   | true=>simp only [go_sem,qy,qq,qx,qz,qv,qk,reduceIte,c4L0b,hg,hi',hwr,Street.enc,NL.enc,Bool.true_or]
   | false=>
   cases c2:Z3 x.Id e.Id with
   | false=>cases k3:e.Kind==3<;>cases k12:e.Kind==12<;>cases k8:e.Kind==8<;>simp only [go_sem,qy,qq,qx,qz,qv,qk,reduceIte,c4L0b,hg,hi',hwr,Street.enc,NL.enc,c2,k3,k12,k8,Bool.true_or,Bool.false_or,Bool.or_false,Bool.or_true,Bool.true_and,Bool.false_and]
   | true=>cases c3:Zoq s x.Owner != m<;>cases k3:e.Kind==3<;>cases k12:e.Kind==12<;>cases k8:e.Kind==8<;>simp only [go_sem,qy,qq,qx,qz,qv,qk,reduceIte,c4L0b,hg,hi',hwr,hO,hA,Street.enc,NL.enc,c2,c3,k3,k12,k8,Bool.true_or,Bool.false_or,Bool.or_false,Bool.or_true,Bool.true_and,Bool.false_and])
  (e:=.exit 0) (fr:=[(3,stI s),(5,evI e),(7,.bool true),(8,I a),(9,.bool (F||s.Streets.any (ZrR s e m))),(10,I s.Streets.length)]) (h:=[]) (by
   rw [List.take_length];simp only [go_sem,qy,qq,qx,qz,qv,qk,reduceIte,c4L0b,ZG]) (by simp)
 have e0:(F||(s.Streets.take 0).any (ZrR s e m))=F:=by simp
 rw [e0] at L;exact L
set_option maxHeartbeats 2000000 in
theorem Zs0 (s:Sta) (e:Event) (a m:Int) (h:ClS s) (hl:s.Buildings.length≤1000) (F:Bool) (hA:pfn rE 23 [stA s,I a]=some (I m)):
 Zg rE [3,5,7,8,9,12] c4L1b [(3,stI s),(5,evI e),(7,.bool true),(8,I a),(9,.bool F),(12,.int .i64 0)] []=some (.exit 2,[(3,stI s),(5,evI e),(7,.bool true),(8,I a),(9,.bool (F||s.Buildings.any (ZrS s e m))),(12,I s.Buildings.length)],[]):=by
 have L:=Y8 (E:=rE) (live:=[3,5,7,8,9,12]) (b:=c4L1b) s.Buildings.length (fun i=>[(3,stI s),(5,evI e),(7,.bool true),(8,I a),(9,.bool (F||(s.Buildings.take i).any (ZrS s e m))),(12,I i)]) (fun _=>[]) (fun i=>rfl)
  (fun i hi=>by
   obtain ⟨x,hx⟩:∃ x,s.Buildings[i]? = some x:=⟨_,List.getElem?_eq_getElem hi⟩;have hg:=Z6 (f:=Building.enc) hx;have hi':=Zh hi;have hwr:=Zx (n:=i) (by omega)
   have hO:=ZrV h (h.bld (List.mem_of_getElem? hx));rw [ZrU hx,←Bool.or_assoc];unfold ZrS;refine ⟨[(3,stI s),(5,evI e),(7,.bool true),(8,I a),(9,.bool ((F||(s.Buildings.take i).any (ZrS s e m))||((e.Kind==11&&Z3 x.Id e.Id)&&Zoq s x.Owner != m))),(12,I (i+1:Nat))],?_,rfl⟩;unfold ZrS;generalize (F||(s.Buildings.take i).any _)=G;cases G with
   | true=>simp only [go_sem,qy,qq,qx,qz,qv,qk,reduceIte,c4L1b,hg,hi',hwr,Building.enc,NL.enc,Bool.true_or]
   | false=>
   cases c2:Z3 x.Id e.Id with
   | false=>cases k11:e.Kind==11<;>simp only [go_sem,qy,qq,qx,qz,qv,qk,reduceIte,c4L1b,hg,hi',hwr,Building.enc,NL.enc,c2,k11,Bool.true_or,Bool.false_or,Bool.or_false,Bool.or_true,Bool.true_and,Bool.false_and]
   | true=>cases c3:Zoq s x.Owner != m<;>cases k11:e.Kind==11<;>simp only [go_sem,qy,qq,qx,qz,qv,qk,reduceIte,c4L1b,hg,hi',hwr,hO,hA,Building.enc,NL.enc,c2,c3,k11,Bool.true_or,Bool.false_or,Bool.or_false,Bool.or_true,Bool.true_and,Bool.false_and])
  (e:=.exit 2) (fr:=[(3,stI s),(5,evI e),(7,.bool true),(8,I a),(9,.bool (F||s.Buildings.any (ZrS s e m))),(12,I s.Buildings.length)]) (h:=[]) (by
   rw [List.take_length];simp only [go_sem,qy,qq,qx,qz,qv,qk,reduceIte,c4L1b,ZG]) (by simp)
 have e0:(F||(s.Buildings.take 0).any (ZrS s e m))=F:=by simp
 rw [e0] at L;exact L
abbrev inF (s:Sta) (e:Event) (a:Int) (G:Bool) (j:Nat) (B:Bool) (k:Int):Fr:=[(3,stI s),(5,evI e),(7,.bool true),(8,I a),(9,.bool G),(14,I j),(15,.ptr 0 0 0 1),(16,.bool B),(17,I k)]
theorem Zs1 (s:Sta) (e:Event) (a:Int) (h:EvS e) (d:Door) (G F:Bool) (j:Nat):Zg rE [3,5,7,8,9,14,15,16,17] c4L2b (inF s e a G j F 0) [.row 16 [d.enc]] =
 some (.exit 6,inF s e a G j (F||e.Ids.l.any (fun y=>Z3 d.Id y)) e.Ids.l.length,[.row 16 [d.enc]]):=by
 have hq:∀ n,Zj n (.row 16 [d.enc])=true:=fun n=>ZN (n:=n) [d.enc] (Zw (f:=Door.enc) (fun t=>rfl) [d])
 simp only [Door.enc,NL.enc] at hq;have L:=Y8 (E:=rE) (live:=[3,5,7,8,9,14,15,16,17]) (b:=c4L2b) e.Ids.l.length (fun i=>inF s e a G j (F||(e.Ids.l.take i).any (fun y=>Z3 d.Id y)) i) (fun _=>[.row 16 [d.enc]]) (fun i=>rfl)
  (fun i hi=>by
   obtain ⟨x,hx⟩:∃ x,e.Ids.l[i]? = some x:=⟨_,List.getElem?_eq_getElem hi⟩;have hg:=Z6 (f:=encS) hx;have hi':=Zh hi;have hwr:=Zx (n:=i) (by have:=h.ids;omega)
   rw [ZrU hx,←Bool.or_assoc];refine ⟨inF s e a G j ((F||(e.Ids.l.take i).any (fun y=>Z3 d.Id y))||Z3 d.Id x) (i+1:Nat),?_,rfl⟩
   generalize (F||(e.Ids.l.take i).any _)=K;cases K with
   | true=>simp only [go_sem,qy,qq,qx,qz,qv,qk,reduceIte,c4L2b,inF,hg,hi',hwr,hq,Door.enc,NL.enc,Bool.true_or]
   | false=>simp only [go_sem,qy,qq,qx,qz,qv,qk,reduceIte,c4L2b,inF,hg,hi',hwr,hq,Door.enc,NL.enc,encS,Bool.false_or])
  (e:=.exit 6) (fr:=inF s e a G j (F||e.Ids.l.any (fun y=>Z3 d.Id y)) e.Ids.l.length) (h:=[.row 16 [d.enc]]) (by
   rw [List.take_length];simp only [go_sem,qy,qq,qx,qz,qv,qk,reduceIte,c4L2b,inF,ZG,hq,Door.enc,NL.enc]) (by simp)
 have e0:(F||(e.Ids.l.take 0).any (fun y=>Z3 d.Id y))=F:=by simp
 rw [e0] at L;exact L
set_option maxHeartbeats 2000000 in
theorem Zs2 (s:Sta) (e:Event) (a m:Int) (h:ClS s) (he:EvS e) (hA:pfn rE 23 [stA s,I a]=some (I m)) (F:Bool):
 Zg rE [3,5,7,8,9,14] c4L3b [(3,stI s),(5,evI e),(7,.bool true),(8,I a),(9,.bool F),(14,.int .i64 0)] []=some (.exit 4,[(3,stI s),(5,evI e),(7,.bool true),(8,I a),(9,.bool (F||s.Doors.any (ZrT s e m))),(14,I s.Doors.length)],[]):=by
 have hl:=h.E.sizes.doors;have L:=Y8 (E:=rE) (live:=[3,5,7,8,9,14]) (b:=c4L3b) s.Doors.length (fun i=>[(3,stI s),(5,evI e),(7,.bool true),(8,I a),(9,.bool (F||(s.Doors.take i).any (ZrT s e m))),(14,I i)]) (fun _=>[]) (fun i=>rfl)
  (fun i hi=>by
   obtain ⟨x,hx⟩:∃ x,s.Doors[i]? = some x:=⟨_,List.getElem?_eq_getElem hi⟩;have hg:=Z6 (f:=Door.enc) hx;have hi':=Zh hi;have hwr:=Zx (n:=i) (by omega)
   have hO:=ZrV h (h.dor (List.mem_of_getElem? hx));have hq:∀ n,Zj n (.row 16 [x.enc])=true:=fun n=>ZN (n:=n) [x.enc] (Zw (f:=Door.enc) (fun t=>rfl) [x])
   simp only [Door.enc,NL.enc] at hq;rw [ZrU hx,←Bool.or_assoc];refine ⟨[(3,stI s),(5,evI e),(7,.bool true),(8,I a),(9,.bool ((F||(s.Doors.take i).any (ZrT s e m))||ZrT s e m x)),(14,I (i+1:Nat))],?_,rfl⟩;generalize (F||(s.Doors.take i).any _)=G;have hL:=fun B=>Zs1 s e a he x G B i
   simp only [inF,Door.enc,NL.enc] at hL;unfold ZrT ZrX;cases k9:e.Kind==9<;>cases k12:e.Kind==12<;>cases c1:Z3 x.Id e.Id<;>cases c2:e.Ids.l.any (fun y=>Z3 x.Id y)<;>rw [c2] at hL<;>cases G<;>cases c3:Zoq s x.Owner != m<;>
    simp only [go_sem,qy,qq,qx,qz,qv,qk,reduceIte,c4L3b,c4L2,hg,hi',hwr,hO,hA,hL,hq,Door.enc,NL.enc,c1,c2,c3,k9,k12,Bool.true_or,Bool.false_or,Bool.or_false,Bool.or_true,Bool.true_and,Bool.false_and,Bool.and_false,Bool.and_true])
  (e:=.exit 4) (fr:=[(3,stI s),(5,evI e),(7,.bool true),(8,I a),(9,.bool (F||s.Doors.any (ZrT s e m))),(14,I s.Doors.length)]) (h:=[]) (by
   rw [List.take_length];simp only [go_sem,qy,qq,qx,qz,qv,qk,reduceIte,c4L3b,ZG]) (by simp)
 have e0:(F||(s.Doors.take 0).any (ZrT s e m))=F:=by simp
 rw [e0] at L;exact L
end Go.AM
namespace Go.AM
open Go
theorem Z53 {α:Type} {l:List α} {hit bad:α→Bool} {x:α} (hx:x∈l) (h1:hit x=true) (h2:bad x=false):l.all (fun y=>!hit y||bad y)=false:=by
 cases c:l.all (fun y=>!hit y||bad y) with
 | false=>rfl
 | true=>
  have:=List.all_eq_true.1 c x hx;rw [h1,h2] at this;cases this
theorem ZrY {s:Sta} {m o:Int} (h:(Zoq s o != m)=true):Zou s m o=false:=by
 unfold Zou;cases c:Zoq s o==m with
 | false=>rfl
 | true=>
  rw [bne,c] at h;cases h
theorem Zs3 {s:Sta} {e:Event} {m:Int} (h:((s.Streets.any (ZrR s e m)||s.Buildings.any (ZrS s e m))||s.Doors.any (ZrT s e m))=true):Zpb s e m=false:=by
 unfold Zpb;rw [Bool.or_eq_true,Bool.or_eq_true] at h;rcases h with (h | h) | h
 ·obtain ⟨x,hx,h1⟩:=List.any_eq_true.1 h;unfold ZrR at h1;simp only [Bool.and_eq_true,Bool.or_eq_true] at h1;obtain ⟨⟨h2,h3⟩,h4⟩:=h1;have hs:ZoR e x=true:=by
   unfold ZoR kOf;rw [h3];rcases h2 with (h2 | h2) | h2<;>simp [h2]
  rw [Z53 (hit:=ZoR e) (bad:=fun y=>Zou s m y.Owner) hx hs (ZrY h4)]
  simp
 ·obtain ⟨x,hx,h1⟩:=List.any_eq_true.1 h;unfold ZrS at h1;simp only [Bool.and_eq_true] at h1;obtain ⟨⟨h2,h3⟩,h4⟩:=h1;have hs:ZoS e x=true:=by
   unfold ZoS kOf;rw [h3];simp [h2]
  rw [Z53 (hit:=ZoS e) (bad:=fun y=>Zou s m y.Owner) hx hs (ZrY h4)]
  simp
 ·obtain ⟨x,hx,h1⟩:=List.any_eq_true.1 h;unfold ZrT at h1;rw [Bool.and_eq_true] at h1;obtain ⟨h2,h4⟩:=h1;have hs:ZoT (Zor s e) x=true:=by
   unfold ZoT Zor;unfold ZrX at h2;simp only [List.any_append,Bool.or_eq_true];rw [Bool.or_eq_true] at h2;rcases h2 with h2 | h2
   ·rw [Bool.and_eq_true,Bool.or_eq_true] at h2;left;left;left;right;have hk:kOf [9,12] e=true:=by
     unfold kOf;rcases h2.1 with h5 | h5<;>simp [h5]
    rw [hk];simp [h2.2]
   ·left;left;left;left;exact h2
  rw [Z53 (hit:=ZoT (Zor s e)) (bad:=fun y=>Zou s m y.Owner) hx hs (ZrY h4)]
  simp
theorem Zs4 {s:Sta} {e:Event} {a:Int} (hp:Jx s=true) (ha:Zoz a=true) (hf:Q9 e=true)
 (h:((s.Streets.any (ZrR s e (Zoq s a))||s.Buildings.any (ZrS s e (Zoq s a)))||s.Doors.any (ZrT s e (Zoq s a)))=true):ZoN s a e=18:=by
 have ht:Zp6 s e (Zoq s a)=18:=by
  unfold Zp6;rw [Zs3 h];rfl
 unfold ZoN;rw [hp,ha,hf,ht];unfold cvV Zp0;cases ((e.Kind==14&&a != 0)||(e.Kind==13&&Zoq s e.B != Zoq s a))<;>rfl
theorem Zs5 (s:Sta) (x:Int) (hx:0≤x∧x≤255) (e:Event):pfn rE 4 [stA s,.int .u8 x,evA e]=some (.bool true):=by
 have hH:=Zr0;have hF:=ZqV s e;have wx:IntKind.i64.wrap x=x:=YM (by omega) (by omega)
 have mx:x.tmod 64=x % 64:=Int.tmod_eq_emod_of_nonneg hx.1;have rx:0≤x % 64∧x % 64 < 64:=⟨Int.emod_nonneg _ (by decide),Int.emod_lt_of_pos _ (by decide)⟩
 have z64:((64:Int)=0)=False:=by simp
 rw [Z5 (f:=4) rfl rfl];cases c:YQ s&&Xn e with
 | false=>
  rw [c] at hF;simp only [go_sem,qy,qq,qx,qz,qv,qk,reduceIte,c4,hH,hF]
 | true=>
 rw [c] at hF;rw [Bool.and_eq_true] at c;have hs:=Kl s c.1;have he:=JL e c.2;have hP:=Z3i s hs.e;have hG:=NH e he;cases c1:Jx s with
 | false=>
  rw [c1] at hP;simp only [go_sem,qy,qq,qx,qz,qv,qk,reduceIte,c4,hH,hF,hP]
 | true=>
 rw [c1] at hP;cases c2:Q9 e with
 | false=>
  rw [c2] at hG;simp only [go_sem,qy,qq,qx,qz,qv,qk,reduceIte,c4,hH,hF,hP,hG]
 | true=>
 rw [c2] at hG;have h:ClS s:=⟨hs.e,c1⟩;have hA:=ZrV h (o:=x % 64) (by omega)
 have hk:Zoz (x % 64)=true:=by unfold Zoz;simp;omega
 have hC:=Zpq s hs.e (x % 64) e he;have key:=Zs4 (s:=s) (e:=e) (a:=x % 64) c1 hk c2;generalize ga:x % 64=a at *;have L0:=ZrZ s e a (Zoq s a) h hs.e.sizes.streets false hA;have L1:=Zs0 s e a (Zoq s a) h hs.e.sizes.buildings (false||s.Streets.any (ZrR s e (Zoq s a))) hA;have L3:=Zs2 s e a (Zoq s a) h he hA ((false||s.Streets.any (ZrR s e (Zoq s a)))||s.Buildings.any (ZrS s e (Zoq s a)));simp only [Bool.false_or] at L0 L1 L3;cases c3:(s.Streets.any (ZrR s e (Zoq s a))||s.Buildings.any (ZrS s e (Zoq s a)))||s.Doors.any (ZrT s e (Zoq s a)) with
 | false=>
  rw [c3] at L3;simp only [go_sem,qy,qq,qx,qz,qv,qk,reduceIte,c4,c4L0,c4L1,c4L3,hH,hF,hP,hG,wx,mx,z64,if_false,ga,L0,L1,L3]
 | true=>
  rw [c3] at L3;rw [key c3] at hC;have y18:((18:Int)==18)=true:=rfl;simp only [go_sem,qy,qq,qx,qz,qv,qk,reduceIte,c4,c4L0,c4L1,c4L3,hH,hF,hP,hG,wx,mx,z64,if_false,ga,L0,L1,L3,hC,y18]
end Go.AM
