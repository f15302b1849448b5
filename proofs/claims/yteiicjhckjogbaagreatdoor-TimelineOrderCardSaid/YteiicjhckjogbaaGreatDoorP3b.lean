/- What the functions of the program compute, part 2, for TimelineOrder. No condition. -/
import Derived.Test.YteiicjhckjogbaaGreatDoorP3a
import Derived.Test.YteiicjhckjogbaaGreatDoorQ5
set_option linter.unusedVariables false
set_option linter.defProp false
set_option linter.unusedSimpArgs false
set_option linter.unusedSectionVars false
open Nat renaming reduceAdd → qq, reduceSub → qx, reduceMul → qz, reduceLT → qv, reduceLeDiff → qk, reduceBEq → qy
namespace Go.AM
open Go
variable [REdz]
def Ye(V:List Bool):List AV:=V.map .bool
def Wi(x y:Int):Zz false [1] (I x) (I y)=some (x==y):=by simp only[go_sem]
def Z2W(K:List Int)(V:List Bool)(hl:V.length=K.length)(x:Int){h:Hp}{b:Nat}(hb:h[b]?=some (.map (K.map I)<|Ye V)):
 ∃c,W5 h false [1] false (.bool false) (.mp b) (I x)=some (.bool c):=by
 simp only[W5,hb,QW,Wi];rcases Uq (ag:=false) (kk:=[1]) (enc:=I) (eq:=λa b=>a==b) Wi x K 0 with⟨h1,h2⟩|⟨j,h1,h2,h3,h4⟩
 .rw[h1];exact⟨false,rfl⟩
 .have:(Ye V)[j]?=some (.bool<|V[j]'(by omega)):=by
   unfold Ye;rw[ZSC,ZS5<|by omega];rfl
  rw[h1];simp only[this];exact⟨_,rfl⟩
def Z2X(K:List Int)(V:List Bool)(hl:V.length=K.length)(x:Int)(c:Bool){h:Hp}{b:Nat}(hb:h[b]?=some (.map (K.map I)<|Ye V)):
 ∃(K':List Int)(V':List Bool),V'.length=K'.length/\K'.length<=K.length+1/\YK h false [1] (.mp b) (I x) (.bool c)=some (.bot,setH h b<|.map (K'.map I)<|Ye V'):=by
 simp only[YK,hb,Yo,Wi];rcases Uq (ag:=false) (kk:=[1]) (enc:=I) (eq:=λa b=>a==b) Wi x K 0 with⟨h1,h2⟩|⟨j,h1,h2,h3,h4⟩
 .rw[h1];refine⟨K++[x],V++[c],by simp[hl],by simp,?_⟩
  simp[Ye,ZM,ZH]
 .rw[h1];refine⟨K,V.set j c,by simp[hl],by omega,?_⟩
  simp[Ye,ZM,ZH,ZSw]
def Vm(a b:Int):Bool:=a==b
def Y2(p:Pair):Bool:=QM p.a 0 0&&(QM p.b 0 0&&!(p.a==p.b))
def QV(l:List Pair)(i:Nat):List Int:=(l.take i).foldl (λK p=>Qi Vm K p.b) []
def UB(l:List Pair):Bool:=Zu (λi p=>Y2 p&&!(QV l i).any (Vm p.b)) 0 l
def WJ:(0<=(0:Int)/\(0:Int)<((2:Nat):Int))=True:=by simp
def XL:(0<=(1:Int)/\(1:Int)<((2:Nat):Int))=True:=by simp
def Z2Y(a17 a1:AV)(ha17:∀n,bel n a17=true)(ha1:∀n,bel n a1=true)(l:List Pair)(hl:l.length<=1000):
 ∃fr' h',Zg rE [1,3,4,17,18,19,24,25,26] c120L0b [(1,a1),(3,.mp 0),(4,.int .i64 0),(17,a17),(18,.int .i64 2),(19,.int .i64 0),(24,.isl false false 2<|l.map Pair.enc),(25,I l.length),(26,.int .i64 0)] [.map [] []] =
  some (if UB l=true then .exit 2 else .ret,fr',h')/\
  (UB l=true->(get fr' 1=a1/\get fr' 2=.bot/\get fr' 3=.mp 0/\get fr' 17=a17/\get fr' 18=.int .i64 2/\get fr' 19=.int .i64 0)/\∃(K:List Int)(V:List Bool),V.length=K.length/\h'=[.map (K.map I)<|Ye V])/\(UB l=false->get fr' 2=.bool false/\get fr' 1=a1/\get fr' 3=.mp 0/\get fr' 17=a17/\get fr' 18=.int .i64 2/\get fr' 19=.int .i64 0):=by
 have hbA:∀n(K:List Int),Zd n (K.map I)=true:=λn K=>ZN _<|Zw (λt=>rfl) K
 have hbT:∀n k,Zd n (ZO k)=true:=λn k=>ZN _<|Ut k
 have n0:((0:Int)).toNat=0:=rfl;have n1:((1:Int)).toNat=1:=rfl;have z0:((0:Int)==0)=true:=rfl;have L:=Jk (E:=rE) (live:=[1,3,4,17,18,19,24,25,26]) (b:=c120L0b) l (λi p=>Y2 p&&!(QV l i).any (Vm p.b))
  (λi=>[(1,a1),(3,.mp 0),(4,.int .i64 0),(17,a17),(18,.int .i64 2),(19,.int .i64 0),(24,.isl false false 2<|l.map Pair.enc),(25,I l.length),(26,I i)])
  (λi=>[.map ((QV l i).map I)<|ZO (QV l i).length]) 2
  (λfr h=>(get fr 1=a1/\get fr 2=.bot/\get fr 3=.mp 0/\get fr 17=a17/\get fr 18=.int .i64 2/\get fr 19=.int .i64 0)/\h=[.map ((QV l l.length).map I)<|ZO (QV l l.length).length])
  (λfr h=>get fr 2=.bool false/\get fr 1=a1/\get fr 3=.mp 0/\get fr 17=a17/\get fr 18=.int .i64 2/\get fr 19=.int .i64 0) (λi=>rfl)
  (λi x hx hP=>by
   have hg:=Z6 (f:=Pair.enc) hx;have hi:=Zh<|Z7 hx;have hw:=Zx (n:=i) (by have:=Z7 hx;omega)
   have hf:QV l (i+1)=Qi Vm (QV l i) x.b:=Us _ [] hx;have hp:=λhh=>Ur (ag:=false) (kk:=[1]) (enc:=I) (eq:=Vm) Wi (QV l i) x.b (h:=.map ((QV l i).map I) (ZO (QV l i).length)::hh) (b:=0) rfl
   have hq:=λhh=>H5 (ag:=false) (kk:=[1]) (enc:=I) (eq:=Vm) Wi (QV l i) x.b (h:=.map ((QV l i).map I) (ZO (QV l i).length)::hh) (b:=0) rfl
   rw[hf];generalize QV l i=K at hp hq hP⊢;simp only[Y2,ZS3,ZSJ]at hP;obtain⟨⟨h1,h2,h3⟩,h4⟩:=hP;refine⟨_,by simp only[go_sem,c120L0b,hg,hi,hw,Pair.enc,WJ,XL,n0,n1,ZSL,if_true,Qc,h1,h2,h3,z0,hq,hp,h4,hbA,hbT,ha17,ha1];rfl,?_⟩
   simp only[go_sem])
  (λi x hx hP=>by
   have hg:=Z6 (f:=Pair.enc) hx;have hi:=Zh<|Z7 hx;have hq:=λhh=>H5 (ag:=false) (kk:=[1]) (enc:=I) (eq:=Vm) Wi (QV l i) x.b (h:=.map ((QV l i).map I) (ZO (QV l i).length)::hh) (b:=0) rfl
   generalize QV l i=K at hq hP⊢;unfold Y2 at hP;cases h1:QM x.a 0 0 with
   |false=>
    refine⟨_,_,by simp only[go_sem,c120L0b,hg,hi,Pair.enc,WJ,n0,ZSL,if_true,Qc,h1,hbA,hbT,ha17,ha1];rfl,?_⟩
    refine⟨?_,?_,?_,?_,?_,?_⟩<;>simp only[go_sem]
   |true=>
   cases h2:QM x.b 0 0 with
   |false=>
    refine⟨_,_,by simp only[go_sem,c120L0b,hg,hi,Pair.enc,WJ,XL,n0,n1,ZSL,if_true,Qc,h1,h2,hbA,hbT,ha17,ha1];rfl,?_⟩
    refine⟨?_,?_,?_,?_,?_,?_⟩<;>simp only[go_sem]
   |true=>
   cases h3:x.a==x.b with
   |true=>
    refine⟨_,_,by simp only[go_sem,c120L0b,hg,hi,Pair.enc,WJ,XL,n0,n1,ZSL,if_true,Qc,h1,h2,h3,hbA,hbT,ha17,ha1];rfl,?_⟩
    refine⟨?_,?_,?_,?_,?_,?_⟩<;>simp only[go_sem]
   |false=>
    have h4:K.any (Vm x.b)=true:=by simpa[h1,h2,h3]using hP
    refine⟨_,_,by simp only[go_sem,c120L0b,hg,hi,Pair.enc,WJ,XL,n0,n1,ZSL,if_true,Qc,h1,h2,h3,z0,hq,h4,hbA,hbT,ha17,ha1];rfl,?_⟩
    refine⟨?_,?_,?_,?_,?_,?_⟩<;>simp only[go_sem])
  (⟨_,_,by simp only[go_sem,c120L0b,ZG];rfl,by refine⟨⟨?_,?_,?_,?_,?_,?_⟩,?_⟩<;>simp only[go_sem]⟩)
 obtain⟨fr',h',h1,h2,h3⟩:=L;refine⟨fr',h',h1,λh=>?_,h3⟩
 obtain⟨h4,h5⟩:=h2 h;refine⟨h4,QV l l.length,List.replicate (QV l l.length).length true,by simp,?_⟩
 rw[h5];simp[Ye,ZO]
def Z2Z(a17 a1:AV)(ha17:∀n,bel n a17=true)(ha1:∀n,bel n a1=true)(l:List Pair)(hl:l.length<=1000)(K0:List Int)(V0:List Bool)(hK0:V0.length=K0.length):
 ∃fr' h',Zg rE [1,3,4,17,18,19,24,25,26] c120L0b [(1,a1),(3,.mp 0),(4,.int .i64 1),(17,a17),(18,.int .i64 2),(19,.int .i64 1),(24,.isl false false 2<|l.map Pair.enc),(25,I l.length),(26,.int .i64 0)] [.map (K0.map I)<|Ye V0] =
  some (if l.all Y2=true then .exit 2 else .ret,fr',h')/\
  (l.all Y2=true->(get fr' 1=a1/\get fr' 2=.bot/\get fr' 3=.mp 0/\get fr' 17=a17/\get fr' 18=.int .i64 2/\get fr' 19=.int .i64 1)/\∃o,h'=[o]/\∀n,Zj n o=true)/\(l.all Y2=false->get fr' 2=.bool false/\get fr' 1=a1/\get fr' 3=.mp 0/\get fr' 17=a17/\get fr' 18=.int .i64 2/\get fr' 19=.int .i64 1):=by
 have hbA:∀n(K:List Int),Zd n (K.map I)=true:=λn K=>ZN _<|Zw (λt=>rfl) K
 have hbT:∀n(V:List Bool),Zd n (Ye V)=true:=λn V=>ZN _<|Zw (λt=>rfl) V
 have n0:((0:Int)).toNat=0:=rfl;have n1:((1:Int)).toNat=1:=rfl;have z0:((1:Int)==0)=false:=rfl
 suffices G:∀(post pre:List Pair)(K:List Int)(V:List Bool),l=pre++post->V.length=K.length->
  ∃fr' h',Zg rE [1,3,4,17,18,19,24,25,26] c120L0b [(1,a1),(3,.mp 0),(4,.int .i64 1),(17,a17),(18,.int .i64 2),(19,.int .i64 1),(24,.isl false false 2<|l.map Pair.enc),(25,I l.length),(26,I pre.length)] [.map (K.map I)<|Ye V] =
  some (if post.all Y2=true then .exit 2 else .ret,fr',h')/\
  (post.all Y2=true->(get fr' 1=a1/\get fr' 2=.bot/\get fr' 3=.mp 0/\get fr' 17=a17/\get fr' 18=.int .i64 2/\get fr' 19=.int .i64 1)/\∃o,h'=[o]/\∀n,Zj n o=true)/\(post.all Y2=false->get fr' 2=.bool false/\get fr' 1=a1/\get fr' 3=.mp 0/\get fr' 17=a17/\get fr' 18=.int .i64 2/\get fr' 19=.int .i64 1)from G l [] K0 V0 rfl hK0
 intro post;induction post with
 |nil=>
  intro pre K V hp hKV;have hlen:l.length=pre.length:=by rw[hp];simp
  have hf:decide ((pre.length:Int)<(l.length:Int))=false:=by rw[hlen];exact ZG _
  refine⟨_,_,Q7 rfl (by simp only[go_sem,c120L0b,hf];rfl) (by simp),λ_=>⟨?_,_,rfl,λn=>by simp only[go_sem,hbA,hbT]⟩,λh=>by simp at h⟩
  refine⟨?_,?_,?_,?_,?_,?_⟩<;>simp only[go_sem]
 |cons x post ih=>
  intro pre K V hp hKV;have hx:l[pre.length]?=some x:=by rw[hp];simp
  have hg:=Z6 (f:=Pair.enc) hx;have hi:=Zh<|Z7 hx;have hlx:=Z7 hx;have hw:=Zx (n:=pre.length)<|by omega
  rw[ZTc];cases h1:QM x.a 0 0 with
  |false=>
   have hP:Y2 x=false:=by simp[Y2,h1]
   rw[hP,ZSo];refine⟨_,_,Q7 rfl (by simp only[go_sem,c120L0b,hg,hi,Pair.enc,WJ,n0,ZSL,if_true,Qc,h1,hbA,hbT,ha17,ha1];rfl) (by simp),λh=>(by cases h),λ_=>?_⟩
   refine⟨?_,?_,?_,?_,?_,?_⟩<;>simp only[go_sem]
  |true=>
  cases h2:QM x.b 0 0 with
  |false=>
   have hP:Y2 x=false:=by simp[Y2,h2]
   rw[hP,ZSo];refine⟨_,_,Q7 rfl (by simp only[go_sem,c120L0b,hg,hi,Pair.enc,WJ,XL,n0,n1,ZSL,if_true,Qc,h1,h2,hbA,hbT,ha17,ha1];rfl) (by simp),λh=>(by cases h),λ_=>?_⟩
   refine⟨?_,?_,?_,?_,?_,?_⟩<;>simp only[go_sem]
  |true=>
  cases h3:x.a==x.b with
  |true=>
   have hP:Y2 x=false:=by simp only[Y2,h3,ZSn,ZTN]
   rw[hP,ZSo];refine⟨_,_,Q7 rfl (by simp only[go_sem,c120L0b,hg,hi,Pair.enc,WJ,XL,n0,n1,ZSL,if_true,Qc,h1,h2,h3,hbA,hbT,ha17,ha1];rfl) (by simp),λh=>(by cases h),λ_=>?_⟩
   refine⟨?_,?_,?_,?_,?_,?_⟩<;>simp only[go_sem]
  |false=>
   have hP:Y2 x=true:=by simp only[Y2,h1,h2,h3,ZSs,ZSR]
   rw[hP,ZSc];obtain⟨c,hq⟩:=Z2W K V hKV x.b (h:=[.map (K.map I)<|Ye V,.row 2 [.agg [I x.a,I x.b]]]) (b:=0) rfl;obtain⟨K',V',hKV',_,hput⟩:=Z2X K V hKV x.b c (h:=[.map (K.map I)<|Ye V,.row 2 [.agg [I x.a,I x.b]]]) (b:=0) rfl;obtain⟨fr',h',h4,h5⟩:=ih (pre++[x]) K' V' (by simp[hp]) hKV'
   refine⟨fr',h',?_,h5⟩;rw[<-h4];have hl1:((pre++[x]).length:Int)=((pre.length+1:Nat):Int):=by simp
   rw[hl1];cases c<;>exact(Yt rfl (by simp only[go_sem,c120L0b,hg,hi,hw,Pair.enc,WJ,XL,n0,n1,ZSL,if_true,Qc,h1,h2,h3,z0,hq,hput,hbA,hbT,ha17,ha1];rfl)).trans (by simp only[go_sem])
def chN(s:Sta):Nat->Int->Bool
 |0,at'=>!decide (at'>=0)
 |k+1,at'=>bif decide (at'>=0)then chN s k (XJ s at')else true
def Fl(s:Sta)(hs:StS s)(a71 a72 a73:AV)(h:Hp):∀k n at',n+k=s.Merged.length+1->
 ∃fr',Zg rE [1,10,11,71,72,73] c120L2b [(1,.iptr false [.isl false false 6<|s.Regions.map Region.enc,.isl false false 5<|s.Streets.map Street.enc,.isl false false 4<|s.Buildings.map Building.enc,.isl false false 16<|s.Doors.map Door.enc,.isl false false 6<|s.Units.map Unit'.enc,.isl false false 2<|s.Merged.map Pair.enc,.isl false false 2<|s.Rulings.map Pair.enc]),(10,I at'),(11,I (n:Nat)),(71,a71),(72,a72),(73,a73)] h =
  some (if chN s k at'=true then .exit 6 else .ret,fr',h)/\(chN s k at'=true->get fr' 2=.bot/\get fr' 1=.iptr false [.isl false false 6<|s.Regions.map Region.enc,.isl false false 5<|s.Streets.map Street.enc,.isl false false 4<|s.Buildings.map Building.enc,.isl false false 16<|s.Doors.map Door.enc,.isl false false 6<|s.Units.map Unit'.enc,.isl false false 2<|s.Merged.map Pair.enc,.isl false false 2<|s.Rulings.map Pair.enc]/\get fr' 71=a71/\get fr' 72=a72/\get fr' 73=a73)/\(chN s k at'=false->get fr' 2=.bool false/\get fr' 1=.iptr false [.isl false false 6<|s.Regions.map Region.enc,.isl false false 5<|s.Streets.map Street.enc,.isl false false 4<|s.Buildings.map Building.enc,.isl false false 16<|s.Doors.map Door.enc,.isl false false 6<|s.Units.map Unit'.enc,.isl false false 2<|s.Merged.map Pair.enc,.isl false false 2<|s.Rulings.map Pair.enc]/\get fr' 71=a71/\get fr' 72=a72/\get fr' 73=a73):=by
 intro k;induction k with
 |zero=>
  intro n at' hn;unfold chN;cases h1:decide (at'>=0)with
  |false=>
   refine⟨_,Q7 rfl (by simp only[go_sem,c120L2b,h1,GH];rfl) (by simp),λ_=>?_,λhh=>(by simp at hh)⟩
   refine⟨?_,?_,?_,?_,?_⟩<;>simp only[go_sem]
  |true=>
   have h2:decide ((n:Int)>(s.Merged.length:Int))=true:=decide_eq_true<|by omega
   refine⟨_,Q7 rfl (by simp only[go_sem,c120L2b,h1,h2,GH];rfl) (by simp),λhh=>(by simp at hh),λ_=>?_⟩
   refine⟨?_,?_,?_,?_,?_⟩<;>simp only[go_sem]
 |succ k ih=>
  intro n at' hn;unfold chN;cases h1:decide (at'>=0)with
  |false=>
   refine⟨_,Q7 rfl (by simp only[go_sem,c120L2b,h1,GH];rfl) (by simp),λ_=>?_,λhh=>(by simp at hh)⟩
   refine⟨?_,?_,?_,?_,?_⟩<;>simp only[go_sem]
  |true=>
   have h2:decide ((n:Int)>(s.Merged.length:Int))=false:=decide_eq_false<|by omega
   have hm:=hs.merged;have hw:=Zx (n:=n)<|by omega
   have ht:=NJ s hs at';obtain⟨fr',h3,h4⟩:=ih (n+1) (XJ s at')<|by omega
   rw[cond_true];refine⟨fr',?_,h4⟩;rw[<-h3];exact(Yt rfl (by simp only[go_sem,c120L2b,h1,h2,hw,ht,GH];rfl)).trans (by simp only[go_sem])
def WK(s:Sta):Bool:=UB s.Merged&&(s.Rulings.all Y2&&s.Merged.all (λp=>chN s (s.Merged.length+1) p.b))
def Z30(s:Sta)(hs:StS s)(o:AObj)(ho:∀n,Zj n o=true):
 ∃fr',Zg rE [1,71,72,73] c120L3b [(1,.iptr false [.isl false false 6<|s.Regions.map Region.enc,.isl false false 5<|s.Streets.map Street.enc,.isl false false 4<|s.Buildings.map Building.enc,.isl false false 16<|s.Doors.map Door.enc,.isl false false 6<|s.Units.map Unit'.enc,.isl false false 2<|s.Merged.map Pair.enc,.isl false false 2<|s.Rulings.map Pair.enc]),(71,.isl false false 2<|s.Merged.map Pair.enc),(72,I s.Merged.length),(73,.int .i64 0)] [o] =
  some (if s.Merged.all (λp=>chN s (s.Merged.length+1) p.b)=true then .exit 4 else .ret,fr',[o])/\(s.Merged.all (λp=>chN s (s.Merged.length+1) p.b)=false->get fr' 2=.bool false):=by
 have n1:((1:Int)).toNat=1:=rfl;generalize ha:AV.iptr false [.isl false false 6<|s.Regions.map Region.enc,.isl false false 5<|s.Streets.map Street.enc,.isl false false 4<|s.Buildings.map Building.enc,.isl false false 16<|s.Doors.map Door.enc,.isl false false 6<|s.Units.map Unit'.enc,.isl false false 2<|s.Merged.map Pair.enc,.isl false false 2<|s.Rulings.map Pair.enc]=a;have hba:∀n,bel n a=true:=λn=>by rw[<-ha];rfl
 have L:=Uf (E:=rE) (live:=[1,71,72,73]) (b:=c120L3b) (h:=[o]) s.Merged (λ_ p=>chN s (s.Merged.length+1) p.b) (λi=>[(1,a),(71,.isl false false 2<|s.Merged.map Pair.enc),(72,I s.Merged.length),(73,I i)]) 4 (λfr=>get fr 2=.bool false) (λi=>rfl)
  (λi x hx hP=>by
   have hg:=Z6 (f:=Pair.enc) hx;have hi:=Zh<|Z7 hx;have hw:=Zx (n:=i) (by have:=Z7 hx;have:=hs.merged;omega)
   obtain⟨fr',h1,h2,_⟩:=Fl s hs (.isl false false 2<|s.Merged.map Pair.enc) (I s.Merged.length) (I i) [o,.row 2 [.agg [I x.a,I x.b]]] (s.Merged.length+1) 0 x.b<|by omega
   rw[hP,if_pos rfl,ha]at h1;obtain⟨q2,q1,q71,q72,q73⟩:=h2 hP;rw[ha]at q1;have h1':Zg rE [1,10,11,71,72,73] c120L2b [(1,a),(10,I x.b),(11,.int .i64 0),(71,.isl false false 2<|s.Merged.map Pair.enc),(72,I s.Merged.length),(73,I i)] [o,.row 2 [.agg [I x.a,I x.b]]]=_:=h1;refine⟨_,by simp only[go_sem,c120L3b,c120L2,hg,hi,hw,Pair.enc,XL,n1,ZSL,if_true,h1',q1,q2,q71,q72,q73,ho,hba];rfl,?_⟩
   simp only[go_sem])
  (λi x hx hP=>by
   have hg:=Z6 (f:=Pair.enc) hx;have hi:=Zh<|Z7 hx;obtain⟨fr',h1,_,h2⟩:=Fl s hs (.isl false false 2<|s.Merged.map Pair.enc) (I s.Merged.length) (I i) [o,.row 2 [.agg [I x.a,I x.b]]] (s.Merged.length+1) 0 x.b<|by omega
   rw[hP,ha]at h1;obtain⟨q2,q1,q71,q72,q73⟩:=h2 hP;rw[ha]at q1;have h1':Zg rE [1,10,11,71,72,73] c120L2b [(1,a),(10,I x.b),(11,.int .i64 0),(71,.isl false false 2<|s.Merged.map Pair.enc),(72,I s.Merged.length),(73,I i)] [o,.row 2 [.agg [I x.a,I x.b]]]=_:=h1;refine⟨_,by simp only[go_sem,c120L3b,c120L2,hg,hi,Pair.enc,XL,n1,ZSL,if_true,h1',q1,q2,q71,q72,q73,ho,hba,ZSi];rfl,?_⟩
   simp only[go_sem])
  (⟨_,by simp only[go_sem,c120L3b,ZG];rfl⟩)
 rw[QE]at L;exact L
def Z31(s:Sta)(hs:StS s):pfn rE 120 [stA s]=some (.bool<|WK s):=by
 have hbA:∀n(K:List Int),Zd n (K.map I)=true:=λn K=>ZN _<|Zw (λt=>rfl) K
 have hbT:∀n(V:List Bool),Zd n (Ye V)=true:=λn V=>ZN _<|Zw (λt=>rfl) V
 have e0:ixG [AV.isl false false 2<|s.Merged.map Pair.enc,.isl false false 2<|s.Rulings.map Pair.enc] 0=some (.isl false false 2<|s.Merged.map Pair.enc):=rfl;have e1:ixG [AV.isl false false 2<|s.Merged.map Pair.enc,.isl false false 2<|s.Rulings.map Pair.enc] 1=some (.isl false false 2<|s.Rulings.map Pair.enc):=rfl;have d02:decide ((0:Int)<2)=true:=rfl;have d12:decide ((1:Int)<2)=true:=rfl;have d22:decide ((2:Int)<2)=false:=rfl;have w0:IntKind.i64.wrap ((0:Int)+1)=1:=rfl;have w1:IntKind.i64.wrap ((1:Int)+1)=2:=rfl;have c2:(((0+1+1:Nat):Nat):Int)=2:=rfl;have c2':((2:Nat):Int)=2:=rfl;obtain⟨f1,g1,hm1,hm2,hm3⟩:=Z2Y (.isl false false 1 [.isl false false 2<|s.Merged.map Pair.enc,.isl false false 2<|s.Rulings.map Pair.enc]) (.iptr false [.isl false false 6<|s.Regions.map Region.enc,.isl false false 5<|s.Streets.map Street.enc,.isl false false 4<|s.Buildings.map Building.enc,.isl false false 16<|s.Doors.map Door.enc,.isl false false 6<|s.Units.map Unit'.enc,.isl false false 2<|s.Merged.map Pair.enc,.isl false false 2<|s.Rulings.map Pair.enc]) (λn=>rfl) (λn=>rfl) s.Merged hs.merged
 rw[Z5 (f:=120) rfl rfl];unfold WK;cases c1:UB s.Merged with
 |false=>
  rw[c1]at hm1;obtain⟨q2,q1,q3,q17,q18,q19⟩:=hm3 c1;have R:∃fr h,Zg rE [1,3,17,18,19] c120L1b [(1,.iptr false [.isl false false 6<|s.Regions.map Region.enc,.isl false false 5<|s.Streets.map Street.enc,.isl false false 4<|s.Buildings.map Building.enc,.isl false false 16<|s.Doors.map Door.enc,.isl false false 6<|s.Units.map Unit'.enc,.isl false false 2<|s.Merged.map Pair.enc,.isl false false 2<|s.Rulings.map Pair.enc]),(3,.mp 0),(17,.isl false false 1 [.isl false false 2<|s.Merged.map Pair.enc,.isl false false 2<|s.Rulings.map Pair.enc]),(18,.int .i64 2),(19,.int .i64 0)] [.map [] []]=some (.ret,fr,h)/\get fr 2=.bool false:=by
   refine⟨_,_,Q7 rfl (by simp only[go_sem,c120L1b,c120L0,e0,d02,hm1,q1,q2,q3,q17,q18,q19,ZSi];rfl) (by simp),?_⟩
   simp only[go_sem]
  obtain⟨fr,h,hR,hq⟩:=R;simp only[go_sem,c120,c120L1,c2',hR,hq]
 |true=>
  rw[c1,if_pos rfl]at hm1;obtain⟨⟨q1,q2,q3,q17,q18,q19⟩,K,V,hKV,rfl⟩:=hm2 c1;obtain⟨f2,g2,hr1,hr2,hr3⟩:=Z2Z (.isl false false 1 [.isl false false 2<|s.Merged.map Pair.enc,.isl false false 2<|s.Rulings.map Pair.enc]) (.iptr false [.isl false false 6<|s.Regions.map Region.enc,.isl false false 5<|s.Streets.map Street.enc,.isl false false 4<|s.Buildings.map Building.enc,.isl false false 16<|s.Doors.map Door.enc,.isl false false 6<|s.Units.map Unit'.enc,.isl false false 2<|s.Merged.map Pair.enc,.isl false false 2<|s.Rulings.map Pair.enc]) (λn=>rfl) (λn=>rfl) s.Rulings hs.rulings K V hKV
  have R1:=Yt (E:=rE) (live:=[1,3,17,18,19]) (b:=c120L1b) (fr:=[(1,.iptr false [.isl false false 6<|s.Regions.map Region.enc,.isl false false 5<|s.Streets.map Street.enc,.isl false false 4<|s.Buildings.map Building.enc,.isl false false 16<|s.Doors.map Door.enc,.isl false false 6<|s.Units.map Unit'.enc,.isl false false 2<|s.Merged.map Pair.enc,.isl false false 2<|s.Rulings.map Pair.enc]),(3,.mp 0),(17,.isl false false 1 [.isl false false 2<|s.Merged.map Pair.enc,.isl false false 2<|s.Rulings.map Pair.enc]),(18,.int .i64 2),(19,.int .i64 0)]) (h:=[.map [] []]) rfl (by simp only[go_sem,c120L1b,c120L0,e0,d02,w0,hm1,q1,q2,q3,q17,q18,q19];rfl)
  simp only[go_sem]at R1;cases c5003:s.Rulings.all Y2 with
  |false=>
   rw[c5003]at hr1;obtain⟨p2,p1,p3,p17,p18,p19⟩:=hr3 c5003;have R:∃fr h,Zg rE [1,3,17,18,19] c120L1b [(1,.iptr false [.isl false false 6<|s.Regions.map Region.enc,.isl false false 5<|s.Streets.map Street.enc,.isl false false 4<|s.Buildings.map Building.enc,.isl false false 16<|s.Doors.map Door.enc,.isl false false 6<|s.Units.map Unit'.enc,.isl false false 2<|s.Merged.map Pair.enc,.isl false false 2<|s.Rulings.map Pair.enc]),(3,.mp 0),(17,.isl false false 1 [.isl false false 2<|s.Merged.map Pair.enc,.isl false false 2<|s.Rulings.map Pair.enc]),(18,.int .i64 2),(19,.int .i64 1)] [.map (K.map I)<|Ye V]=some (.ret,fr,h)/\get fr 2=.bool false:=by
    refine⟨_,_,Q7 rfl (by simp only[go_sem,c120L1b,c120L0,e1,d12,hr1,p1,p2,p3,p17,p18,p19,ZSi];rfl) (by simp),?_⟩
    simp only[go_sem]
   obtain⟨fr,h,hR,hq⟩:=R;simp only[go_sem,c120,c120L1,c2',R1,hR,hq]
  |true=>
   rw[c5003,if_pos rfl]at hr1;obtain⟨⟨p1,p2,p3,p17,p18,p19⟩,o,rfl,ho⟩:=hr2 c5003;have R2:=Yt (E:=rE) (live:=[1,3,17,18,19]) (b:=c120L1b) (fr:=[(1,.iptr false [.isl false false 6<|s.Regions.map Region.enc,.isl false false 5<|s.Streets.map Street.enc,.isl false false 4<|s.Buildings.map Building.enc,.isl false false 16<|s.Doors.map Door.enc,.isl false false 6<|s.Units.map Unit'.enc,.isl false false 2<|s.Merged.map Pair.enc,.isl false false 2<|s.Rulings.map Pair.enc]),(3,.mp 0),(17,.isl false false 1 [.isl false false 2<|s.Merged.map Pair.enc,.isl false false 2<|s.Rulings.map Pair.enc]),(18,.int .i64 2),(19,.int .i64 1)]) (h:=[.map (K.map I)<|Ye V]) rfl (by simp only[go_sem,c120L1b,c120L0,e1,d12,w1,hr1,p1,p2,p3,p17,p18,p19];rfl)
   simp only[go_sem]at R2;have R3:=Q7 (E:=rE) (live:=[1,3,17,18,19]) (b:=c120L1b) (fr:=[(1,.iptr false [.isl false false 6<|s.Regions.map Region.enc,.isl false false 5<|s.Streets.map Street.enc,.isl false false 4<|s.Buildings.map Building.enc,.isl false false 16<|s.Doors.map Door.enc,.isl false false 6<|s.Units.map Unit'.enc,.isl false false 2<|s.Merged.map Pair.enc,.isl false false 2<|s.Rulings.map Pair.enc]),(3,.mp 0),(17,.isl false false 1 [.isl false false 2<|s.Merged.map Pair.enc,.isl false false 2<|s.Rulings.map Pair.enc]),(18,.int .i64 2),(19,.int .i64 2)]) (h:=[o]) rfl (by simp only[go_sem,c120L1b,d22];rfl) (by simp)
   obtain⟨f4,h4,h5⟩:=Z30 s hs o ho;cases c5004:s.Merged.all (λp=>chN s (s.Merged.length+1) p.b)with
   |true=>rw[c5004,if_pos rfl]at h4;simp only[go_sem,c120,c120L1,c120L3,c2',R1,R2,R3,h4]
   |false=>rw[c5004]at h4;simp only[go_sem,c120,c120L1,c120L3,c2',R1,R2,R3,h4,h5 c5004,ZSi]
end Go.AM
namespace Go.AM
open Go
def Zwa(a b:Int):Int:=bif decide (a<b)then -1 else bif decide (a>b)then 1 else 0
def orL:List Int->Int
 |[]=>0
 |a::r=>bif a != 0 then a else orL r
def Zyp:∀a b:List Int,a.length=b.length->orL (List.zipWith Zwa a b)=cmpL a b
 |[],[],_=>rfl
 |[],_::_,h=>by cases h
 |_::_,[],h=>by cases h
 |a::r,b::s,h=>by
  have ih:=Zyp r s<|by simpa using h
  have e1:lexB (a::r) (b::s)=(decide (a<b)||(a==b&&lexB r s)):=rfl;have e2:lexB (b::s) (a::r)=(decide (b<a)||(b==a&&lexB s r)):=rfl;rw[List.zipWith_cons_cons,orL,ih];unfold cmpL Zwa;rw[e1,e2];by_cases h1:a<b
  .simp[h1]
  .by_cases h2:b<a
   .have h4:(a==b)=false:=by simpa using(by omega:¬a=b)
    simp[h1,h2,h4]
   .have h4:a=b:=by omega
    subst h4;simp
def Zyq(a:Int):pfn e0 60 [I a]=some (.bool false):=by
 have hn:(a != a)=false:=by simp
 rw[Z5 (f:=60) rfl rfl];simp only[go_sem,c60,hn]
def Zwb(a b:Int):pfn e0 34 [I a,I b]=some (I<|Zwa a b):=by
 have h1:=Zyq a;have h2:=Zyq b;unfold Zwa;rw[Z5 (f:=34) rfl rfl];cases c:decide (a<b)with
 |true=>simp only[go_sem,c34,h1,h2,c]
 |false=>cases c2:decide (a>b)<;>simp only[go_sem,c34,h1,h2,c,c2]
def ZA7(l:List Int)(hl:l.length<=1000):pfn e0 33 [.isl false false 1<|l.map I]=some (I<|orL l):=by
 obtain⟨e,fr',h',L,hh,hQ⟩:=Z9Y (E:=e0) (live:=[3,6,7,8]) (b:=c33L0b) l.length
  (λi fr h=>fr=[(3,I 0),(6,.isl false false 1<|l.map I),(7,I l.length),(8,I i)]/\h=[]/\orL l=orL (l.drop i))
  (λe fr h=>h=[]/\((e=.exit 0/\get fr 3=I 0/\orL l=0)\/(e=.ret/\get fr 2=I (orL l))))
  (λi fr h m=>by obtain⟨rfl,_,_⟩:=m;rfl)
  (λi fr h hi m=>by
   obtain⟨rfl,rfl,ho⟩:=m;obtain⟨x,hx⟩:∃x,l[i]?=some x:=⟨_,ZS5 hi⟩;have hg:=Z6 (f:=I) hx;have hi':=Zh hi;have hwr:=Zx (n:=i)<|by omega
   have hd:l.drop i=x::l.drop (i+1):=by
    rw[ZTe hi,(ZSb.1 hx).2]
   rw[hd,orL]at ho;cases c:x != 0 with
   |true=>
    rw[c,cond_true]at ho;refine Or.inr ⟨.ret,_,[],by simp only[go_sem,c33L0b,hg,hi',c];rfl,by simp,rfl,Or.inr ⟨rfl,?_⟩⟩
    rw[ho];simp only[go_sem]
   |false=>
    rw[c,cond_false]at ho;refine Or.inl ⟨_,[],by simp only[go_sem,c33L0b,hg,hi',hwr,c];rfl,?_,rfl,ho⟩
    simp only[go_sem])
  (λfr h m=>by
   obtain⟨rfl,rfl,ho⟩:=m;rw[List.drop_length]at ho;refine⟨.exit 0,_,[],by simp only[go_sem,c33L0b,ZG];rfl,by simp,rfl,Or.inl ⟨rfl,?_,ho⟩⟩
   simp only[go_sem])
  l.length 0 [(3,I 0),(6,.isl false false 1<|l.map I),(7,I l.length),(8,.int .i64 0)] [] (by omega) ⟨rfl,rfl,rfl⟩
 subst hh;rw[Z5 (f:=33) rfl rfl];rcases hQ with⟨rfl,h3,ho⟩|⟨rfl,h2⟩
 .simp only[go_sem,c33,c33L0,L,h3,ho]
 .simp only[go_sem,c33,c33L0,L,h2]
def Zyr{caps:List AV}{x:AV}{k:List Int}(h:ZvF caps x=some k):∃bw b2 ex vs,caps=[.iptr bw [.isl b2 ex 8 vs]]/\∃(i kk:Nat)(au nu at' n5 day:Int)(s3:Str)(b3 ex3 b6 ex6 b7 ex7:Bool)(z6 z7:Nat)(es l6 l7 cs:List AV)(e1:AV),
 x=.agg [I i,I kk]/\vs[i]?=some (.agg [I au,I nu,I at',.str s3,.isl b3 ex3 18 es,I n5,.isl b6 ex6 z6 l6,.isl b7 ex7 z7 l7])/\es[kk]?=some (.agg<|e1::I day::cs)/\k=[day,at',au,nu,(kk:Int)]:=by
 unfold ZvF at h;split at h
 .rename_i bw b2 ex vs i kk;cases c1:decide (0<=i)&&decide (0<=kk)with
  |false=>rw[c1]at h;cases h
  |true=>
  rw[c1,cond_true]at h;simp only[ZS3,decide_eq_true_eq]at c1;obtain⟨n,rfl⟩:∃n:Nat,i=n:=⟨i.toNat,by omega⟩
  obtain⟨m,rfl⟩:∃m:Nat,kk=m:=⟨kk.toNat,by omega⟩
  simp only[ZUh]at h;split at h
  .rename_i hv;split at h
   .rename_i he;cases h;exact⟨_,_,_,_,rfl,n,m,_,_,_,_,_,_,_,_,_,_,_,_,_,_,_,_,_,_,_,rfl,hv,he,rfl⟩
   .cases h
  .cases h
 .cases h
def ZA8(caps:List AV)(x y:AV)(kx ky:List Int)(hx:ZvF caps x=some kx)(hy:ZvF caps y=some ky):∃h',fnV e0 32 ([x,y]++caps) []=some (.int .i64<|cmpL kx ky,h'):=by
 obtain⟨bw,b2,ex,vs,rfl,i,k,au,nu,at',n5,day,s3,b3,ex3,b6,ex6,b7,ex7,z6,z7,es,l6,l7,cs,e1,rfl,hv,he,rfl⟩:=Zyr hx;obtain⟨bw',b2',ex',vs',heq,i',k',au',nu',at2,n5',day',s3',b3',ex3',b6',ex6',b7',ex7',z6',z7',es',l6',l7',cs',e1',rfl,hv',he',rfl⟩:=Zyr hy;cases heq;have q1:=Zwb day day';have q2:=Zwb at' at2;have q3:=Zwb au au';have q4:=Zwb nu nu';have q5:=Zwb (k:Int) (k':Int);have q6:=ZA7 (List.zipWith Zwa [day,at',au,nu,(k:Int)] [day',at2,au',nu',(k':Int)])<|by simp
 have q7:=Zyp [day,at',au,nu,(k:Int)] [day',at2,au',nu',(k':Int)] rfl;rw[q7]at q6;clear q7;simp only[List.zipWith_cons_cons,List.zipWith_nil_right,ZS9,ZSq]at q6;generalize cmpL _ _=r at*;have z0:((0:Int)<=0/\(0:Int)<((2:Nat):Int))=True:=by simp
 have z1:((0:Int)<=1/\(1:Int)<((2:Nat):Int))=True:=by simp
 have t0:Int.toNat 0*1=0:=rfl;have t1:Int.toNat 1*1=1:=rfl;rw[Q6 (f:=32) rfl rfl];refine⟨_,by simp only[go_sem,c32,ZS8,ZSa,hv,he,hv',he',q1,q2,q3,q4,q5,q6,z0,z1,t0,t1,if_true];rfl⟩
variable [REdz] {w:Bool}
structure Ver where
 Authority:Int
 Number:Int
 At:Int
 Prev:Str
 Events:NL Event
 Index:Int
 Sig:NL Str
 Path:NL Str
def Ver.enc(v:Ver):AV:=.agg [I v.Authority,I v.Number,I v.At,.str v.Prev,.isl false v.Events.ex 18<|v.Events.l.map evA,I v.Index,.isl false v.Sig.ex 1<|v.Sig.l.map encS,.isl false v.Path.ex 1<|v.Path.l.map encS]
abbrev vsA(w:Bool)(l:NL Ver):AV:=.isl w l.ex 8<|l.l.map Ver.enc
def plA(p:Int×Int):AV:=.agg [I p.1,I p.2]
def Zvh(p q:Int×Int):Bool:=p.1==q.1&&(p.2==q.2&&true)
def Zys(x y:Int×Int):Zz true [1,1] (plA x) (plA y)=some (Zvh x y):=by
 unfold plA Zvh;simp only[go_sem]
def prA(p:Nat×Nat):AV:=.agg [I p.1,I p.2]
def ZvS(v:Ver)(valid:Int)(k:Nat):Bool:=match v.Events.l[k]? with|some e=>decide (e.Day<=valid)|none=>false
def Zr4(v:Ver)(valid:Int)(i n:Nat):List (Nat×Nat):=((List.range n).filter (ZvS v valid)).map (λk=>(i,k))
def Zvn(l:List Ver)(i:Nat):List (Int×Int):=(l.take i).foldl (λK v=>Qi Zvh K (v.Authority,v.Number)) []
def Zvl(l:List Ver)(known:Int)(i:Nat)(v:Ver):Bool:=!((Zvn l i).any (Zvh (v.Authority,v.Number)))&&!decide (v.At>known)
def Zr7(l:List Ver)(valid known:Int):Nat->List (Nat×Nat)
 |0=>[]
 |i+1=>Zr7 l valid known i++(match l[i]? with|some v=>bif Zvl l known i v then Zr4 v valid i v.Events.l.length else []|none=>[])
abbrev Zvq(w:Bool)(V:NL Ver)(valid known:Int):Fr:=[(3,.iptr w [vsA w V]),(6,.isl false false 2 []),(7,.ptr 1 0 0 1),(12,.clo (.func 57) [] [.iptr w [vsA w V],.iptr false [I known],.iptr false [I valid]])]
abbrev hiH(w:Bool)(V:NL Ver)(valid known:Int)(es:List AV)(K:List<|Int×Int):Hp:=[.row 2 es,.row 1 [.sl 0 es.length 0 es.length false],.loop .ready .normal (Zvq w V valid known) [13] c16R0a c16R0b,.map (K.map plA)<|ZO K.length]
def ZA9(es:List AV)(x:AV)(hx:fits 2 x=true)(hl:es.length<=100000)(r:List AObj):appW (.row 2 es::r) false 2 16 (.sl 0 es.length 0 es.length false) (.isl false false 2 [x])=some (.sl 0 (es.length+1) 0 (es.length+1) false,.row 2 (es++[x])::r):=by
 have:=XC (h:=.row 2 es::r) (fz:=false) (b:=0) (g:=es.length) (sz:=2) (bytes:=16) (es:=es) (bw:=false) (ex:=false) (ys:=[x]) (by simp[rowAt]) rfl (by simp[hx]) (by decide) (by decide) (by simp;omega)
 rw[this];rfl
def ZAa(V:NL Ver)(valid known:Int)(es:List AV)(K:List<|Int×Int)(i k:Nat)(r4 r5 r6:AObj)(h4:∀n,Zj n r4=true)(h5:∀n,Zj n r5=true)(h6:∀n,Zj n r6=true)(hc:Z4 es=true)(hl:es.length<=100000):
 U4 rE 2 [.agg [I i,I k]] (hiH w V valid known es K++[r4,r5,r6])=some (.bool true,hiH w V valid known (es++[prA (i,k)]) K++[r4,r5,r6,.row 2 [.agg [I i,I k]]]):=by
 have hA:=λr=>ZA9 es (.agg [I i,I k]) rfl hl r
 have hbe:∀n,Zd n es=true:=λn=>ZN _ hc
 have hbe2:∀n,Zd n (es++[.agg [I i,I k]])=true:=λn=>by rw[Z0T,hbe];rfl
 have hbK:∀n,Zd n (K.map plA)=true/\Zd n (ZO K.length)=true:=λn=>⟨ZN _<|Zw (λt=>rfl) K,ZN _<|Ut _⟩
 have hfr:∀n,2<=n->Zd n (frV<|Zvq w V valid known)=true:=λn hn=>by
  have:Nat.blt 1 n=true:=by simp;omega
  simp only[go_sem,this]
 have q3:=hfr 8<|by decide
 have hr7:∀n,Zj n (.row 2 [.agg [I i,I k]])=true:=λn=>rfl
 have h:=Ss (E:=rE) (b:=2) (args:=[.agg [I i,I k]]) (h:=hiH w V valid known es K++[r4,r5,r6]) (fr:=Zvq w V valid known) (ps:=[13]) (assign:=c16R0a) (body:=c16R0b)
  (fr0:=(13,.agg [I i,I k])::Zvq w V valid known) rfl rfl (by simp only[go_sem,c16R0a,hiH,Zvq];rfl) (by rfl)
  (e:=.normal) (fr2:=[]) (h2:=[.row 2<|es++[.agg [I i,I k]],.row 1 [.sl 0 (es.length+1) 0 (es.length+1) false],.loop .busy .normal (Zvq w V valid known) [13] c16R0a c16R0b,.map (K.map plA)<|ZO K.length,r4,r5,r6,.row 2 [.agg [I i,I k]]])
  (by
   show Zb rE c16R0b [(8,.ptr 7 0 0 1),(13,.agg [I i,I k]),(3,.iptr w [vsA w V]),(6,.isl false false 2 []),(7,.ptr 1 0 0 1),(12,.clo (.func 57) [] [.iptr w [vsA w V],.iptr false [I known],.iptr false [I valid]])]
    [.row 2 es,.row 1 [.sl 0 es.length 0 es.length false],.loop .busy .normal (Zvq w V valid known) [13] c16R0a c16R0b,.map (K.map plA)<|ZO K.length,r4,r5,r6,.row 2 [.agg [I i,I k]]]=_
   simp only[go_sem,c16R0b,hA,hbe2,hbK,h4,h5,h6,hr7]) (by rfl)
 rw[h];simp only[hiH,ZSv,ZT6];rfl
abbrev hiF(w:Bool)(V:NL Ver)(valid known:Int)(v:Ver)(i k:Nat):Fr:=[(0,.yld 2),(2,.iptr false [I known]),(3,.iptr false [I valid]),(5,.mp 3),(6,I i),(13,vsA w V),(14,I V.l.length),(15,I i),(40,.isl false v.Events.ex 18<|v.Events.l.map evA),(41,I v.Events.l.length),(42,I k)]
def ZAb(v:Ver)(valid:Int)(i k:Nat){e:Event}(he:v.Events.l[k]?=some e):Zr4 v valid i (k+1)=Zr4 v valid i k++(bif decide (e.Day<=valid)then [(i,k)]else []):=by
 unfold Zr4;rw[List.range_succ,List.filter_append,ZSm];congr 1;have h:ZvS v valid k=decide (e.Day<=valid):=by unfold ZvS;rw[he]
 rw[ZUi,h];cases decide (e.Day<=valid)<;>rfl
def ZwW(e:Event):Z4 [evA e]=true:=by
 have h1:Z4 (e.Ids.l.map encS)=true:=Zw (λt=>rfl) _
 have h2:Z4 (e.Names.l.map Nm.enc)=true:=Zw (λt=>rfl) _
 have h3:Z4 (e.Path.l.map Pt.enc)=true:=Zw (λt=>rfl) _
 have h4:Z4 (e.Lst.l.map Ent.enc)=true:=Zw (λt=>rfl) _
 simp only[go_sem]
def ZAc(V:NL Ver)(valid known:Int)(v:Ver)(i:Nat)(hi:V.l[i]?=some v)(L:List<|Nat×Nat)(K:List<|Int×Int)(r4 r5:AObj)(h4:∀n,Zj n r4=true)(h5:∀n,Zj n r5=true)(hl:L.length+v.Events.l.length<=10000):
 Zg rE [0,2,3,5,6,13,14,15,40,41,42] c57L0b (hiF w V valid known v i 0) (hiH w V valid known (L.map prA) K++[r4,r5]) =
  some (.exit 2,hiF w V valid known v i v.Events.l.length,hiH w V valid known ((L++Zr4 v valid i v.Events.l.length).map prA) K++[r4,r5]):=by
 have hlen:∀k,(Zr4 v valid i k).length<=k:=λk=>by
  unfold Zr4;rw[ZS4];exact ZSz (ZU0 _ _)<|by simp
 have hbK:∀n,Zd n (K.map plA)=true/\Zd n (ZO K.length)=true:=λn=>⟨ZN _<|Zw (λt=>rfl) K,ZN _<|Ut _⟩
 have hfr:∀n,2<=n->Zd n (frV<|Zvq w V valid known)=true:=λn hn=>by
  have:Nat.blt 1 n=true:=by simp;omega
  simp only[go_sem,this]
 have hbP:∀(M:List<|Nat×Nat)n,Zd n (M.map prA)=true:=λM n=>ZN _<|Zw (λt=>rfl) M
 have L0:=Y8 (E:=rE) (live:=[0,2,3,5,6,13,14,15,40,41,42]) (b:=c57L0b) v.Events.l.length (λk=>hiF w V valid known v i k) (λk=>hiH w V valid known ((L++Zr4 v valid i k).map prA) K++[r4,r5]) (λk=>rfl)
  (λk hk=>by
   obtain⟨e,he⟩:∃e,v.Events.l[k]?=some e:=⟨_,ZS5 hk⟩;have hg:=Z6 (f:=λe=>evA e) he
   have hi':=Zh hk;have hwr:=Zx (n:=k)<|by omega
   have hb6:∀n,Zj n (.row 18 [evA e])=true:=λn=>ZN (n:=n) [evA e]<|ZwW e
   have hr7:∀n,Zj n (.row 2 [.agg [I i,I k]])=true:=λn=>rfl
   have hq:=λm=>hfr m
   rw[ZAb v valid i k he];have hy:=ZAa (w:=w) V valid known ((L++Zr4 v valid i k).map prA) K i k r4 r5 (.row 18 [evA e]) h4 h5 hb6 (Zw (λt=>rfl) _) (by rw[ZS4,ZSv];have:=hlen k;omega)
   have q6:=hfr 6<|by decide
   have q7:=hfr 7<|by decide
   have hP:=hbP<|L++Zr4 v valid i k;refine⟨hiF w V valid known v i<|k+1,?_,rfl⟩;show Zb rE c57L0b (hiF w V valid known v i k) (hiH w V valid known ((L++Zr4 v valid i k).map prA) K++[r4,r5])=some (.normal,hiF w V valid known v i<|k+1,hiH w V valid known ((L++(Zr4 v valid i k++(bif decide (e.Day<=valid)then [(i,k)]else []))).map prA) K++[r4,r5])
   have hPe:(L++(Zr4 v valid i k++[(i,k)])).map prA=(L++Zr4 v valid i k).map prA++[prA (i,k)]:=by simp
   have hP2:∀n,Zd n ((L++Zr4 v valid i k).map prA++[prA (i,k)])=true:=λn=>by rw[Z0T,hP];rfl
   generalize hes:(L++Zr4 v valid i k).map prA=es at*;simp only[hiH,ZS8,ZSa]at hy;cases c:decide (e.Day<=valid)with
   |false=>
    rw[cond_false,ZSf,hes];simp only[go_sem,c57L0b,hiF,hiH,ZS8,ZSa,hg,hi',hwr,c,hP,hbK,h4,h5,hb6]
   |true=>
    rw[cond_true,hPe];simp only[go_sem,c57L0b,hiF,hiH,ZS8,ZSa,S3,hg,hi',hwr,c,hy,hP,hP2,hbK,h4,h5,hb6])
  (e:=.exit 2) (fr:=hiF w V valid known v i v.Events.l.length) (h:=hiH w V valid known ((L++Zr4 v valid i v.Events.l.length).map prA) K++[r4,r5]) (by
   have hP:=hbP<|L++Zr4 v valid i v.Events.l.length;have q6:=hfr 6<|by decide
   simp only[go_sem,c57L0b,hiF,hiH,ZS8,ZSa,ZG,hP,hbK,h4,h5]) (by simp)
 have e0:L++Zr4 v valid i 0=L:=by simp[Zr4]
 rw[e0]at L0;exact L0
def Zyt(v:Ver):Z4 [v.enc]=true:=by
 have h1:Z4 (v.Events.l.map<|λe=>evA e)=true:=Zw (λt=>by have:=ZwW t;unfold Z4 at this;rw[ZS3]at this;exact this.1) _
 have h2:Z4 (v.Sig.l.map encS)=true:=Zw (λt=>rfl) _
 have h3:Z4 (v.Path.l.map encS)=true:=Zw (λt=>rfl) _
 unfold Ver.enc;simp only[go_sem]
structure VsS(V:NL Ver):Prop where
 len:V.l.length<=100
 evs:∀v∈V.l,v.Events.l.length<=50
def Zyu(v:Ver)(valid:Int)(i n:Nat):(Zr4 v valid i n).length<=n:=by
 unfold Zr4;rw[ZS4];exact ZSz (ZU0 _ _)<|by simp
def ZwX{V:NL Ver}(hV:VsS V)(valid known:Int):∀i,(Zr7 V.l valid known i).length<=i*50
 |0=>ZS6 _
 |i+1=>by
  have ih:=ZwX hV valid known i;unfold Zr7;rw[ZSv,ZSX];have:(match V.l[i]? with|some v=>bif Zvl V.l known i v then Zr4 v valid i v.Events.l.length else []|none=>[]).length<=50:=by
   cases hv:V.l[i]? with
   |none=>exact ZS7 _
   |some v=>
    have h1:=Zyu v valid i v.Events.l.length;have h2:=hV.evs v<|ZSd hv;show(bif Zvl V.l known i v then Zr4 v valid i v.Events.l.length else []).length<=50
    cases Zvl V.l known i v with
    |true=>rw[cond_true];omega
    |false=>exact ZS7 _
  omega
abbrev hoF(w:Bool)(V:NL Ver)(valid known:Int)(i:Nat):Fr:=[(0,.yld 2),(2,.iptr false [I known]),(3,.iptr false [I valid]),(5,.mp 3),(13,vsA w V),(14,I V.l.length),(15,I i)]
def ZAd(V:NL Ver)(valid known:Int)(hV:VsS V):
 Zg rE [0,2,3,5,13,14,15] c57L1b (hoF w V valid known 0) (hiH w V valid known [] []) =
  some (.exit 0,hoF w V valid known V.l.length,hiH w V valid known ((Zr7 V.l valid known V.l.length).map prA)<|Zvn V.l V.l.length):=by
 have hlen:=hV.len;have hfr:∀n,2<=n->Zd n (frV<|Zvq w V valid known)=true:=λn hn=>by
  have:Nat.blt 1 n=true:=by simp;omega
  simp only[go_sem,this]
 have hbP:∀(M:List<|Nat×Nat)n,Zd n (M.map prA)=true:=λM n=>ZN _<|Zw (λt=>rfl) M
 have hbK:∀(K:List<|Int×Int)n,Zd n (K.map plA)=true/\Zd n (ZO K.length)=true:=λK n=>⟨ZN _<|Zw (λt=>rfl) K,ZN _<|Ut _⟩
 have q4:=hfr 4<|by decide
 have q5:=hfr 5<|by decide
 have q6:=hfr 6<|by decide
 have L1:=Y8 (E:=rE) (live:=[0,2,3,5,13,14,15]) (b:=c57L1b) V.l.length (λi=>hoF w V valid known i) (λi=>hiH w V valid known ((Zr7 V.l valid known i).map prA)<|Zvn V.l i) (λi=>rfl)
  (λi hi=>by
   obtain⟨v,hv⟩:∃v,V.l[i]?=some v:=⟨_,ZS5 hi⟩;have hm:=ZSd hv;have hg:=Z6 (f:=Ver.enc) hv;have hi':=Zh hi;have hwr:=Zx (n:=i)<|by omega
   have hb4:∀n,Zj n (.row 8 [v.enc])=true:=λn=>ZN (n:=n) [v.enc]<|Zyt v
   have hb5:∀n,Zj n (.row 2 [.agg [I v.Authority,I v.Number]])=true:=λn=>rfl
   have hs:Zvn V.l (i+1)=Qi Zvh (Zvn V.l i) (v.Authority,v.Number):=by
    unfold Zvn;exact Us _ _ hv
   have hcl:=ZwX hV valid known i;have hve:=hV.evs v hm;have hc:Zr7 V.l valid known (i+1)=Zr7 V.l valid known i++(bif Zvl V.l known i v then Zr4 v valid i v.Events.l.length else []):=by
    conv=>lhs;unfold Zr7
    rw[hv]
   have hi50:i*50<=5000:=by omega
   have hin:=ZAc (w:=w) V valid known v i hv (Zr7 V.l valid known i) (Qi Zvh (Zvn V.l i) (v.Authority,v.Number)) (.row 8 [v.enc]) (.row 2 [.agg [I v.Authority,I v.Number]]) hb4 hb5<|by omega
   refine⟨hoF w V valid known<|i+1,?_,rfl⟩;show Zb rE c57L1b (hoF w V valid known i) (hiH w V valid known ((Zr7 V.l valid known i).map prA)<|Zvn V.l i)=some (.normal,hoF w V valid known<|i+1,hiH w V valid known ((Zr7 V.l valid known<|i+1).map prA)<|Zvn V.l<|i+1)
   rw[hs,hc];unfold Zvl;have hP:=hbP<|Zr7 V.l valid known i;have hP2:=hbP<|Zr7 V.l valid known i++Zr4 v valid i v.Events.l.length;have hK:=hbK<|Qi Zvh (Zvn V.l i) (v.Authority,v.Number);have hK0:=hbK<|Zvn V.l i;generalize Zr7 V.l valid known i=L at*;generalize Zvn V.l i=K at*;have hG:=H5 (ag:=true) (kk:=[1,1]) (enc:=plA) (eq:=Zvh) Zys K (v.Authority,v.Number) (h:=[.row 2<|L.map prA,.row 1 [.sl 0 (L.map prA).length 0 (L.map prA).length false],.loop .ready .normal (Zvq w V valid known) [13] c16R0a c16R0b,.map (K.map plA)<|ZO K.length,.row 8 [v.enc],.row 2 [.agg [I v.Authority,I v.Number]]]) (b:=3) rfl;have hU:=Ur (ag:=true) (kk:=[1,1]) (enc:=plA) (eq:=Zvh) Zys K (v.Authority,v.Number) (h:=[.row 2<|L.map prA,.row 1 [.sl 0 (L.map prA).length 0 (L.map prA).length false],.loop .ready .normal (Zvq w V valid known) [13] c16R0a c16R0b,.map (K.map plA)<|ZO K.length,.row 8 [v.enc],.row 2 [.agg [I v.Authority,I v.Number]]]) (b:=3) rfl;simp only[hiF,hiH,ZS8,ZSa,Ver.enc,plA,ZS4]at hin hG hU hb4;have c0:((0:Nat):Int)=0:=rfl;rw[c0]at hin;cases c1:K.any (Zvh (v.Authority,v.Number))with
   |true=>
    rw[c1]at hG;rw[ZSn,ZSo,cond_false,ZSf];simp only[go_sem,c57L1b,hoF,hiH,Ver.enc,hg,hi',hwr,hG,hU,hP,hK,hK0,hb4,hb5]
   |false=>
    rw[c1]at hG;rw[ZSs,ZSc];cases c2:decide (v.At>known)with
    |true=>
     rw[ZSn,cond_false,ZSf];simp only[go_sem,c57L1b,hoF,hiH,Ver.enc,hg,hi',hwr,hG,hU,hP,hK,hK0,hb4,hb5,c2]
    |false=>
     rw[ZSs,cond_true];simp only[go_sem,c57L1b,c57L0,hoF,hiH,Ver.enc,hg,hi',hwr,hG,hU,hP,hP2,hK,hK0,hb4,hb5,c2,hin])
  (e:=.exit 0) (fr:=hoF w V valid known V.l.length) (h:=hiH w V valid known ((Zr7 V.l valid known V.l.length).map prA)<|Zvn V.l V.l.length) (by
   have hP:=hbP<|Zr7 V.l valid known V.l.length;have hK:=hbK<|Zvn V.l V.l.length;simp only[go_sem,c57L1b,hoF,hiH,ZG,hP,hK]) (by simp)
 exact L1
end Go.AM
namespace Go.AM
open Go
variable [REdz] {w:Bool}
def Zwt{p q:Int×Int}:Zvh p q=true↔p=q:=by
 unfold Zvh;simp[Prod.ext_iff]
def ZAe(K:List<|Int×Int)(x y:Int×Int):(Qi Zvh K x).any (Zvh y)=(K.any (Zvh y)||Zvh y x):=by
 unfold Qi;cases c:K.any (Zvh x)with
 |true=>
  rw[cond_true];cases d:Zvh y x with
  |false=>rw[ZTj]
  |true=>
   have:=Zwt.1 d;subst this;rw[c];rfl
 |false=>
  rw[cond_false,List.any_append];simp
def Zyv(l:List Ver)(p:Int×Int):∀(m:List Ver)(K:List<|Int×Int),(m.foldl (λK v=>Qi Zvh K (v.Authority,v.Number)) K).any (Zvh p)=(K.any (Zvh p)||m.any (λw=>Zvh p (w.Authority,w.Number)))
 |[],K=>by simp
 |w::m,K=>by
  rw[ZSy,Zyv l p m,ZAe,List.any_cons,Bool.or_assoc]
def Zyw(l:List Ver)(i:Nat)(p:Int×Int):(Zvn l i).any (Zvh p)=(l.take i).any (λw=>Zvh p (w.Authority,w.Number)):=by
 unfold Zvn;rw[Zyv l];rfl
def evK(l:List Ver)(p:Nat×Nat):List Int:=match l[p.1]? with
 |some v=>(match v.Events.l[p.2]? with|some e=>[e.Day,v.At,v.Authority,v.Number,(p.2:Int)]|none=>[])
 |none=>[]
def InL(l:List Ver)(p:Nat×Nat):Prop:=∃v e,l[p.1]?=some v/\v.Events.l[p.2]?=some e
def Zw4{l:List Ver}{p:Nat×Nat}{v:Ver}{e:Event}(h1:l[p.1]?=some v)(h2:v.Events.l[p.2]?=some e):evK l p=[e.Day,v.At,v.Authority,v.Number,(p.2:Int)]:=by
 unfold evK;rw[h1];simp only[h2]
def Zw5(l:List Ver)(x:Nat×Nat):List (Nat×Nat)->List (Nat×Nat)
 |[]=>[x]
 |y::r=>bif lexB (evK l x) (evK l y)then x::y::r else y::Zw5 l x r
def ZvG(l:List Ver):List (Nat×Nat)->List (Nat×Nat)
 |[]=>[]
 |x::r=>Zw5 l x<|ZvG l r
def kp2(l:List Ver)(p:Nat×Nat):List Int×AV:=(evK l p,prA p)
def Zyx(l:List Ver)(x:Nat×Nat):∀L:List<|Nat×Nat,ZvI (kp2 l x) (L.map<|kp2 l)=(Zw5 l x L).map (kp2 l)
 |[]=>rfl
 |y::r=>by
  rw[ZS9,ZvI,Zw5];show(bif lexB (evK l x) (evK l y)then _ else _)=_
  cases lexB (evK l x) (evK l y)with
  |true=>rfl
  |false=>rw[cond_false,cond_false,ZS9,Zyx l x r]
def ZwY(l:List Ver):∀L:List<|Nat×Nat,ZvN (L.map<|kp2 l)=(ZvG l L).map (kp2 l)
 |[]=>rfl
 |x::r=>by
  rw[ZS9,ZvN,ZwY l r,Zyx];rfl
def Zyy(l:List Ver)(x:Nat×Nat):∀L,(Zw5 l x L).Perm (x::L)
 |[]=>.refl _
 |y::r=>by
  unfold Zw5;cases lexB (evK l x) (evK l y)with
  |true=>exact .refl _
  |false=>exact((Zyy l x r).cons y).trans (.swap ..)
def Zwc(l:List Ver):∀L,(ZvG l L).Perm L
 |[]=>.refl _
 |x::r=>(Zyy l x _).trans ((Zwc l r).cons x)
def ZAf(V:NL Ver){p:Nat×Nat}(h:InL V.l p):ZvF [.iptr w [vsA w V]] (prA p)=some (evK V.l p):=by
 obtain⟨v,e,h1,h2⟩:=h;rw[Zw4 h1 h2];have g1:=Z6 (f:=Ver.enc) h1;have g2:=Z6 (f:=λe=>evA e) h2
 unfold ZvF prA;have d1:decide (0<=((p.1:Nat):Int))=true:=decide_eq_true<|by omega
 have d2:decide (0<=((p.2:Nat):Int))=true:=decide_eq_true<|by omega
 simp only[d1,d2,ZSR,cond_true,ZUh,g1,Ver.enc,g2]
def Zyz(V:NL Ver):∀L:List<|Nat×Nat,(∀p∈L,InL V.l p)->keysOf (ZvF [.iptr w [vsA w V]]) (L.map prA)=some (L.map<|kp2 V.l)
 |[],_=>rfl
 |p::r,h=>by
  rw[ZS9,keysOf,ZAf V<|h p<|ZSS ..,Zyz V r<|λq hq=>h q<|ZT5 _ hq]
  rfl
def Zwu(l:List Ver)(L:List<|Nat×Nat):Prop:=L.Pairwise<|λp q=>evK l p≠evK l q
def ZyA{l:List Ver}{L:List (Nat×Nat)}(h:Zwu l L):ZvJ (L.map<|kp2 l)=true:=by
 rw[ZwH,ZTw];exact h
def ZAg(V:NL Ver)(L:List<|Nat×Nat)(h1:∀p∈L,InL V.l p)(h2:Zwu V.l L)(hl:L.length<=1000000)(r:AObj):
 fnV rE 31 [.sl 0 L.length 0 L.length false,.clo (.func 32) [] [.iptr w [vsA w V]]] [.row 2<|L.map prA,r]=some (.tup [],[.row 2<|(ZvG V.l L).map prA,r]):=by
 have hk:=Zyz (w:=w) V L h1;have hd:=ZyA h2;have hs:=ZwY V.l L;rw[V8 (s:=ZvW 32 2 ZvF) rfl];unfold ZvW;cases L with
 |nil=>rfl
 |cons p t=>
  have he:((p::t).map prA).isEmpty=false:=rfl;have hag:((p::t).map prA).all Zwl=true:=by rw[ZTq,ZSj];intro x _;rfl
  have hfi:((p::t).map prA).all (fits 2)=true:=by rw[ZTq,ZSj];intro x _;rfl
  have hcl:Z4 ((p::t).map prA)=true:=Zw (λt=>rfl) _
  have hcv:Zi [.iptr w [vsA w V]]=true:=rfl;have hb:Nat.ble (p::t).length 1000000=true:=ZT1 hl;have hm:((ZvG V.l<|p::t).map (kp2 V.l)).map (·.2)=(ZvG V.l<|p::t).map prA:=by rw[ZTr];rfl
  simp only[ZSp,he,cond_false,hk,hd,hag,hfi,hcl,hcv,hb,hs,hm,ZS4,beq_self_eq_true,ZSR,ZSs];rfl
def ZwZ(l:List Ver)(valid known:Int):∀i,∀p∈Zr7 l valid known i,p.1<i/\∃v e,l[p.1]?=some v/\v.Events.l[p.2]?=some e/\e.Day<=valid/\v.At<=known
 |0,p,hp=>by cases hp
 |i+1,p,hp=>by
  unfold Zr7 at hp;rcases ZSW.1 hp with hp|hp
  .obtain⟨h1,h2⟩:=ZwZ l valid known i p hp;exact⟨by omega,h2⟩
  .cases hv:l[i]? with
   |none=>rw[hv]at hp;cases hp
   |some v=>
    rw[hv]at hp;have hp':p∈(bif Zvl l known i v then Zr4 v valid i v.Events.l.length else []):=hp;cases ht:Zvl l known i v with
    |false=>rw[ht]at hp';cases hp'
    |true=>
     rw[ht,cond_true]at hp';unfold Zr4 at hp';obtain⟨k,hk,rfl⟩:=ZSG.1 hp';obtain⟨k1,k2⟩:=ZTD.1 hk;have hk':k<v.Events.l.length:=by simpa using k1
     refine⟨Nat.lt_succ_self i,v,v.Events.l[k],hv,ZS5 hk',?_,?_⟩
     .unfold ZvS at k2;rw[ZS5 hk']at k2;exact of_decide_eq_true k2
     .unfold Zvl at ht;simp only[ZS3,ZSJ]at ht;have:=of_decide_eq_false ht.2;omega
def ZyB(l:List Ver)(valid known:Int)(i:Nat):∀p∈Zr7 l valid known i,InL l p:=λp hp=>by
 obtain⟨_,v,e,h1,h2,_⟩:=ZwZ l valid known i p hp;exact⟨v,e,h1,h2⟩
def Zx0(l:List Ver)(valid known:Int):∀i,Zwu l (Zr7 l valid known i)
 |0=>.nil
 |i+1=>by
  unfold Zr7;refine List.pairwise_append.2 ⟨Zx0 l valid known i,?_,λp hp q hq hc=>?_⟩
  .cases hv:l[i]? with
   |none=>exact .nil
   |some v=>
    show List.Pairwise _ (bif Zvl l known i v then Zr4 v valid i v.Events.l.length else [])
    cases Zvl l known i v with
    |false=>exact .nil
    |true=>
     rw[cond_true];unfold Zr4;rw[ZTw];have hr:(List.range v.Events.l.length).Pairwise (λa b=>a<b):=List.pairwise_lt_range
     refine List.Pairwise.imp_of_mem ?_<|hr.filter _;intro a b ha hb hab hc;have ha':a<v.Events.l.length:=by simpa using(ZTD.1 ha).1
     have hb':b<v.Events.l.length:=by simpa using(ZTD.1 hb).1
     rw[Zw4 (p:=(i,a)) hv<|ZS5 ha',Zw4 (p:=(i,b)) hv<|ZS5 hb']at hc;simp only[List.cons.injEq]at hc;have h9:((a:Nat):Int)=((b:Nat):Int):=hc.2.2.2.2.1;omega
  .obtain⟨h1,w,e,h2,h3,_,_⟩:=ZwZ l valid known i p hp;cases hv:l[i]? with
   |none=>rw[hv]at hq;cases hq
   |some v=>
    rw[hv]at hq;have hq':q∈(bif Zvl l known i v then Zr4 v valid i v.Events.l.length else []):=hq;cases ht:Zvl l known i v with
    |false=>rw[ht]at hq';cases hq'
    |true=>
     rw[ht,cond_true]at hq';unfold Zr4 at hq';obtain⟨k,hk,rfl⟩:=ZSG.1 hq';have hk':k<v.Events.l.length:=by simpa using(ZTD.1 hk).1
     rw[Zw4 h2 h3,Zw4 (p:=(i,k)) hv<|ZS5 hk']at hc;simp only[List.cons.injEq]at hc;unfold Zvl at ht;rw[Zyw]at ht;simp only[ZS3,ZSJ,ZU1]at ht;have hw:w∈l.take i:=by
      rw[ZTh];exact⟨p.1,by rw[ZT3 h1];exact h2⟩
     have:=ht.1 w hw;rw[ZTG]at this;have h8:Zvh (v.Authority,v.Number) (w.Authority,w.Number)=true:=by
      rw[Zwt,hc.2.2.1,hc.2.2.2.1]
     rw[h8]at this;cases this
def Zr3(l:List Ver)(valid known:Int):List (Nat×Nat):=ZvG l<|Zr7 l valid known l.length
def Zx1(V:NL Ver)(hV:VsS V)(valid known:Int):pfn rE 16 [vsA w V,I valid,I known]=some (.isl false false 2<|(Zr3 V.l valid known).map prA):=by
 have L:=ZAd (w:=w) V valid known hV;have h1:=ZyB V.l valid known V.l.length;have h2:=Zx0 V.l valid known V.l.length;have h3:=ZwX hV valid known V.l.length;have hlen:=hV.len;have hS:=λr=>ZAg (w:=w) V (Zr7 V.l valid known V.l.length) h1 h2 (by omega) r
 have hp:=(Zwc V.l<|Zr7 V.l valid known V.l.length).length_eq;have hfr:∀n,2<=n->Zd n (frV<|Zvq w V valid known)=true:=λn hn=>by
  have:Nat.blt 1 n=true:=by simp;omega
  simp only[go_sem,this]
 have hP:∀(M:List<|Nat×Nat)n,Zd n (M.map prA)=true:=λM n=>ZN _<|Zw (λt=>rfl) M
 have hC:∀(M:List<|Nat×Nat),Z4 (M.map prA)=true:=λM=>Zw (λt=>rfl) M
 have hK:∀(K:List<|Int×Int)n,Zd n (K.map plA)=true/\Zd n (ZO K.length)=true:=λK n=>⟨ZN _<|Zw (λt=>rfl) K,ZN _<|Ut _⟩
 have q2:=hfr 2<|by decide
 have q3:=hfr 3<|by decide
 have q4:=hfr 4<|by decide
 have c30:fnV rE 30 [vsA w V,I valid,I known] [.row 2 [],.row 1 [.sl 0 0 0 0 false]]=some (.clo (.func 57) [] [.iptr w [vsA w V],.iptr false [I known],.iptr false [I valid]],[.row 2 [],.row 1 [.sl 0 0 0 0 false]]):=by
  rw[Q6 (f:=30) rfl rfl];cases w<;>simp only[go_sem,c30]
 unfold Zr3;have hrf:rf rE (.clo (.func 57) [] [.iptr w [vsA w V],.iptr false [I known],.iptr false [I valid]]) [13] c16R0a c16R0b (Zvq w V valid known) [.row 2 [],.row 1 [.sl 0 0 0 0 false]] =
  some (.normal,Zvq w V valid known,[.row 2<|(Zr7 V.l valid known V.l.length).map prA,.row 1 [.sl 0 (Zr7 V.l valid known V.l.length).length 0 (Zr7 V.l valid known V.l.length).length false],.loop .exhausted .normal (Zvq w V valid known) [13] c16R0a c16R0b,.map ((Zvn V.l V.l.length).map plA)<|ZO (Zvn V.l V.l.length).length]):=by
  have L':Zg rE [0,2,3,5,13,14,15] c57L1b [(0,.yld 2),(2,.iptr false [I known]),(3,.iptr false [I valid]),(5,.mp 3),(13,vsA w V),(14,I V.l.length),(15,.int .i64 0)] [.row 2 [],.row 1 [.sl 0 0 0 0 false],.loop .ready .normal (Zvq w V valid known) [13] c16R0a c16R0b,.map [] []]=_:=L;simp only[hiH,ZS4]at L';rw[Z1k (c:=c57) rfl];generalize Zr7 V.l valid known V.l.length=M at*;generalize Zvn V.l V.l.length=K at*;simp only[go_sem,c57,c57L1,L',hP,hK];rfl
 generalize Zr7 V.l valid known V.l.length=M at*;generalize Zvn V.l V.l.length=K at*;rw[Z5 (f:=16) rfl rfl];have htk:List.take M.length ((ZvG V.l M).map prA)=(ZvG V.l M).map prA:=ZSk<|Nat.le_of_eq<|by rw[ZS4,hp]
 cases w<;>simp only[go_sem,put,c16,c30,Sr,hrf,hP,hC,hS,hp,ZS4,htk,ZSr,beq_self_eq_true]
end Go.AM
namespace Go.AM
open Go
variable [REdz]
def c117_eq:c117=.seq s117p0 (.seq s117p1<|.seq s117p2<|.seq s117p3<|.seq s117p4<|.seq s117p5<|.seq s117p6<|.seq s117p7<|.seq s117p8<|.seq s117p9<|.seq s117p10 .ret):=rfl
def Zo(d:Door):AV:=.agg [.str d.Id,.str d.Building,.str d.Street,I d.Owner,I d.Number.N,.str d.Number.Letter,I d.Number.Num,I d.Number.Den,I d.Point.X,I d.Point.Y,I d.From,I d.Ended,.isl false d.After.ex 1<|d.After.l.map encS,I d.Why,I d.Office,.str d.Veil]
def exD(d:Door):Bool:=d.Ended==-1
def K8(s:Sta)(i:Int)(d:Door):Bool:=d.After.l.all λid=>!decide (Zn s id<=i)
def Yf(d:Door):Int:=(d.After.l.length:Int)
def He(d:Door):Bool:=
 bif d.Why==12 then Yf d==0 else bif d.Why==11 then Yf d==0&&Z3 d.Veil emp else bif d.Why==9 then ZD (Yf d) 2 8&&Z3 d.Veil emp else bif d.Why==10 then Yf d==1&&Z3 d.Veil emp else false
def UC(d:Door):Bool:=(((!(exD d==(d.Why==0)))||(exD d&&decide (Yf d>0)))||(!exD d&&!He d))||!Jq d.After.l
def NM(d:Door):Event:=⟨0,0,0,0,d.Office,d.Id,emp,d.Veil,⟨false,[]⟩,⟨false,[]⟩,⟨0,emp,0,0⟩,⟨0,0⟩,⟨false,[]⟩,⟨false,[]⟩⟩
def Hf(d:Door):Event:=⟨0,0,0,0,0,d.Id,d.Building,d.Street,⟨false,[]⟩,⟨false,[]⟩,d.Number,d.Point,⟨false,[]⟩,⟨false,[]⟩⟩
def NN(d:Door):Bool:=Z3 d.Building emp&&(Z3 d.Street emp&&(QL d.Number ⟨0,emp,0,0⟩&&(QK d.Point ⟨0,0⟩&&Q9 {NM d with Kind:=15})))
def WL(s:Sta)(k:Int):Int:=match s.Buildings[k.toNat]? with|some b=>b.Ended|none=>0
def QF(s:Sta)(k:Int):Int:=match s.Streets[k.toNat]? with|some b=>b.Ended|none=>0
def NO(s:Sta)(d:Door):Bool:=((d.Office != 0||decide (Y1 s d.Building<0))||decide (ZL s d.Street<0))||(exD d&&(WL s (Y1 s d.Building) != -1||QF s (ZL s d.Street) != -1))
def Hg(s:Sta)(i:Int)(d:Door):Bool:=
 K8 s i d&&(!UC d&&(bif Z3 d.Veil emp then !NO s d&&Q9 {Hf d with Kind:=6}else NN d))
structure DoS(d:Door):Prop where
 after:d.After.l.length<=100
 id:d.Id.size<=1000
 building:d.Building.size<=1000
 street:d.Street.size<=1000
 veil:d.Veil.size<=1000
abbrev stI(s:Sta):AV:=.iptr false [.isl false false 6<|s.Regions.map Region.enc,.isl false false 5<|s.Streets.map Street.enc,.isl false false 4<|s.Buildings.map Building.enc,.isl false false 16<|s.Doors.map Door.enc,.isl false false 6<|s.Units.map Unit'.enc,.isl false false 2<|s.Merged.map Pair.enc,.isl false false 2<|s.Rulings.map Pair.enc]
def Z32(s:Sta)(hs:StS s)(i:Int)(d:Door)(hd:DoS d):∃fr',Zg rE [1,2,5,6,22,23,24] c117L0b [(1,I i),(2,stI s),(5,.ptr 0 0 0 1),(6,.bool<|exD d),(22,.isl false d.After.ex 1<|d.After.l.map encS),(23,I d.After.l.length),(24,.int .i64 0)] [.row 16 [Zo d]] =
 some (if K8 s i d=true then .exit 0 else .ret,fr',[.row 16 [Zo d]])/\(K8 s i d=true->get fr' 2=stI s/\get fr' 4=.bot/\get fr' 5=.ptr 0 0 0 1/\get fr' 6=.bool (exD d))/\(K8 s i d=false->get fr' 4=.bool false):=by
 have L:=QT (E:=rE) (live:=[1,2,5,6,22,23,24]) (b:=c117L0b) (h:=[.row 16 [Zo d]]) d.After.l (λ_ id=>!decide (Zn s id<=i))
  (λj=>[(1,I i),(2,stI s),(5,.ptr 0 0 0 1),(6,.bool<|exD d),(22,.isl false d.After.ex 1<|d.After.l.map encS),(23,I d.After.l.length),(24,I j)]) 0
  (λfr=>get fr 2=stI s/\get fr 4=.bot/\get fr 5=.ptr 0 0 0 1/\get fr 6=.bool (exD d)) (λfr=>get fr 4=.bool false) (λj=>rfl)
  (λj x hx hP=>by
   have hg:=Z6 (f:=encS) hx;have hi:=Zh<|Z7 hx;have hw:=Zx (n:=j) (by have:=Z7 hx;have:=hd.after;omega)
   have hf:=find_ok s hs x;have hP':decide (Zn s x<=i)=false:=by simpa using hP
   refine⟨_,by simp only[go_sem,c117L0b,hg,hi,hw,encS,hf,hP'];rfl,?_⟩
   simp only[go_sem])
  (λj x hx hP=>by
   have hg:=Z6 (f:=encS) hx;have hi:=Zh<|Z7 hx;have hf:=find_ok s hs x;have hP':decide (Zn s x<=i)=true:=by simpa using hP
   refine⟨_,by simp only[go_sem,c117L0b,hg,hi,encS,hf,hP'];rfl,?_⟩
   simp only[go_sem])
  (⟨_,by simp only[go_sem,c117L0b,ZG];rfl,by refine⟨?_,?_,?_,?_⟩<;>simp only[go_sem]⟩)
 rw[QE]at L;exact L
def Fm(s:Sta)(hs:StS s)(i:Nat)(d:Door)(hd:DoS d)(hx:s.Doors[i]?=some d)(rest:ACode):
 (K8 s i d=true->Zb rE (.seq s117p0<|.seq s117p1<|.seq s117p2<|.seq s117p3 rest) [(0,stA s),(1,I i)] []=Zb rE rest [(2,stI s),(4,.bot),(5,.ptr 0 0 0 1),(6,.bool<|exD d)] [.row 16 [Zo d]])/\
 (K8 s i d=false->∃fr h,Zb rE (.seq s117p0<|.seq s117p1<|.seq s117p2<|.seq s117p3 rest) [(0,stA s),(1,I i)] []=some (.ret,fr,h)/\get fr 4=.bool false):=by
 obtain⟨fr',h1,h2,h3⟩:=Z32 s hs i d hd;have hg:=Z6 (f:=Door.enc) hx;have hex:(d.Ended==-1)=exD d:=rfl;unfold Zo at h1⊢;constructor
 .intro ha;rw[if_pos ha]at h1;obtain⟨q2,q4,q5,q6⟩:=h2 ha;simp only[go_sem,s117p0,s117p1,s117p2,s117p3,c117L0,hg,Door.enc,NL.enc,hex,h1,q2,q4,q5,q6]
 .intro ha;rw[ha]at h1;have q4:=h3 ha;simp only[ZSi,if_false]at h1;refine⟨_,_,by simp only[go_sem,s117p0,s117p1,s117p2,s117p3,c117L0,hg,Door.enc,NL.enc,hex,h1,q4];rfl,?_⟩
  simp only[go_sem]
def XM(d:Door):AObj:=.map [.int .i64 12,.int .i64 11,.int .i64 9,.int .i64 10] [.bool<|Yf d==0,.bool<|Yf d==0&&Z3 d.Veil emp,.bool<|ZD (Yf d) 2 8&&Z3 d.Veil emp,.bool<|Yf d==1&&Z3 d.Veil emp]
def Z33(a1 a2:Bool)(r1 r2:List Nat)(w1 w2:Option Nat)(k v j u:AV):Kp ⟨a1,r1,w1,some (k,v)⟩ ⟨a2,r2,w2,some (j,u)⟩=YF k j:=(rfl)
def Fo(a b:Int):YF (.int .i64 a) (.int .i64 b)=(a != b):=by simp[YF]
def Z34(x:AObj)(ks vs:List AV)(k:Int)(v:AV)(hk:ZW false [1] (I k) ks 0=some none):YK [x,.map ks vs] false [1] (.mp 1) (I k) v=some (.bot,[x,.map (ks++[I k])<|vs++[v]]):=by
 simp only[YK,ZSI,ZSp,Yo,Wi,hk,ZM,ZH,GN,GM]
def Js(b:Nat)(v:AV):Bool:=match v with| .mp c=>c==b|_=>false
def Z35(b:Nat):Js b (.mp b)=true:=by simp[Js]
def Z36{b:Nat}{v:AV}(h:Js b v=true):v=.mp b:=by
 cases v with
 |mp c=>have:c=b:=by simpa[Js]using h
        rw[this]
 |_=>simp[Js]at h
def Z37(fr:Fr)(x:AObj)(ks vs:List AV)(k:Int)(t:Nat)(h37':Js 1 (get fr 37)=true)(hk:ZW false [1] (I k) ks 0=some none)(htn:t≠37):
 Za rE (.ins false [1] (.t 37) (.c<|.int .i64 k)<|.t t) fr [x,.map ks vs]=⟨false,[],some 1,some (I k,get fr t)⟩:=by
 have h37:=Z36 h37';obtain⟨v,ht⟩:∃v,get fr t=v:=⟨_,rfl⟩;rw[ht];have e37:get (Z2 (AOp.ins false [1] (.t 37) (.c<|.int .i64 k)<|.t t).slots fr) 37=.mp 1:=by
  simp[AOp.slots,Arg.slots,Z2,get,h37]
 have et:get (Z2 (AOp.ins false [1] (.t 37) (.c<|.int .i64 k)<|.t t).slots fr) t=v:=by
  have:(37==t)=false:=by rw[beq_eq_false_iff_ne];exact λh=>htn h.symm
  simp[AOp.slots,Arg.slots,Z2,get,this,ht]
 have hne:YF (I k) (I k)=false:=by rw[Fo];simp
 have hd:Za rE (.ins false [1] (.t 37) (.c<|.int .i64 k)<|.t t) fr [x,.map ks vs]=QG rE (Z2 (AOp.ins false [1] (.t 37) (.c<|.int .i64 k)<|.t t).slots fr) [x,.map ks vs] (.ins false [1] (.t 37) (.c<|.int .i64 k)<|.t t) (match Z8 rE (Z2 (AOp.ins false [1] (.t 37) (.c<|.int .i64 k)<|.t t).slots fr) [x,.map ks vs] ([x,.map ks vs]:Hp).length (.ins false [1] (.t 37) (.c<|.int .i64 k)<|.t t)with|some r=>r.2.2|none=>none):=rfl
 rw[hd];generalize Z2 (AOp.ins false [1] (.t 37) (.c<|.int .i64 k)<|.t t).slots fr=f at e37 et;have ho:Z8 rE f [x,.map ks vs] ([x,.map ks vs]:Hp).length (.ins false [1] (.t 37) (.c<|.int .i64 k)<|.t t)=some (.bot,[1],some (1,.map (ks++[I k])<|vs++[v])):=by
  simp only[Z8,ev,e37,et,ZSI,ZSp,Yo,Wi,hk]
 have hi:Wm rE f [x,.map ks vs] (.ins false [1] (.t 37) (.c<|.int .i64 k)<|.t t)=some (I k,v):=by
  simp only[Wm,ev,e37,et,ZSI,ZSp,hk,hne,cond_false]
 rw[ho];simp only[QG,hi,ZSE]
def Z38(s:Sta)(d:Door)(rest:ACode):
 Zb rE (.seq s117p4<|.seq s117p5 rest) [(2,stI s),(4,.bot),(5,.ptr 0 0 0 1),(6,.bool<|exD d)] [.row 16 [Zo d]] =
  Zb rE rest [(2,stI s),(5,.ptr 0 0 0 1),(6,.bool<|exD d),(9,I<|Yf d),(10,.mp 1)] [.row 16 [Zo d],XM d]:=by
 have hn:((d.After.l.length:Nat):Int)=Yf d:=rfl;have f1:ZW false [1] (.int .i64 12) [] 0=some none:=rfl;have f2:ZW false [1] (.int .i64 11) [.int .i64 12] 0=some none:=rfl;have f3:ZW false [1] (.int .i64 9) [.int .i64 12,.int .i64 11] 0=some none:=rfl;have f4:ZW false [1] (.int .i64 10) [.int .i64 12,.int .i64 11,.int .i64 9] 0=some none:=rfl;have n1:((11:Int) != 12)=true:=rfl;have n2:((9:Int) != 12)=true:=rfl;have n3:((9:Int) != 11)=true:=rfl;have n4:((10:Int) != 12)=true:=rfl;have n5:((10:Int) != 11)=true:=rfl;have n6:((10:Int) != 9)=true:=rfl;have b1:∀x:AV,Zd 1 [x]=bel 1 x:=λx=>by simp[Zd]
 unfold XM Zo;cases c1:Yf d==0<;>cases c2:Yf d==1<;>cases c5003:ZD (Yf d) 2 8<;>cases c5004:Z3 d.Veil emp<;>
  simp only[go_sem,s117p4,s117p5,hn,c1,c2,c5003,c5004,DY,Z37,Z35,Z34,f1,f2,f3,f4,Z33,Fo,n1,n2,n3,n4,n5,n6,ne_eq,Nat.reduceEqDiff,not_false_eq_true]
def Z39(d:Door)(x:AObj):W5 [x,XM d] false [1] false (.bool false) (.mp 1) (I d.Why)=some (.bool<|He d):=by
 unfold XM He;simp only[W5,ZSI,ZSp,QW,Wi,ZW];cases c1:d.Why==12<;>cases c2:d.Why==11<;>cases c5003:d.Why==9<;>cases c5004:d.Why==10<;>rfl
set_option maxHeartbeats 4000000 in
def Fp(s:Sta)(d:Door)(hd:DoS d)(rest:ACode):
 (UC d=false->Zb rE (.seq s117p6 rest) [(2,stI s),(5,.ptr 0 0 0 1),(6,.bool<|exD d),(9,I<|Yf d),(10,.mp 1)] [.row 16 [Zo d],XM d]=Zb rE rest [(2,stI s),(5,.ptr 0 0 0 1),(6,.bool<|exD d),(90,.bool false)] [.row 16 [Zo d],XM d])/\
 (UC d=true->∃fr h,Zb rE (.seq s117p6 rest) [(2,stI s),(5,.ptr 0 0 0 1),(6,.bool<|exD d),(9,I<|Yf d),(10,.mp 1)] [.row 16 [Zo d],XM d]=some (.ret,fr,h)/\get fr 4=.bool false):=by
 have hg:=Z39 d;have hso:=Fj d.After.l d.After.ex (by have:=hd.after;omega)
 have t1:(true==true)=true:=rfl;have t2:(true==false)=false:=rfl;have t3:(false==true)=false:=rfl;have t4:(false==false)=true:=rfl;generalize XM d=m at hg⊢;unfold UC Zo;cases c1:exD d<;>cases c2:d.Why==0<;>cases c5003:decide (Yf d>0)<;>cases c5004:He d<;>cases c5005:Jq d.After.l<;>rw[c5004]at hg<;>rw[c5005]at hso<;>
  (constructor<;>intro hb<;>first|(exact absurd hb<|by decide)|skip)
 all_goals first
  |(simp only[go_sem,s117p6,c2,c5003,hg,hso,t1,t2,t3,t4];done)
  |(refine⟨_,_,by simp only[go_sem,s117p6,c2,c5003,hg,hso,t1,t2,t3,t4];rfl,?_⟩;simp only[go_sem])
def Z3a(d:Door)(hd:DoS d):EvS (NM d):=⟨ZS7 _,ZS7 _,ZS7 _,ZS7 _,hd.id,ZS7 _,hd.veil⟩
def Z3b(d:Door)(hd:DoS d):EvS (Hf d):=⟨ZS7 _,ZS7 _,ZS7 _,ZS7 _,hd.id,hd.building,hd.street⟩
def Fq(s:Sta)(d:Door)(hd:DoS d)(m:AObj)(rest:ACode):
 (Z3 d.Veil emp=true->Zb rE (.seq s117p7 rest) [(2,stI s),(5,.ptr 0 0 0 1),(6,.bool<|exD d),(90,.bool false)] [.row 16 [Zo d],m]=Zb rE rest [(2,stI s),(5,.ptr 0 0 0 1),(6,.bool<|exD d),(93,.bool false)] [.row 16 [Zo d],m])/\
 (Z3 d.Veil emp=false->∃fr h,Zb rE (.seq s117p7 rest) [(2,stI s),(5,.ptr 0 0 0 1),(6,.bool<|exD d),(90,.bool false)] [.row 16 [Zo d],m]=some (.ret,fr,h)/\get fr 4=.bool (NN d)):=by
 have hm:=Wg 15 (NM d)<|Z3a d hd;have hm':pfn rE 116 [I 15,.agg [I 0,I 0,I 0,I 0,I d.Office,.str d.Id,.str emp,.str d.Veil,.isl false false 1 [],.isl false false 3 [],I 0,.str emp,I 0,I 0,I 0,I 0,.isl false false 2 [],.isl false false 7 []]]=_:=hm;have hn4:(d.Number.N==0&&(Z3 d.Number.Letter emp&&(d.Number.Num==0&&d.Number.Den==0)))=QL d.Number ⟨0,emp,0,0⟩:=rfl;have hn5:(d.Point.X==0&&d.Point.Y==0)=QK d.Point ⟨0,0⟩:=rfl;unfold NN Zo;constructor
 .intro hv;simp only[go_sem,s117p7,hv]
 .intro hv;cases c1:Z3 d.Building emp with
  |false=>refine⟨_,_,by simp only[go_sem,s117p7,hv,c1];rfl,?_⟩;simp only[go_sem]
  |true=>
  cases c2:Z3 d.Street emp with
  |false=>refine⟨_,_,by simp only[go_sem,s117p7,hv,c1,c2];rfl,?_⟩;simp only[go_sem]
  |true=>
  cases c5003:QL d.Number ⟨0,emp,0,0⟩with
  |false=>refine⟨_,_,by simp only[go_sem,s117p7,hv,c1,c2,hn4,c5003];rfl,?_⟩;simp only[go_sem]
  |true=>
  cases c5004:QK d.Point ⟨0,0⟩with
  |false=>refine⟨_,_,by simp only[go_sem,s117p7,hv,c1,c2,hn4,c5003,hn5,c5004];rfl,?_⟩;simp only[go_sem]
  |true=>refine⟨_,_,by simp only[go_sem,s117p7,hv,c1,c2,hn4,c5003,hn5,c5004,hm'];rfl,?_⟩;simp only[go_sem]
def QC{α:Type}{P:α->Bool}{l:List α}(h:decide (Zp P l 0<0)=false):∃(j:Nat)(x:α),Zp P l 0=(j:Int)/\l[j]?=some x:=by
 rcases UA P l 0 with⟨h1,_⟩|⟨j,x,h1,h2,_⟩
 .rw[h1]at h;simp at h
 .exact⟨j,x,by rw[h1];omega,h2⟩
def Z3c(s:Sta)(hs:StS s)(d:Door)(hd:DoS d)(m:AObj):
 ∃fr h,Zb rE (.seq s117p8<|.seq s117p9<|.seq s117p10 .ret) [(2,stI s),(5,.ptr 0 0 0 1),(6,.bool<|exD d),(93,.bool false)] [.row 16 [Zo d],m]=some (.ret,fr,h)/\get fr 4=.bool (!NO s d&&Q9 {Hf d with Kind:=6}):=by
 have hm:=Wg 6 (Hf d)<|Z3b d hd;have hm':pfn rE 116 [I 6,.agg [I 0,I 0,I 0,I 0,I 0,.str d.Id,.str d.Building,.str d.Street,.isl false false 1 [],.isl false false 3 [],I d.Number.N,.str d.Number.Letter,I d.Number.Num,I d.Number.Den,I d.Point.X,I d.Point.Y,.isl false false 2 [],.isl false false 7 []]]=_:=hm;have hb:=Hb s hs d.Building;have ht:=K7 s hs d.Street;unfold NO Zo;cases c1:d.Office != 0 with
 |true=>refine⟨_,_,by simp only[go_sem,s117p8,s117p9,s117p10,hb,ht,c1];rfl,?_⟩;simp only[go_sem]
 |false=>
 cases c2:decide (Y1 s d.Building<0)with
 |true=>refine⟨_,_,by simp only[go_sem,s117p8,s117p9,s117p10,hb,ht,c1,c2];rfl,?_⟩;simp only[go_sem]
 |false=>
 cases c5003:decide (ZL s d.Street<0)with
 |true=>refine⟨_,_,by simp only[go_sem,s117p8,s117p9,s117p10,hb,ht,c1,c2,c5003];rfl,?_⟩;simp only[go_sem]
 |false=>
 obtain⟨j,x,hj,hx⟩:=QC c2;obtain⟨k,y,hk,hy⟩:=QC c5003;have hj':Y1 s d.Building=(j:Int):=hj;have hk':ZL s d.Street=(k:Int):=hk;have hbE:WL s (Y1 s d.Building)=x.Ended:=by rw[hj'];simp[WL,hx]
 have hsE:QF s (ZL s d.Street)=y.Ended:=by rw[hk'];simp[QF,hy]
 have gx:=Z6 (f:=Building.enc) hx;have gy:=Z6 (f:=Street.enc) hy;rw[hbE,hsE];rw[hj']at hb c2;rw[hk']at ht c5003;cases c5004:exD d with
 |false=>refine⟨_,_,by simp only[go_sem,s117p8,s117p9,s117p10,hb,ht,c1,c2,c5003,hm'];rfl,?_⟩;simp only[go_sem]
 |true=>
 cases c5005:x.Ended != -1 with
 |true=>refine⟨_,_,by simp only[go_sem,s117p8,s117p9,s117p10,hb,ht,c1,c2,c5003,gx,Building.enc,NL.enc,c5005];rfl,?_⟩;simp only[go_sem]
 |false=>
 cases c5006:y.Ended != -1 with
 |true=>refine⟨_,_,by simp only[go_sem,s117p8,s117p9,s117p10,hb,ht,c1,c2,c5003,gx,gy,Building.enc,Street.enc,NL.enc,c5005,c5006];rfl,?_⟩;simp only[go_sem]
 |false=>refine⟨_,_,by simp only[go_sem,s117p8,s117p9,s117p10,hb,ht,c1,c2,c5003,gx,gy,Building.enc,Street.enc,NL.enc,c5005,c5006,hm'];rfl,?_⟩;simp only[go_sem]
def Fs(s:Sta)(hs:StS s)(i:Nat)(d:Door)(hd:DoS d)(hx:s.Doors[i]?=some d):pfn rE 117 [stA s,I i]=some (.bool<|Hg s i d):=by
 rw[Z5 (f:=117) (c:=c117) rfl rfl,c117_eq];have e0:QP 0 [stA s,I i]=[(0,stA s),(1,I i)]:=rfl;rw[e0];unfold Hg;have fin:∀(fr:Fr)(h:Hp)(b:Bool),get fr 4=.bool b->frz (fnd [ResVar.tmp 4]<|some (.ret,fr,h))=some (.bool b):=by
  intro fr h b hg;simp only[go_sem,hg]
 cases c1:K8 s i d with
 |false=>
  obtain⟨fr,h,h1,h2⟩:=(Fm s hs i d hd hx _).2 c1;rw[h1];exact fin fr h false h2
 |true=>
  rw[(Fm s hs i d hd hx _).1 c1,Z38];cases c2:UC d with
  |true=>
   obtain⟨fr,h,h1,h2⟩:=(Fp s d hd _).2 c2;rw[h1];exact fin fr h false h2
  |false=>
   rw[(Fp s d hd _).1 c2];cases c5003:Z3 d.Veil emp with
   |false=>
    obtain⟨fr,h,h1,h2⟩:=(Fq s d hd (XM d) _).2 c5003;rw[h1];exact fin fr h _ h2
   |true=>
    rw[(Fq s d hd (XM d) _).1 c5003];obtain⟨fr,h,h1,h2⟩:=Z3c s hs d hd<|XM d;rw[h1];exact fin fr h _ h2
structure StE(s:Sta):Prop where
 sizes:StS s
 regions:∀x∈s.Regions,x.Names.l.length<=100/\x.Ring.l.length<=100/\x.Id.size<=1000
 streets:∀x∈s.Streets,x.Names.l.length<=100/\x.Line.l.length<=100/\x.Id.size<=1000
 buildings:∀x∈s.Buildings,x.Ring.l.length<=100/\x.Id.size<=1000
 doors:∀x∈s.Doors,DoS x
 units:∀x∈s.Units,x.Id.size<=1000/\x.Door.size<=1000/\x.Text.size<=1000
def Jt(x:Region):Event:=⟨0,0,x.Kind,0,0,x.Id,emp,emp,⟨false,[]⟩,⟨false,[]⟩,⟨0,emp,0,0⟩,⟨0,0⟩,x.Ring,⟨false,[]⟩⟩
def Ju(x:Street):Event:=⟨0,0,0,0,0,x.Id,emp,emp,⟨false,[]⟩,⟨false,[]⟩,⟨0,emp,0,0⟩,⟨0,0⟩,x.Line,⟨false,[]⟩⟩
def Jv(x:Building):Event:=⟨0,0,0,0,0,x.Id,emp,emp,⟨false,[]⟩,⟨false,[]⟩,⟨0,emp,0,0⟩,⟨0,0⟩,x.Ring,⟨false,[]⟩⟩
def Vn(x:Unit'):Event:=⟨0,0,0,0,0,x.Id,x.Door,x.Text,⟨false,[]⟩,⟨false,[]⟩,⟨0,emp,0,0⟩,⟨0,0⟩,⟨false,[]⟩,⟨false,[]⟩⟩
def Vo(x:Region):Bool:=QM x.Owner x.Ended 0&&(Jp x.Names.l x.Names.ex&&Q9 {Jt x with Kind:=1})
def Vp(x:Street):Bool:=QM x.Owner x.Ended 0&&(Jp x.Names.l x.Names.ex&&Q9 {Ju x with Kind:=2})
def Vq(x:Building):Bool:=QM x.Owner x.Ended 0&&Q9 {Jv x with Kind:=5}
def Vr(s:Sta)(i:Nat)(x:Door):Bool:=QM x.Owner x.Ended x.From&&Hg s i x
def QN(s:Sta)(k:Int):Int:=match s.Doors[k.toNat]? with|some d=>d.Ended|none=>0
def Jw(s:Sta)(x:Unit'):Bool:=(x.Ended==-1&&(x.Why != 0||QN s (Zn s x.Door) != -1))||((x.Ended != -1&&x.Why != 12)&&x.Why != 11)
def Vs(s:Sta)(x:Unit'):Bool:=!decide (Zn s x.Door<0)&&(QM 0 x.Ended x.From&&(Q9 {Vn x with Kind:=7}&&!Jw s x))
def Jx(s:Sta):Bool:=s.Regions.all Vo&&(s.Streets.all Vp&&(s.Buildings.all Vq&&(Zu (Vr s) 0 s.Doors&&(s.Units.all (Vs s)&&(Jq (Qp s)&&(Wh s.Doors&&WK s))))))
def Z3d(s:Sta)(hs:StE s):∃fr',Zg rE [1,15,16,17] c70L0b [(1,stI s),(15,.isl false false 6<|s.Regions.map Region.enc),(16,I s.Regions.length),(17,.int .i64 0)] [] =
 some (if Zu (λ_ x=>Vo x) 0 s.Regions=true then .exit 0 else .ret,fr',[])/\(Zu (λ_ x=>Vo x) 0 s.Regions=true->get fr' 1=stI s/\get fr' 2=.bot)/\(Zu (λ_ x=>Vo x) 0 s.Regions=false->get fr' 2=.bool false):=by
 have L:=QT (E:=rE) (live:=[1,15,16,17]) (b:=c70L0b) (h:=[]) s.Regions (λ_ x=>Vo x)
  (λi=>[(1,stI s),(15,.isl false false 6<|s.Regions.map Region.enc),(16,I s.Regions.length),(17,I i)]) 0
  (λfr=>get fr 1=stI s/\get fr 2=.bot) (λfr=>get fr 2=.bool false) (λi=>rfl)
  (λi x hx hP=>by
   have hg:=Z6 (f:=Region.enc) hx;have hi:=Zh<|Z7 hx;have hw:=Zx (n:=i) (by have:=Z7 hx;have:=hs.sizes.regions;omega)
   have hm:=ZSd hx;obtain⟨z1,z2,z3⟩:=hs.regions x hm;have hnm:=Hc x.Names.l x.Names.ex z1;have hmd:pfn rE 116 [I 1,.agg [I 0,I 0,I x.Kind,I 0,I 0,.str x.Id,.str emp,.str emp,.isl false false 1 [],.isl false false 3 [],I 0,.str emp,I 0,I 0,I 0,I 0,.isl false x.Ring.ex 2<|x.Ring.l.map Pt.enc,.isl false false 7 []]]=some (.bool<|Q9 {Jt x with Kind:=1}):=Wg 1 (Jt x) ⟨ZS7 _,ZS7 _,z2,ZS7 _,z3,ZS7 _,ZS7 _⟩
   simp only[Vo,ZS3]at hP;obtain⟨p1,p2,p3⟩:=hP;refine⟨_,by simp only[go_sem,c70L0b,hg,hi,hw,Region.enc,NL.enc,Qc,hnm,hmd,p1,p2,p3];rfl,?_⟩
   simp only[go_sem])
  (λi x hx hP=>by
   have hg:=Z6 (f:=Region.enc) hx;have hi:=Zh<|Z7 hx;have hm:=ZSd hx;obtain⟨z1,z2,z3⟩:=hs.regions x hm;have hnm:=Hc x.Names.l x.Names.ex z1;have hmd:pfn rE 116 [I 1,.agg [I 0,I 0,I x.Kind,I 0,I 0,.str x.Id,.str emp,.str emp,.isl false false 1 [],.isl false false 3 [],I 0,.str emp,I 0,I 0,I 0,I 0,.isl false x.Ring.ex 2<|x.Ring.l.map Pt.enc,.isl false false 7 []]]=some (.bool<|Q9 {Jt x with Kind:=1}):=Wg 1 (Jt x) ⟨ZS7 _,ZS7 _,z2,ZS7 _,z3,ZS7 _,ZS7 _⟩
   unfold Vo at hP;cases p1:QM x.Owner x.Ended 0 with
   |false=>
    refine⟨_,by simp only[go_sem,c70L0b,hg,hi,Region.enc,NL.enc,Qc,p1];rfl,?_⟩
    simp only[go_sem]
   |true=>
   cases p2:Jp x.Names.l x.Names.ex with
   |false=>
    refine⟨_,by simp only[go_sem,c70L0b,hg,hi,Region.enc,NL.enc,Qc,hnm,p1,p2];rfl,?_⟩
    simp only[go_sem]
   |true=>
    have p3:Q9 {Jt x with Kind:=1}=false:=by simpa[p1,p2]using hP
    refine⟨_,by simp only[go_sem,c70L0b,hg,hi,Region.enc,NL.enc,Qc,hnm,hmd,p1,p2,p3];rfl,?_⟩
    simp only[go_sem])
  (⟨_,by simp only[go_sem,c70L0b,ZG];rfl,by refine⟨?_,?_⟩<;>simp only[go_sem]⟩)
 exact L
def Z3e(s:Sta)(hs:StE s):∃fr',Zg rE [1,46,47,48] c70L1b [(1,stI s),(46,.isl false false 5<|s.Streets.map Street.enc),(47,I s.Streets.length),(48,.int .i64 0)] [] =
 some (if Zu (λ_ x=>Vp x) 0 s.Streets=true then .exit 2 else .ret,fr',[])/\(Zu (λ_ x=>Vp x) 0 s.Streets=true->get fr' 1=stI s/\get fr' 2=.bot)/\(Zu (λ_ x=>Vp x) 0 s.Streets=false->get fr' 2=.bool false):=by
 have L:=QT (E:=rE) (live:=[1,46,47,48]) (b:=c70L1b) (h:=[]) s.Streets (λ_ x=>Vp x)
  (λi=>[(1,stI s),(46,.isl false false 5<|s.Streets.map Street.enc),(47,I s.Streets.length),(48,I i)]) 2
  (λfr=>get fr 1=stI s/\get fr 2=.bot) (λfr=>get fr 2=.bool false) (λi=>rfl)
  (λi x hx hP=>by
   have hg:=Z6 (f:=Street.enc) hx;have hi:=Zh<|Z7 hx;have hw:=Zx (n:=i) (by have:=Z7 hx;have:=hs.sizes.streets;omega)
   have hm:=ZSd hx;obtain⟨z1,z2,z3⟩:=hs.streets x hm;have hnm:=Hc x.Names.l x.Names.ex z1;have hmd:pfn rE 116 [I 2,.agg [I 0,I 0,I 0,I 0,I 0,.str x.Id,.str emp,.str emp,.isl false false 1 [],.isl false false 3 [],I 0,.str emp,I 0,I 0,I 0,I 0,.isl false x.Line.ex 2<|x.Line.l.map Pt.enc,.isl false false 7 []]]=some (.bool<|Q9 {Ju x with Kind:=2}):=Wg 2 (Ju x) ⟨ZS7 _,ZS7 _,z2,ZS7 _,z3,ZS7 _,ZS7 _⟩
   simp only[Vp,ZS3]at hP;obtain⟨p1,p2,p3⟩:=hP;refine⟨_,by simp only[go_sem,c70L1b,hg,hi,hw,Street.enc,NL.enc,Qc,hnm,hmd,p1,p2,p3];rfl,?_⟩
   simp only[go_sem])
  (λi x hx hP=>by
   have hg:=Z6 (f:=Street.enc) hx;have hi:=Zh<|Z7 hx;have hm:=ZSd hx;obtain⟨z1,z2,z3⟩:=hs.streets x hm;have hnm:=Hc x.Names.l x.Names.ex z1;have hmd:pfn rE 116 [I 2,.agg [I 0,I 0,I 0,I 0,I 0,.str x.Id,.str emp,.str emp,.isl false false 1 [],.isl false false 3 [],I 0,.str emp,I 0,I 0,I 0,I 0,.isl false x.Line.ex 2<|x.Line.l.map Pt.enc,.isl false false 7 []]]=some (.bool<|Q9 {Ju x with Kind:=2}):=Wg 2 (Ju x) ⟨ZS7 _,ZS7 _,z2,ZS7 _,z3,ZS7 _,ZS7 _⟩
   unfold Vp at hP;cases p1:QM x.Owner x.Ended 0 with
   |false=>
    refine⟨_,by simp only[go_sem,c70L1b,hg,hi,Street.enc,NL.enc,Qc,p1];rfl,?_⟩
    simp only[go_sem]
   |true=>
   cases p2:Jp x.Names.l x.Names.ex with
   |false=>
    refine⟨_,by simp only[go_sem,c70L1b,hg,hi,Street.enc,NL.enc,Qc,hnm,p1,p2];rfl,?_⟩
    simp only[go_sem]
   |true=>
    have p3:Q9 {Ju x with Kind:=2}=false:=by simpa[p1,p2]using hP
    refine⟨_,by simp only[go_sem,c70L1b,hg,hi,Street.enc,NL.enc,Qc,hnm,hmd,p1,p2,p3];rfl,?_⟩
    simp only[go_sem])
  (⟨_,by simp only[go_sem,c70L1b,ZG];rfl,by refine⟨?_,?_⟩<;>simp only[go_sem]⟩)
 exact L
def Z3f(s:Sta)(hs:StE s):∃fr',Zg rE [1,75,76,77] c70L2b [(1,stI s),(75,.isl false false 4<|s.Buildings.map Building.enc),(76,I s.Buildings.length),(77,.int .i64 0)] [] =
 some (if Zu (λ_ x=>Vq x) 0 s.Buildings=true then .exit 4 else .ret,fr',[])/\(Zu (λ_ x=>Vq x) 0 s.Buildings=true->get fr' 1=stI s/\get fr' 2=.bot)/\(Zu (λ_ x=>Vq x) 0 s.Buildings=false->get fr' 2=.bool false):=by
 have L:=QT (E:=rE) (live:=[1,75,76,77]) (b:=c70L2b) (h:=[]) s.Buildings (λ_ x=>Vq x)
  (λi=>[(1,stI s),(75,.isl false false 4<|s.Buildings.map Building.enc),(76,I s.Buildings.length),(77,I i)]) 4
  (λfr=>get fr 1=stI s/\get fr 2=.bot) (λfr=>get fr 2=.bool false) (λi=>rfl)
  (λi x hx hP=>by
   have hg:=Z6 (f:=Building.enc) hx;have hi:=Zh<|Z7 hx;have hw:=Zx (n:=i) (by have:=Z7 hx;have:=hs.sizes.buildings;omega)
   have hm:=ZSd hx;obtain⟨z2,z3⟩:=hs.buildings x hm;have hmd:pfn rE 116 [I 5,.agg [I 0,I 0,I 0,I 0,I 0,.str x.Id,.str emp,.str emp,.isl false false 1 [],.isl false false 3 [],I 0,.str emp,I 0,I 0,I 0,I 0,.isl false x.Ring.ex 2<|x.Ring.l.map Pt.enc,.isl false false 7 []]]=some (.bool<|Q9 {Jv x with Kind:=5}):=Wg 5 (Jv x) ⟨ZS7 _,ZS7 _,z2,ZS7 _,z3,ZS7 _,ZS7 _⟩
   simp only[Vq,ZS3]at hP;obtain⟨p1,p3⟩:=hP;refine⟨_,by simp only[go_sem,c70L2b,hg,hi,hw,Building.enc,NL.enc,Qc,hmd,p1,p3];rfl,?_⟩
   simp only[go_sem])
  (λi x hx hP=>by
   have hg:=Z6 (f:=Building.enc) hx;have hi:=Zh<|Z7 hx;have hm:=ZSd hx;obtain⟨z2,z3⟩:=hs.buildings x hm;have hmd:pfn rE 116 [I 5,.agg [I 0,I 0,I 0,I 0,I 0,.str x.Id,.str emp,.str emp,.isl false false 1 [],.isl false false 3 [],I 0,.str emp,I 0,I 0,I 0,I 0,.isl false x.Ring.ex 2<|x.Ring.l.map Pt.enc,.isl false false 7 []]]=some (.bool<|Q9 {Jv x with Kind:=5}):=Wg 5 (Jv x) ⟨ZS7 _,ZS7 _,z2,ZS7 _,z3,ZS7 _,ZS7 _⟩
   unfold Vq at hP;cases p1:QM x.Owner x.Ended 0 with
   |false=>
    refine⟨_,by simp only[go_sem,c70L2b,hg,hi,Building.enc,NL.enc,Qc,p1];rfl,?_⟩
    simp only[go_sem]
   |true=>
    have p3:Q9 {Jv x with Kind:=5}=false:=by simpa[p1]using hP
    refine⟨_,by simp only[go_sem,c70L2b,hg,hi,Building.enc,NL.enc,Qc,hmd,p1,p3];rfl,?_⟩
    simp only[go_sem])
  (⟨_,by simp only[go_sem,c70L2b,ZG];rfl,by refine⟨?_,?_⟩<;>simp only[go_sem]⟩)
 exact L
def Z3g(s:Sta)(hs:StE s):∃fr',Zg rE [1,98,99,100] c70L3b [(1,stI s),(98,.isl false false 16<|s.Doors.map Door.enc),(99,I s.Doors.length),(100,.int .i64 0)] [] =
 some (if Zu (Vr s) 0 s.Doors=true then .exit 6 else .ret,fr',[])/\(Zu (Vr s) 0 s.Doors=true->get fr' 1=stI s/\get fr' 2=.bot)/\(Zu (Vr s) 0 s.Doors=false->get fr' 2=.bool false):=by
 have L:=QT (E:=rE) (live:=[1,98,99,100]) (b:=c70L3b) (h:=[]) s.Doors (Vr s)
  (λi=>[(1,stI s),(98,.isl false false 16<|s.Doors.map Door.enc),(99,I s.Doors.length),(100,I i)]) 6
  (λfr=>get fr 1=stI s/\get fr 2=.bot) (λfr=>get fr 2=.bool false) (λi=>rfl)
  (λi x hx hP=>by
   have hg:=Z6 (f:=Door.enc) hx;have hi:=Zh<|Z7 hx;have hw:=Zx (n:=i) (by have:=Z7 hx;have:=hs.sizes.doors;omega)
   have hm:=ZSd hx;have hst:=Fs s hs.sizes i x (hs.doors x hm) hx;simp only[Vr,ZS3]at hP;obtain⟨p1,p3⟩:=hP;refine⟨_,by simp only[go_sem,c70L3b,hg,hi,hw,Door.enc,NL.enc,Qc,hst,p1,p3];rfl,?_⟩
   simp only[go_sem])
  (λi x hx hP=>by
   have hg:=Z6 (f:=Door.enc) hx;have hi:=Zh<|Z7 hx;have hm:=ZSd hx;have hst:=Fs s hs.sizes i x (hs.doors x hm) hx;unfold Vr at hP;cases p1:QM x.Owner x.Ended x.From with
   |false=>
    refine⟨_,by simp only[go_sem,c70L3b,hg,hi,Door.enc,NL.enc,Qc,p1];rfl,?_⟩
    simp only[go_sem]
   |true=>
    have p3:Hg s i x=false:=by simpa[p1]using hP
    refine⟨_,by simp only[go_sem,c70L3b,hg,hi,Door.enc,NL.enc,Qc,hst,p1,p3];rfl,?_⟩
    simp only[go_sem])
  (⟨_,by simp only[go_sem,c70L3b,ZG];rfl,by refine⟨?_,?_⟩<;>simp only[go_sem]⟩)
 exact L
def Z3h(s:Sta)(hs:StE s):∃fr',Zg rE [1,121,122,123] c70L4b [(1,stI s),(121,.isl false false 6<|s.Units.map Unit'.enc),(122,I s.Units.length),(123,.int .i64 0)] [] =
 some (if Zu (λ_ x=>Vs s x) 0 s.Units=true then .exit 8 else .ret,fr',[])/\(Zu (λ_ x=>Vs s x) 0 s.Units=true->get fr' 1=stI s/\get fr' 2=.bot)/\(Zu (λ_ x=>Vs s x) 0 s.Units=false->get fr' 2=.bool false):=by
 have L:=QT (E:=rE) (live:=[1,121,122,123]) (b:=c70L4b) (h:=[]) s.Units (λ_ x=>Vs s x)
  (λi=>[(1,stI s),(121,.isl false false 6<|s.Units.map Unit'.enc),(122,I s.Units.length),(123,I i)]) 8
  (λfr=>get fr 1=stI s/\get fr 2=.bot) (λfr=>get fr 2=.bool false) (λi=>rfl)
  (λi x hx hP=>by
   have hg:=Z6 (f:=Unit'.enc) hx;have hi:=Zh<|Z7 hx;have hw:=Zx (n:=i) (by have:=Z7 hx;have:=hs.sizes.units;omega)
   have hm:=ZSd hx;obtain⟨z1,z2,z3⟩:=hs.units x hm;have hf:=find_ok s hs.sizes x.Door;have hmd:pfn rE 116 [I 7,.agg [I 0,I 0,I 0,I 0,I 0,.str x.Id,.str x.Door,.str x.Text,.isl false false 1 [],.isl false false 3 [],I 0,.str emp,I 0,I 0,I 0,I 0,.isl false false 2 [],.isl false false 7 []]]=some (.bool<|Q9 {Vn x with Kind:=7}):=Wg 7 (Vn x) ⟨ZS7 _,ZS7 _,ZS7 _,ZS7 _,z1,z2,z3⟩
   unfold Vs at hP;have p0:decide (Zn s x.Door<0)=false:=by cases h:decide (Zn s x.Door<0)<;>simp_all
   have p1:QM 0 x.Ended x.From=true:=by cases h:QM 0 x.Ended x.From<;>simp_all
   have p2:Q9 {Vn x with Kind:=7}=true:=by cases h:Q9 {Vn x with Kind:=7}<;>simp_all
   have p3:Jw s x=false:=by cases h:Jw s x<;>simp_all
   obtain⟨j,y,hj,hy⟩:=QC p0;have hj':Zn s x.Door=(j:Int):=hj;have gy:=Z6 (f:=Door.enc) hy;have hdE:QN s (Zn s x.Door)=y.Ended:=by rw[hj'];simp[QN,hy]
   unfold Jw at p3;rw[hdE]at p3;rw[hj']at hf p0;have ne:(x.Ended != -1) = !(x.Ended==-1):=rfl;rw[ne]at p3;cases q1:x.Ended==-1 with
   |true=>
    have ne':(x.Ended != -1)=false:=by rw[ne,q1];rfl
    have q2:(x.Why != 0)=false:=by cases h:x.Why != 0<;>simp_all
    have q3:(y.Ended != -1)=false:=by cases h:y.Ended != -1<;>simp_all
    refine⟨_,by simp only[go_sem,c70L4b,hg,hi,hw,gy,Unit'.enc,Door.enc,NL.enc,Qc,hf,hmd,p0,p1,p2,q1,q2,q3,ne'];rfl,?_⟩
    simp only[go_sem]
   |false=>
    have ne':(x.Ended != -1)=true:=by rw[ne,q1];rfl
    cases q4:x.Why != 12 with
    |false=>
     refine⟨_,by simp only[go_sem,c70L4b,hg,hi,hw,Unit'.enc,Qc,hf,hmd,p0,p1,p2,q1,ne',q4];rfl,?_⟩
     simp only[go_sem]
    |true=>
     have q5:(x.Why != 11)=false:=by cases h:x.Why != 11<;>simp_all
     refine⟨_,by simp only[go_sem,c70L4b,hg,hi,hw,Unit'.enc,Qc,hf,hmd,p0,p1,p2,q1,ne',q4,q5];rfl,?_⟩
     simp only[go_sem])
  (λi x hx hP=>by
   have hg:=Z6 (f:=Unit'.enc) hx;have hi:=Zh<|Z7 hx;have hm:=ZSd hx;obtain⟨z1,z2,z3⟩:=hs.units x hm;have hf:=find_ok s hs.sizes x.Door;have hmd:pfn rE 116 [I 7,.agg [I 0,I 0,I 0,I 0,I 0,.str x.Id,.str x.Door,.str x.Text,.isl false false 1 [],.isl false false 3 [],I 0,.str emp,I 0,I 0,I 0,I 0,.isl false false 2 [],.isl false false 7 []]]=some (.bool<|Q9 {Vn x with Kind:=7}):=Wg 7 (Vn x) ⟨ZS7 _,ZS7 _,ZS7 _,ZS7 _,z1,z2,z3⟩
   unfold Vs at hP;cases p0:decide (Zn s x.Door<0)with
   |true=>
    refine⟨_,by simp only[go_sem,c70L4b,hg,hi,Unit'.enc,hf,p0];rfl,?_⟩
    simp only[go_sem]
   |false=>
   cases p1:QM 0 x.Ended x.From with
   |false=>
    refine⟨_,by simp only[go_sem,c70L4b,hg,hi,Unit'.enc,hf,p0,Qc,p1];rfl,?_⟩
    simp only[go_sem]
   |true=>
   cases p2:Q9 {Vn x with Kind:=7}with
   |false=>
    refine⟨_,by simp only[go_sem,c70L4b,hg,hi,Unit'.enc,hf,p0,Qc,p1,hmd,p2];rfl,?_⟩
    simp only[go_sem]
   |true=>
   have p3:Jw s x=true:=by simpa[p0,p1,p2]using hP
   obtain⟨j,y,hj,hy⟩:=QC p0;have hj':Zn s x.Door=(j:Int):=hj;have gy:=Z6 (f:=Door.enc) hy;have hdE:QN s (Zn s x.Door)=y.Ended:=by rw[hj'];simp[QN,hy]
   unfold Jw at p3;rw[hdE]at p3;rw[hj']at hf p0;have ne:(x.Ended != -1) = !(x.Ended==-1):=rfl;rw[ne]at p3;cases q1:x.Ended==-1 with
   |true=>
    have ne':(x.Ended != -1)=false:=by rw[ne,q1];rfl
    cases q2:x.Why != 0 with
    |true=>
     refine⟨_,by simp only[go_sem,c70L4b,hg,hi,Unit'.enc,Qc,hf,hmd,p0,p1,p2,q1,q2];rfl,?_⟩
     simp only[go_sem]
    |false=>
     have q3:(y.Ended != -1)=true:=by simpa[q1,q2]using p3
     refine⟨_,by simp only[go_sem,c70L4b,hg,hi,gy,Unit'.enc,Door.enc,NL.enc,Qc,hf,hmd,p0,p1,p2,q1,q2,q3];rfl,?_⟩
     simp only[go_sem]
   |false=>
    have ne':(x.Ended != -1)=true:=by rw[ne,q1];rfl
    have q4:(x.Why != 12)=true:=by cases h:x.Why != 12<;>simp_all
    have q5:(x.Why != 11)=true:=by cases h:x.Why != 11<;>simp_all
    refine⟨_,by simp only[go_sem,c70L4b,hg,hi,Unit'.enc,Qc,hf,hmd,p0,p1,p2,q1,ne',q4,q5];rfl,?_⟩
    simp only[go_sem])
  (⟨_,by simp only[go_sem,c70L4b,ZG];rfl,by refine⟨?_,?_⟩<;>simp only[go_sem]⟩)
 exact L
def Z3i(s:Sta)(hs:StE s):pfn rE 70 [stA s]=some (.bool<|Jx s):=by
 obtain⟨f0,a0,b0,d0⟩:=Z3d s hs;obtain⟨f1,a1,b1,d1⟩:=Z3e s hs;obtain⟨f2,a2,b2,d2⟩:=Z3f s hs;obtain⟨f3,a3,b3,d3⟩:=Z3g s hs;obtain⟨f4,a4,b4,d4⟩:=Z3h s hs;rw[QE]at a0 b0 d0 a1 b1 d1 a2 b2 d2 a4 b4 d4;have hi:=Fd s hs.sizes;have hso:=Fj (Qp s) false (by have h1:=hs.sizes.regions;have h2:=hs.sizes.streets;have h3:=hs.sizes.buildings;have h4:=hs.sizes.doors;have h5:=hs.sizes.units;simp[Qp];omega)
 have hn:=Fk s hs.sizes;have hp:=Z31 s hs.sizes;rw[Z5 (f:=70) rfl rfl];unfold Jx;cases c0:s.Regions.all Vo with
 |false=>rw[c0]at a0;simp only[go_sem,c70,c70L0,a0,d0 c0,ZSi]
 |true=>
 rw[c0,if_pos rfl]at a0;obtain⟨p0,q0⟩:=b0 c0;cases c1:s.Streets.all Vp with
 |false=>rw[c1]at a1;simp only[go_sem,c70,c70L0,c70L1,a0,p0,q0,a1,d1 c1,ZSi]
 |true=>
 rw[c1,if_pos rfl]at a1;obtain⟨p1,q1⟩:=b1 c1;cases c2:s.Buildings.all Vq with
 |false=>rw[c2]at a2;simp only[go_sem,c70,c70L0,c70L1,c70L2,a0,p0,q0,a1,p1,q1,a2,d2 c2,ZSi]
 |true=>
 rw[c2,if_pos rfl]at a2;obtain⟨p2,q2⟩:=b2 c2;cases c5003:Zu (Vr s) 0 s.Doors with
 |false=>rw[c5003]at a3;simp only[go_sem,c70,c70L0,c70L1,c70L2,c70L3,a0,p0,q0,a1,p1,q1,a2,p2,q2,a3,d3 c5003,ZSi]
 |true=>
 rw[c5003,if_pos rfl]at a3;obtain⟨p3,q3⟩:=b3 c5003;cases c5004:s.Units.all (Vs s)with
 |false=>rw[c5004]at a4;simp only[go_sem,c70,c70L0,c70L1,c70L2,c70L3,c70L4,a0,p0,q0,a1,p1,q1,a2,p2,q2,a3,p3,q3,a4,d4 c5004,ZSi]
 |true=>
 rw[c5004,if_pos rfl]at a4;obtain⟨p4,q4⟩:=b4 c5004;cases c5005:Jq (Qp s)<;>cases c5006:Wh s.Doors<;>rw[c5005]at hso<;>rw[c5006]at hn<;>
  simp only[go_sem,c70,c70L0,c70L1,c70L2,c70L3,c70L4,a0,p0,q0,a1,p1,q1,a2,p2,q2,a3,p3,q3,a4,p4,q4,hi,hso,hn,hp]
def Z3j(a0 a1 a2 a3:AObj)(b:Bool):trimB 4 [a0,a1,a2,a3] b=[a0,a1,a2,a3]:=by cases b<;>rfl
def Z3k(a0 a1 a2 a3 a4:AObj)(b:Bool):trimB 5 [a0,a1,a2,a3,a4] b=[a0,a1,a2,a3,a4]:=by cases b<;>rfl
def Z3l(a0 a1 a2 a3 a4 a5:AObj)(b:Bool):trimB 6 [a0,a1,a2,a3,a4,a5] b=[a0,a1,a2,a3,a4,a5]:=by cases b<;>rfl
def Z3m(a0 a1 a2 a3 a4 a5 a6:AObj)(b:Bool):trimB 7 [a0,a1,a2,a3,a4,a5,a6] b=[a0,a1,a2,a3,a4,a5,a6]:=by cases b<;>rfl
def Z3n(a0 a1 a2 a3 a4 a5 a6 a7:AObj)(b:Bool):trimB 8 [a0,a1,a2,a3,a4,a5,a6,a7] b=[a0,a1,a2,a3,a4,a5,a6,a7]:=by cases b<;>rfl
attribute [go_sem] Z3j Z3k Z3l Z3m Z3n
structure Wk where
 s:Sta
 owner:Int
 e:Event
 kn:List Str
abbrev wkC(w:Wk):List AV:=[.isl false false 6<|w.s.Regions.map Region.enc,.isl false false 5<|w.s.Streets.map Street.enc,.isl false false 4<|w.s.Buildings.map Building.enc,.isl false false 16<|w.s.Doors.map Door.enc,
 .isl false false 6 (w.s.Units.map Unit'.enc),.isl false false 2<|w.s.Merged.map Pair.enc,.isl false false 2<|w.s.Rulings.map Pair.enc,I w.owner,
 I w.e.Kind,I w.e.Day,I w.e.A,I w.e.B,I w.e.Office,.str w.e.Id,.str w.e.Other,.str w.e.Text,.isl false w.e.Ids.ex 1<|w.e.Ids.l.map encS,.isl false w.e.Names.ex 3<|w.e.Names.l.map Nm.enc,
 I w.e.Number.N,.str w.e.Number.Letter,I w.e.Number.Num,I w.e.Number.Den,I w.e.Point.X,I w.e.Point.Y,.isl false w.e.Path.ex 2<|w.e.Path.l.map Pt.enc,.isl false w.e.Lst.ex 7<|w.e.Lst.l.map Ent.enc,
 .isl false false 1 (w.kn.map encS)]
abbrev wH(o0 o1:AObj)(w:Wk):Hp:=[o0,o1,.row 27 [.agg<|wkC w]]
structure WkS(w:Wk):Prop where
 s:StS w.s
 e:EvS w.e
 kn:w.kn.length<=100000
def Z3o(b i off g:Nat):Zy (.ptr b i off g)=false:=(rfl)
def Z3p(b g off len:Nat)(ex:Bool):Zy (.sl b g off len ex)=false:=(rfl)
def Z3q(b:Nat):Zy (.mp b)=false:=(rfl)
attribute [go_sem] Z3o Z3p Z3q
def Z3r(n:Nat):bounds none (some<|I n) (some<|I n) n=some (0,n,some n):=by
 simp[bounds,Vz,Wl,VA,numOf,VB,Ue]
def clC(sz:Nat):ACode:=
 .seq (.region [o 2<|.mv<|.c<|.isl false false sz []])<|
 .seq (.keep [2]<|.region [o 3<|.mv<|.t 0,o 4<|.mv<|.t 0,o 5<|.len 1<|.t 4,o 6<|.mv<|.t 0,o 7<|.len 1<|.t 6,o 8<|.slc sz (.t 3) none (some<|.t 5)<|some<|.t 7,o 2<|.mv<|.t 8])<|
 .ret
def Jy{sz f:Nat}(hs:rE.sum f=none)(hf:rE.fn f=some ⟨[.tmp 2],clC sz⟩)(ex:Bool)(es:List AV):pfn rE f [.isl false ex sz es]=some (.isl false true sz es):=by
 have hb:=Z3r es.length;have ht:List.take (es.length-0) es=es:=ZSk<|by omega
 have hm:(match some es.length with|none=>ex&&es.length==es.length|some m=>m==es.length)=true:=by simp
 rw[Z5 (f:=f) hs hf];simp only[go_sem,clC,hb,hm,ht]
def Z3s(es:List AV):pfn rE 124 [.isl false false 6 es]=some (.isl false true 6 es):=Jy rfl rfl false es
def Z3t(es:List AV):pfn rE 127 [.isl false false 5 es]=some (.isl false true 5 es):=Jy rfl rfl false es
def Z3u(es:List AV):pfn rE 134 [.isl false false 4 es]=some (.isl false true 4 es):=Jy rfl rfl false es
def Ft(es:List AV):pfn rE 208 [.isl false false 16 es]=some (.isl false true 16 es):=Jy rfl rfl false es
def Z3v(es:List AV):pfn rE 137 [.isl false false 6 es]=some (.isl false true 6 es):=Jy rfl rfl false es
def Fu(es:List AV):pfn rE 154 [.isl false false 2 es]=some (.isl false true 2 es):=Jy rfl rfl false es
def Vt{h:Hp}{aid sz bytes:Nat}{es ys:List AV}{bw bw2 ex:Bool}(hy:ys.isEmpty=false)(h0:0<sz)(h1:0<bytes)(h2:(es.length+ys.length)*bytes<=140737488355328)(hc:Z4 (es++ys)=true):
 Qt h aid true sz bytes (.isl bw true sz es) (.isl bw2 ex sz ys)=some (.isl false false sz<|es++ys,[],none):=by
 simp only[Qt,Q2,Qq,beq_self_eq_true,ZSe,h0,h1,h2,and_self,if_true,hy,cond_false,Yp,Zs,ZSf,cond_true,hc]
def chC(sz f:Nat):ACode:=
 .seq (.region [o 6<|.mv<|.c<|.isl false false sz []])<|
 .seq (.keep [1,2,7]<|.region [o 8<|.rel<|.t 0,o 9<|.call false f [(.t 8)],o 7<|.mv<|.t 9])<|
 .seq (.keep [7]<|.region [o 10<|.mv<|.t 2,o 11<|.mv<|.t 7,o 12<|.mv<|.t 1,o 13<|.iadr sz (.t 11)<|.t 12,o 14<|.callv false (.t 10) [(.t 13)]])<|
 .seq (.region [o 15<|.mv<|.t 7,o 6<|.mv<|.t 15])<|
 .ret
def Xj{α:Type}{f:α->AV}{sz:Nat}(h:∀x,fits sz (f x)=true)(l:List α):(l.map f).all (fits sz)=true:=by
 rw[ZTq,ZSj];intro x _;exact h x
def Xk{sz f g fc:Nat}(hs:rE.sum fc=none)(hf:rE.fn fc=some ⟨[.tmp 6],chC sz f⟩)(hcl:rE.sum f=some (ZOf sz))(es es' cap:List AV)(v:AV)(ex:Bool)(k:Nat)(hk:k<es.length)(hfit:es.all (fits sz)=true)(hle:es.length<=1000000)
 (h2:fnV rE g (.ptr 0 k 0 es.length::cap) [.row sz es]=some (v,[.row sz es'])) (hl:es'.length=es.length) (hc:Z4 es'=true):
 pfn rE fc [.isl false ex sz es,I k,.clo (.func g) [] cap]=some (.isl false false sz es'):=by
 have h1:fnV rE f [.isl false ex sz es] []=some (.sl 0 es.length 0 es.length false,[.row sz es]):=by
  have hble:Nat.ble es.length 1000000=true:=ZT1 hle;have hne:es.isEmpty=false:=by cases es with|nil=>simp at hk|cons a r=>rfl
  rw[V8 hcl];simp only[ZOf,Q2,Qq,hfit,hble,hne,beq_self_eq_true,ZSe,ZSB,ZSs,cond_true,ZSa,ZSV]
 have hlt:(0<=(k:Int)/\(k:Int)<(es.length:Int)):=by omega
 have hia:iaP 0 es.length 0 sz (k:Int) es.length (some (sz,es))=some (.ptr 0 k 0 es.length):=by
  rw[VT _ _ _ _ _ _ _ hlt];simp
 have ht:List.take es.length es'=es':=ZSk<|by omega
 rw[Z5 (f:=fc) hs hf];simp only[go_sem,chC,h1,hia,RL,h2,beq_self_eq_true,hl,ht,hc]
def twB(w:Wk)(id:Str):Bool:=w.kn.any<|λx=>Z3 id x
def Wj(w:Wk)(hw:WkS w)(id:Str):pfn rE 123 [.iptr true<|wkC w,.str id]=some (.bool<|twB w id):=by
 have h:=Nz (f:=237) (enc:=encS) (p:=λx=>Z3 id x) (v:=.str id) rfl rfl w.kn (by have:=hw.kn;omega) (λx _=>rfl) rfl (λx _=>rfl) false false
 have h2:pfn rE 188 [.isl false false 1<|w.kn.map encS,.str id]=some (.bool<|w.kn.any<|λx=>Z3 id x):=by
  rw[Z5 (f:=188) rfl rfl,<-Vg];unfold WG;simp only[go_sem,c188,h]
 rw[Z5 (f:=123) rfl rfl];unfold twB;simp only[go_sem,c123,h2]
def NP(w:Wk):Street:=⟨w.e.Id,w.owner,w.e.Path,⟨false,[]⟩,-1⟩
def NQ(w:Wk):Building:=⟨w.e.Id,w.owner,w.e.Path,-1⟩
def Jz(w:Wk):Wk:={w with s:={w.s with Streets:=w.s.Streets++[NP w]}}
def JA(w:Wk):Wk:={w with s:={w.s with Buildings:=w.s.Buildings++[NQ w]}}
def Hh(w:Wk):Wk:={w with s:={w.s with Rulings:=w.s.Rulings++[⟨w.e.A,w.e.B⟩]}}
def Z3w(o0 o1:AObj)(w:Wk)(hw:WkS w):∃t,fnV rE 73 [.ptr 2 0 0 1] (wH o0 o1 w)=some (I<|bif twB w w.e.Id then 8 else 0,wH o0 o1 (bif twB w w.e.Id then w else Jz w)++t):=by
 have htw:=Wj w hw w.e.Id;have hcs:Z4 (w.s.Streets.map Street.enc)=true:=Zw (λt=>rfl) _
 have ha:=λ(h:Hp)(aid:Nat)=>Vt (h:=h) (aid:=aid) (sz:=5) (bytes:=80) (es:=w.s.Streets.map Street.enc) (ys:=[.agg [.str w.e.Id,I w.owner,.isl false w.e.Path.ex 2<|w.e.Path.l.map Pt.enc,.isl false false 3 [],I<|-1]]) (bw:=false) (bw2:=false) (ex:=false) rfl (by omega) (by omega) (by have:=hw.s.streets;simp;omega) (by simp only[XA,hcs];rfl)
 rw[Q6 (f:=73) rfl rfl];cases c:twB w w.e.Id with
 |true=>
  rw[c]at htw;refine⟨[],?_⟩;simp only[go_sem,c73,htw,ZSf]
 |false=>
  rw[c]at htw;refine⟨[],?_⟩;simp only[go_sem,c73,htw,Z3t,wrB,appW,ha,ZM,ZH,Jz,NP,ZSm,wH,wkC,Street.enc,NL.enc,ZSf]
def Z3x(o0 o1:AObj)(w:Wk)(hw:WkS w):∃t,fnV rE 76 [.ptr 2 0 0 1] (wH o0 o1 w)=some (I<|bif twB w w.e.Id then 8 else 0,wH o0 o1 (bif twB w w.e.Id then w else JA w)++t):=by
 have htw:=Wj w hw w.e.Id;have hcs:Z4 (w.s.Buildings.map Building.enc)=true:=Zw (λt=>rfl) _
 have ha:=λ(h:Hp)(aid:Nat)=>Vt (h:=h) (aid:=aid) (sz:=4) (bytes:=56) (es:=w.s.Buildings.map Building.enc) (ys:=[.agg [.str w.e.Id,I w.owner,.isl false w.e.Path.ex 2<|w.e.Path.l.map Pt.enc,I<|-1]]) (bw:=false) (bw2:=false) (ex:=false) rfl (by omega) (by omega) (by have:=hw.s.buildings;simp;omega) (by simp only[XA,hcs];rfl)
 rw[Q6 (f:=76) rfl rfl];cases c:twB w w.e.Id with
 |true=>
  rw[c]at htw;refine⟨[],?_⟩;simp only[go_sem,c76,htw,ZSf]
 |false=>
  rw[c]at htw;refine⟨[],?_⟩;simp only[go_sem,c76,htw,Z3u,wrB,appW,ha,ZM,ZH,JA,NQ,ZSm,wH,wkC,Building.enc,NL.enc,ZSf]
def Z3y(o0 o1:AObj)(w:Wk)(hw:WkS w):∃t,fnV rE 85 [.ptr 2 0 0 1] (wH o0 o1 w)=some (I 0,wH o0 o1 (Hh w)++t):=by
 have hcs:Z4 (w.s.Rulings.map Pair.enc)=true:=Zw (λt=>rfl) _
 have ha:=λ(h:Hp)(aid:Nat)=>Vt (h:=h) (aid:=aid) (sz:=2) (bytes:=16) (es:=w.s.Rulings.map Pair.enc) (ys:=[.agg [I w.e.A,I w.e.B]]) (bw:=false) (bw2:=false) (ex:=false) rfl (by omega) (by omega) (by have:=hw.s.rulings;simp;omega) (by simp only[XA,hcs];rfl)
 rw[Q6 (f:=85) rfl rfl];refine⟨[],?_⟩;simp only[go_sem,c85,Fu,wrB,appW,ha,ZM,ZH,Hh,ZSm,wH,wkC,Pair.enc,ZSf]
def NR(w:Wk):Unit':=⟨w.e.Id,w.e.Other,w.e.Text,w.e.Day,-1,0⟩
def JB(w:Wk):Int:=bif twB w w.e.Id then 8 else bif decide (Zn w.s w.e.Other<0)then 10 else bif QN w.s (Zn w.s w.e.Other) != -1 then 11 else 0
def JC(w:Wk):Wk:={w with s:={w.s with Units:=w.s.Units++[NR w]}}
def Z3z(o0 o1:AObj)(w:Wk)(hw:WkS w):∃t,fnV rE 78 [.ptr 2 0 0 1] (wH o0 o1 w)=some (I<|JB w,wH o0 o1 (bif JB w==0 then JC w else w)++t):=by
 have htw:=Wj w hw w.e.Id;have hf:=find_ok w.s hw.s w.e.Other;have hcs:Z4 (w.s.Units.map Unit'.enc)=true:=Zw (λt=>rfl) _
 have ha:=λ(h:Hp)(aid:Nat)=>Vt (h:=h) (aid:=aid) (sz:=6) (bytes:=72) (es:=w.s.Units.map Unit'.enc) (ys:=[.agg [.str w.e.Id,.str w.e.Other,.str w.e.Text,I w.e.Day,I<|-1,I 0]]) (bw:=false) (bw2:=false) (ex:=false) rfl (by omega) (by omega) (by have:=hw.s.units;simp;omega) (by simp only[XA,hcs];rfl)
 have z8:((8:Int)==0)=false:=rfl;have z10:((10:Int)==0)=false:=rfl;have z11:((11:Int)==0)=false:=rfl;have z0:((0:Int)==0)=true:=rfl;rw[Q6 (f:=78) rfl rfl];unfold JB;refine⟨[],?_⟩;cases c:twB w w.e.Id with
 |true=>
  rw[c]at htw;simp only[go_sem,c78,htw,hf,z8,ZSf]
 |false=>
 rw[c]at htw;cases c1:decide (Zn w.s w.e.Other<0)with
 |true=>simp only[go_sem,c78,htw,hf,c1,z10,ZSf]
 |false=>
 obtain⟨j,y,hj,hy⟩:=QC c1;have hj':Zn w.s w.e.Other=(j:Int):=hj;have gy:=Z6 (f:=Door.enc) hy;have hdE:QN w.s (Zn w.s w.e.Other)=y.Ended:=by rw[hj'];simp[QN,hy]
 rw[hdE];rw[hj']at hf c1;cases c2:y.Ended != -1 with
 |true=>simp only[go_sem,c78,htw,hf,c1,gy,Door.enc,NL.enc,c2,z11,ZSf]
 |false=>simp only[go_sem,c78,htw,hf,c1,gy,Door.enc,NL.enc,c2,z0,Z3v,wrB,appW,ha,ZM,ZH,JC,NR,ZSm,wH,wkC,Unit'.enc,ZSf]
def Xl(w:Wk)(d:Door):Door:={d with Owner:=w.owner,From:=w.e.Day,Ended:=-1}
def Qw(w:Wk)(d:Door):Wk:={w with s:={w.s with Doors:=w.s.Doors++[Xl w d]}}
def Fv(o0 o1:AObj)(w:Wk)(hw:WkS w)(d:Door)(t:Hp)(ht:t=[]\/(∃x,t=[x])\/(∃x y,t=[x,y])\/∃x y z,t=[x,y,z]):
 ∃q,fnV rE 136 [.ptr 2 0 0 1,Zo d] (wH o0 o1 w++t)=some (.tup [],wH o0 o1 (Qw w d)++t++[q])/\∀n,Zj n q=true:=by
 have hcs:Z4 (w.s.Doors.map Door.enc)=true:=Zw (λt=>rfl) _
 have ha:=λ(h:Hp)(aid:Nat)=>Vt (h:=h) (aid:=aid) (sz:=16) (bytes:=184) (es:=w.s.Doors.map Door.enc) (ys:=[Zo<|Xl w d]) (bw:=false) (bw2:=false) (ex:=false) rfl (by omega) (by omega) (by have:=hw.s.doors;simp;omega) (by simp only[XA,hcs];rfl)
 refine⟨.row 16 [Zo<|Xl w d],?_,λn=>rfl⟩
 unfold Zo Xl at ha⊢;simp only at ha⊢;rw[Q6 (f:=136) rfl rfl];rcases ht with rfl|⟨x,rfl⟩|⟨x,y,rfl⟩|⟨x,y,z,rfl⟩<;>
  simp only[go_sem,c136,Ft,wrB,appW,ha,ZM,ZH,Qw,Xl,ZSm,wH,wkC,Door.enc,NL.enc,ZSf]
def UD(w:Wk):Door:=⟨w.e.Id,emp,emp,0,⟨0,emp,0,0⟩,⟨0,0⟩,0,0,⟨false,[]⟩,0,w.e.Office,w.e.Text⟩
def UE(w:Wk):Door:=⟨w.e.Id,w.e.Other,w.e.Text,0,w.e.Number,w.e.Point,0,0,⟨false,[]⟩,0,0,emp⟩
def Z3A(o0 o1:AObj)(h0:∀n,Zj n o0=true)(h1:∀n,Zj n o1=true)(w:Wk)(hw:WkS w):∃t,fnV rE 86 [.ptr 2 0 0 1] (wH o0 o1 w)=some (I<|bif twB w w.e.Id then 8 else 0,wH o0 o1 (bif twB w w.e.Id then w else Qw w<|UD w)++t):=by
 have htw:=Wj w hw w.e.Id;obtain⟨q,ho,hq⟩:=Fv o0 o1 w hw (UD w) []<|Or.inl rfl;rw[ZSf,ZSf]at ho;have ho':fnV rE 136 [.ptr 2 0 0 1,.agg [.str w.e.Id,.str emp,.str emp,I 0,I 0,.str emp,I 0,I 0,I 0,I 0,I 0,I 0,.isl false false 1 [],I 0,I w.e.Office,.str w.e.Text]] (wH o0 o1 w)=_:=ho;rw[Q6 (f:=86) rfl rfl];refine⟨[],?_⟩;cases c:twB w w.e.Id with
 |true=>
  rw[c]at htw;simp only[go_sem,c86,htw,ZSf]
 |false=>
  rw[c]at htw;simp only[go_sem,c86,htw,ho',wH,h0,h1,ZSf]
def JD(w:Wk):Int:=bif twB w w.e.Id then 8 else bif decide (Y1 w.s w.e.Other<0)||decide (ZL w.s w.e.Text<0)then 10 else bif WL w.s (Y1 w.s w.e.Other) != -1||QF w.s (ZL w.s w.e.Text) != -1 then 11 else 0
def Z3B(o0 o1:AObj)(h0:∀n,Zj n o0=true)(h1:∀n,Zj n o1=true)(w:Wk)(hw:WkS w):∃t,fnV rE 77 [.ptr 2 0 0 1] (wH o0 o1 w)=some (I<|JD w,wH o0 o1 (bif JD w==0 then Qw w (UE w)else w)++t):=by
 have htw:=Wj w hw w.e.Id;have hb:=Hb w.s hw.s w.e.Other;have ht:=K7 w.s hw.s w.e.Text;obtain⟨q,ho,hq⟩:=Fv o0 o1 w hw (UE w) []<|Or.inl rfl;rw[ZSf,ZSf]at ho;have ho':fnV rE 136 [.ptr 2 0 0 1,.agg [.str w.e.Id,.str w.e.Other,.str w.e.Text,I 0,I w.e.Number.N,.str w.e.Number.Letter,I w.e.Number.Num,I w.e.Number.Den,I w.e.Point.X,I w.e.Point.Y,I 0,I 0,.isl false false 1 [],I 0,I 0,.str emp]] (wH o0 o1 w)=_:=ho;have z8:((8:Int)==0)=false:=rfl;have z10:((10:Int)==0)=false:=rfl;have z11:((11:Int)==0)=false:=rfl;have z0:((0:Int)==0)=true:=rfl;rw[Q6 (f:=77) rfl rfl];unfold JD;refine⟨[],?_⟩;cases c:twB w w.e.Id with
 |true=>rw[c]at htw;simp only[go_sem,c77,htw,hb,ht,z8,ZSf]
 |false=>
 rw[c]at htw;cases c1:decide (Y1 w.s w.e.Other<0)with
 |true=>simp only[go_sem,c77,htw,hb,ht,c1,z10,ZSf]
 |false=>
 cases c2:decide (ZL w.s w.e.Text<0)with
 |true=>simp only[go_sem,c77,htw,hb,ht,c1,c2,z10,ZSf]
 |false=>
 obtain⟨j,x,hj,hx⟩:=QC c1;obtain⟨k,y,hk,hy⟩:=QC c2;have hj':Y1 w.s w.e.Other=(j:Int):=hj;have hk':ZL w.s w.e.Text=(k:Int):=hk;have hbE:WL w.s (Y1 w.s w.e.Other)=x.Ended:=by rw[hj'];simp[WL,hx]
 have hsE:QF w.s (ZL w.s w.e.Text)=y.Ended:=by rw[hk'];simp[QF,hy]
 have gx:=Z6 (f:=Building.enc) hx;have gy:=Z6 (f:=Street.enc) hy;rw[hbE,hsE];rw[hj']at hb c1;rw[hk']at ht c2;cases c5003:x.Ended != -1 with
 |true=>simp only[go_sem,c77,htw,hb,ht,c1,c2,gx,Building.enc,NL.enc,c5003,z11,ZSf]
 |false=>
 cases c5004:y.Ended != -1 with
 |true=>simp only[go_sem,c77,htw,hb,ht,c1,c2,gx,gy,Building.enc,Street.enc,NL.enc,c5003,c5004,z11,ZSf]
 |false=>simp only[go_sem,c77,htw,hb,ht,c1,c2,gx,gy,Building.enc,Street.enc,NL.enc,c5003,c5004,z0,ho',h0,h1,ZSf]
def ZK{α:Type}(l:List α)(k:Nat)(f:α->α):List α:=match l[k]? with|some x=>l.set k (f x)|none=>l
def YA{α:Type}{l:List α}{k:Nat}{x:α}(h:l[k]?=some x)(f:α->α):ZK l k f=l.set k (f x):=by simp[ZK,h]
def NS(p:NL Pt)(x:Region):Region:={x with Ring:=p}
def NT(p:NL Nm)(x:Region):Region:={x with Names:=p}
def XN(p:NL Nm)(x:Street):Street:={x with Names:=p}
def Z3C(w:Wk)(l:List Region)(k:Nat)(x:Region)(hx:l[k]?=some x)(hle:l.length<=1000000):pfn rE 125 [.isl false false 6<|l.map Region.enc,I k,.clo (.func 126) [] [.iptr true [.iptr true<|wkC w]]]=some (.isl false false 6<|(ZK l k<|NS w.e.Path).map Region.enc):=by
 have hk:=Z7 hx;have hg:=Z6 (f:=Region.enc) hx;rw[YA hx,ZSw];refine Xk (sz:=6) (f:=202) rfl rfl rfl _ _ _ (.tup []) false k (by simpa using hk) (Xj (λ_=>rfl) _) (by simpa using hle) ?_ (by simp) ?_
 .rw[Q6 (f:=126) rfl rfl];simp only[go_sem,c126,beq_self_eq_true,hg,Region.enc,NL.enc,NS]
 .rw[<-ZSw];exact Zw (λt=>rfl) _
def Z3D(w:Wk)(l:List Region)(k:Nat)(x:Region)(hx:l[k]?=some x)(hle:l.length<=1000000):pfn rE 125 [.isl false false 6<|l.map Region.enc,I k,.clo (.func 129) [] [.iptr true [.iptr true<|wkC w]]]=some (.isl false false 6<|(ZK l k<|NT w.e.Names).map Region.enc):=by
 have hk:=Z7 hx;have hg:=Z6 (f:=Region.enc) hx;rw[YA hx,ZSw];refine Xk (sz:=6) (f:=202) rfl rfl rfl _ _ _ (.tup []) false k (by simpa using hk) (Xj (λ_=>rfl) _) (by simpa using hle) ?_ (by simp) ?_
 .rw[Q6 (f:=129) rfl rfl];simp only[go_sem,c129,beq_self_eq_true,hg,Region.enc,NL.enc,NT]
 .rw[<-ZSw];exact Zw (λt=>rfl) _
def Z3E(w:Wk)(l:List Street)(k:Nat)(x:Street)(hx:l[k]?=some x)(hle:l.length<=1000000):pfn rE 130 [.isl false false 5<|l.map Street.enc,I k,.clo (.func 131) [] [.iptr true [.iptr true<|wkC w]]]=some (.isl false false 5<|(ZK l k<|XN w.e.Names).map Street.enc):=by
 have hk:=Z7 hx;have hg:=Z6 (f:=Street.enc) hx;rw[YA hx,ZSw];refine Xk (sz:=5) (f:=205) rfl rfl rfl _ _ _ (.tup []) false k (by simpa using hk) (Xj (λ_=>rfl) _) (by simpa using hle) ?_ (by simp) ?_
 .rw[Q6 (f:=131) rfl rfl];simp only[go_sem,c131,beq_self_eq_true,hg,Street.enc,NL.enc,XN]
 .rw[<-ZSw];exact Zw (λt=>rfl) _
def Z3F(p:NL Nm)(l:List Street)(k:Nat)(x:Street)(hx:l[k]?=some x)(hle:l.length<=1000000):pfn rE 130 [.isl false false 5<|l.map Street.enc,I k,.clo (.func 132) [] [.iptr true [.isl false p.ex 3<|p.l.map Nm.enc]]]=some (.isl false false 5<|(ZK l k<|XN p).map Street.enc):=by
 have hk:=Z7 hx;have hg:=Z6 (f:=Street.enc) hx;rw[YA hx,ZSw];refine Xk (sz:=5) (f:=205) rfl rfl rfl _ _ _ (.tup []) false k (by simpa using hk) (Xj (λ_=>rfl) _) (by simpa using hle) ?_ (by simp) ?_
 .rw[Q6 (f:=132) rfl rfl];simp only[go_sem,c132,beq_self_eq_true,hg,Street.enc,NL.enc,XN]
 .rw[<-ZSw];exact Zw (λt=>rfl) _
def Z3G(p:NL Nm)(l:List Street)(k:Nat)(x:Street)(hx:l[k]?=some x)(hle:l.length<=1000000):pfn rE 130 [.isl false false 5<|l.map Street.enc,I k,.clo (.func 133) [] [.iptr true [.isl false p.ex 3<|p.l.map Nm.enc]]]=some (.isl false false 5<|(ZK l k<|XN p).map Street.enc):=by
 have hk:=Z7 hx;have hg:=Z6 (f:=Street.enc) hx;rw[YA hx,ZSw];refine Xk (sz:=5) (f:=205) rfl rfl rfl _ _ _ (.tup []) false k (by simpa using hk) (Xj (λ_=>rfl) _) (by simpa using hle) ?_ (by simp) ?_
 .rw[Q6 (f:=133) rfl rfl];simp only[go_sem,c133,beq_self_eq_true,hg,Street.enc,NL.enc,XN]
 .rw[<-ZSw];exact Zw (λt=>rfl) _
def Fw(w:Wk):Region:=⟨w.e.Id,w.e.A,w.owner,w.e.Path,⟨false,[]⟩,-1⟩
def WM(s:Sta)(k:Int):Int:=match s.Regions[k.toNat]? with|some b=>b.Ended|none=>0
def NU(s:Sta)(k:Int):Int:=match s.Regions[k.toNat]? with|some b=>b.Kind|none=>0
def Hi(w:Wk):Int:=bif decide (Qo w.s w.e.Id<0)then(bif twB w w.e.Id then 8 else 0)else bif WM w.s (Qo w.s w.e.Id) != -1||NU w.s (Qo w.s w.e.Id) != w.e.A then 11 else 0
def Hj(w:Wk):Wk:={w with s:={w.s with Regions:=bif decide (Qo w.s w.e.Id<0)then w.s.Regions++[Fw w]else ZK w.s.Regions (Qo w.s w.e.Id).toNat (NS w.e.Path)}}
def Z3H(o0 o1:AObj)(h0:∀n,Zj n o0=true)(h1:∀n,Zj n o1=true)(w:Wk)(hw:WkS w):∃t,fnV rE 72 [.ptr 2 0 0 1] (wH o0 o1 w)=some (I<|Hi w,wH o0 o1 (bif Hi w==0 then Hj w else w)++t):=by
 have htw:=Wj w hw w.e.Id;have hr:=NI w.s hw.s w.e.Id;have hcs:Z4 (w.s.Regions.map Region.enc)=true:=Zw (λt=>rfl) _
 have ha:=λ(h:Hp)(aid:Nat)=>Vt (h:=h) (aid:=aid) (sz:=6) (bytes:=88) (es:=w.s.Regions.map Region.enc) (ys:=[.agg [.str w.e.Id,I w.e.A,I w.owner,.isl false w.e.Path.ex 2<|w.e.Path.l.map Pt.enc,.isl false false 3 [],I<|-1]]) (bw:=false) (bw2:=false) (ex:=false) rfl (by omega) (by omega) (by have:=hw.s.regions;simp;omega) (by simp only[XA,hcs];rfl)
 have z8:((8:Int)==0)=false:=rfl;have z11:((11:Int)==0)=false:=rfl;have z0:((0:Int)==0)=true:=rfl;rw[Q6 (f:=72) rfl rfl];unfold Hi Hj;refine⟨[.row 1 [.ptr 2 0 0 1]],?_⟩;cases c1:decide (Qo w.s w.e.Id<0)with
 |true=>
  cases c:twB w w.e.Id with
  |true=>rw[c]at htw;simp only[go_sem,c72,wH,htw,hr,c1,z8]
  |false=>
   rw[c]at htw;simp only[go_sem,c72,htw,hr,c1,z0,Z3s,wrB,appW,ha,ZM,ZH,Fw,ZSm,wH,wkC,Region.enc,NL.enc]
 |false=>
  obtain⟨j,x,hj,hx⟩:=QC c1;have hj':Qo w.s w.e.Id=(j:Int):=hj;have gx:=Z6 (f:=Region.enc) hx;have hE:WM w.s (j:Int)=x.Ended:=by simp[WM,hx]
  have hK:NU w.s (j:Int)=x.Kind:=by simp[NU,hx]
  have hn:((j:Int)).toNat=j:=rfl;have hch:=Z3C w w.s.Regions j x hx (by have:=hw.s.regions;omega)
  rw[hj']at hr c1⊢;rw[hE,hK,hn];cases c5003:x.Ended != -1 with
  |true=>simp only[go_sem,c72,wH,hr,c1,gx,Region.enc,NL.enc,c5003,z11]
  |false=>
  cases c5004:x.Kind != w.e.A with
  |true=>simp only[go_sem,c72,wH,hr,c1,gx,Region.enc,NL.enc,c5003,c5004,z11]
  |false=>simp only[go_sem,c72,wH,hr,c1,gx,Region.enc,NL.enc,c5003,c5004,z0,hch]
def Hk(w:Wk):Int:=
 bif decide (Qo w.s w.e.Id<0)&&decide (ZL w.s w.e.Id<0)then 10
 else bif (decide (Qo w.s w.e.Id>=0)&&WM w.s (Qo w.s w.e.Id) != -1)||(decide (ZL w.s w.e.Id>=0)&&QF w.s (ZL w.s w.e.Id) != -1)then 11 else 0
def Hl(w:Wk):Wk:=
 bif decide (Qo w.s w.e.Id>=0)then {w with s:={w.s with Regions:=ZK w.s.Regions (Qo w.s w.e.Id).toNat (NT w.e.Names)}}
 else {w with s:={w.s with Streets:=ZK w.s.Streets (ZL w.s w.e.Id).toNat (XN w.e.Names)}}
def K9{n:Int}(h:decide (n<0)=false):decide (n>=0)=true:=decide_eq_true (by have:=of_decide_eq_false h;omega)
def JE{n:Int}(h:decide (n<0)=true):decide (n>=0)=false:=decide_eq_false (by have:=of_decide_eq_true h;omega)
def Z3I(o0 o1:AObj)(h0:∀n,Zj n o0=true)(h1:∀n,Zj n o1=true)(w:Wk)(hw:WkS w):∃t,fnV rE 74 [.ptr 2 0 0 1] (wH o0 o1 w)=some (I<|Hk w,wH o0 o1 (bif Hk w==0 then Hl w else w)++t):=by
 have hr:=NI w.s hw.s w.e.Id;have ht:=K7 w.s hw.s w.e.Id;have z10:((10:Int)==0)=false:=rfl;have z11:((11:Int)==0)=false:=rfl;have z0:((0:Int)==0)=true:=rfl;rw[Q6 (f:=74) rfl rfl];unfold Hk Hl;refine⟨[.row 1 [.ptr 2 0 0 1]],?_⟩;cases c1:decide (Qo w.s w.e.Id<0)with
 |true=>
  have d1:=JE c1;cases c2:decide (ZL w.s w.e.Id<0)with
  |true=>simp only[go_sem,c74,wH,hr,ht,c1,c2,z10]
  |false=>
   have d2:=K9 c2;obtain⟨k,y,hk,hy⟩:=QC c2;have hk':ZL w.s w.e.Id=(k:Int):=hk;have gy:=Z6 (f:=Street.enc) hy;have hsE:QF w.s (k:Int)=y.Ended:=by simp[QF,hy]
   have hn:((k:Int)).toNat=k:=rfl;have hch:=Z3E w w.s.Streets k y hy (by have:=hw.s.streets;omega)
   rw[hk']at ht c2 d2⊢;rw[hsE,hn];cases c5003:y.Ended != -1 with
   |true=>simp only[go_sem,c74,wH,hr,ht,c1,c2,d1,d2,gy,Street.enc,NL.enc,c5003,z11]
   |false=>simp only[go_sem,c74,wH,hr,ht,c1,c2,d1,d2,gy,Street.enc,NL.enc,c5003,z0,hch]
 |false=>
  have d1:=K9 c1;obtain⟨j,x,hj,hx⟩:=QC c1;have hj':Qo w.s w.e.Id=(j:Int):=hj;have gx:=Z6 (f:=Region.enc) hx;have hrE:WM w.s (j:Int)=x.Ended:=by simp[WM,hx]
  have hnj:((j:Int)).toNat=j:=rfl;have hch:=Z3D w w.s.Regions j x hx (by have:=hw.s.regions;omega)
  rw[hj']at hr c1 d1⊢;rw[hrE,hnj];cases c5003:x.Ended != -1 with
  |true=>simp only[go_sem,c74,wH,hr,ht,c1,d1,gx,Region.enc,NL.enc,c5003,z11]
  |false=>
  cases c2:decide (ZL w.s w.e.Id<0)with
  |true=>
   have d2:=JE c2;simp only[go_sem,c74,wH,hr,ht,c1,d1,d2,gx,Region.enc,NL.enc,c5003,z0,hch]
  |false=>
   have d2:=K9 c2;obtain⟨k,y,hk,hy⟩:=QC c2;have hk':ZL w.s w.e.Id=(k:Int):=hk;have gy:=Z6 (f:=Street.enc) hy;have hsE:QF w.s (k:Int)=y.Ended:=by simp[QF,hy]
   rw[hk']at ht c2 d2⊢;rw[hsE];cases c5004:y.Ended != -1 with
   |true=>simp only[go_sem,c74,wH,hr,ht,c1,d1,d2,gx,gy,Region.enc,Street.enc,NL.enc,c5003,c5004,z11]
   |false=>simp only[go_sem,c74,wH,hr,ht,c1,d1,d2,gx,gy,Region.enc,Street.enc,NL.enc,c5003,c5004,z0,hch]
def Hm(w:Wk):Int:=
 bif decide (ZL w.s w.e.Id<0)||decide (ZL w.s w.e.Other<0)then 10 else bif QF w.s (ZL w.s w.e.Id) != -1||QF w.s (ZL w.s w.e.Other) != -1 then 11 else 0
def JF(s:Sta)(k:Nat):NL Nm:=match s.Streets[k]? with|some x=>x.Names|none=>⟨false,[]⟩
def exW(w:Wk):Wk:={w with s:={w.s with Streets:=ZK (ZK w.s.Streets (ZL w.s w.e.Id).toNat<|XN<|JF w.s (ZL w.s w.e.Other).toNat) (ZL w.s w.e.Other).toNat (XN<|JF w.s (ZL w.s w.e.Id).toNat)}}
def Xm{α:Type}(l:List α)(k:Nat)(f:α->α):(ZK l k f).length=l.length:=by
 unfold ZK;cases l[k]?<;>simp
def Z3J(o0 o1:AObj)(h0:∀n,Zj n o0=true)(h1:∀n,Zj n o1=true)(w:Wk)(hw:WkS w):∃t,fnV rE 75 [.ptr 2 0 0 1] (wH o0 o1 w)=some (I<|Hm w,wH o0 o1 (bif Hm w==0 then exW w else w)++t):=by
 have hr:=K7 w.s hw.s w.e.Id;have ht:=K7 w.s hw.s w.e.Other;have z10:((10:Int)==0)=false:=rfl;have z11:((11:Int)==0)=false:=rfl;have z0:((0:Int)==0)=true:=rfl;rw[Q6 (f:=75) rfl rfl];unfold Hm exW;cases c1:decide (ZL w.s w.e.Id<0)with
 |true=>refine⟨[],?_⟩;simp only[go_sem,c75,wH,hr,ht,c1,z10,ZSf]
 |false=>
 cases c2:decide (ZL w.s w.e.Other<0)with
 |true=>refine⟨[],?_⟩;simp only[go_sem,c75,wH,hr,ht,c1,c2,z10,ZSf]
 |false=>
 obtain⟨j,x,hj,hx⟩:=QC c1;obtain⟨k,y,hk,hy⟩:=QC c2;have hj':ZL w.s w.e.Id=(j:Int):=hj;have hk':ZL w.s w.e.Other=(k:Int):=hk;have gx:=Z6 (f:=Street.enc) hx;have gy:=Z6 (f:=Street.enc) hy;have hxE:QF w.s (j:Int)=x.Ended:=by simp[QF,hx]
 have hyE:QF w.s (k:Int)=y.Ended:=by simp[QF,hy]
 have hnj:((j:Int)).toNat=j:=rfl;have hnk:((k:Int)).toNat=k:=rfl;have hxN:JF w.s j=x.Names:=by simp[JF,hx]
 have hyN:JF w.s k=y.Names:=by simp[JF,hy]
 rw[hj']at hr c1⊢;rw[hk']at ht c2⊢;rw[hxE,hyE,hnj,hnk,hxN,hyN];cases c5003:x.Ended != -1 with
 |true=>refine⟨[],?_⟩;simp only[go_sem,c75,wH,hr,ht,c1,c2,gx,Street.enc,NL.enc,c5003,z11,ZSf]
 |false=>
 cases c5004:y.Ended != -1 with
 |true=>refine⟨[],?_⟩;simp only[go_sem,c75,wH,hr,ht,c1,c2,gx,gy,Street.enc,NL.enc,c5003,c5004,z11,ZSf]
 |false=>
  have hch:=Z3F y.Names w.s.Streets j x hx (by have:=hw.s.streets;omega)
  obtain⟨y',hy'⟩:∃y',(ZK w.s.Streets j<|XN y.Names)[k]?=some y':=⟨_,ZS5<|by rw[Xm];exact Z7 hy⟩
  have hch2:=Z3G x.Names (ZK w.s.Streets j<|XN y.Names) k y' hy' (by have:=hw.s.streets;rw[Xm];omega)
  refine⟨[.row 1 [.isl false x.Names.ex 3<|x.Names.l.map Nm.enc],.row 1 [.isl false y.Names.ex 3<|y.Names.l.map Nm.enc]],?_⟩;simp only[go_sem,c75,wH,hr,ht,c1,c2,gx,gy,Street.enc,NL.enc,c5003,c5004,z0,hch,hch2,h0,h1]
def WN(s:Sta)(b:Int):Nat->Int->Bool
 |0,_=>false
 |k+1,at'=>bif decide (at'>=0)then(bif at'==b then true else WN s b k<|XJ s at')else false
def Hn(w:Wk):Int:=bif decide (XJ w.s w.e.B>=0)then 11 else bif WN w.s w.e.B (w.s.Merged.length+2) w.e.A then 12 else 0
def Ho(w:Wk):Wk:={w with s:={w.s with Merged:=w.s.Merged++[⟨w.e.A,w.e.B⟩]}}
def Z3K(o0 o1:AObj)(w:Wk)(hw:WkS w):∀k at',chN w.s k at'=true->
 ∃fr',Zg rE [0,3] c84L0b [(0,.ptr 2 0 0 1),(3,I at')] (wH o0 o1 w)=some (if WN w.s w.e.B (k+1) at'=true then .ret else .exit 0,fr',wH o0 o1 w)/\
  (WN w.s w.e.B (k+1) at'=true->get fr' 2=.int .i64 12)/\(WN w.s w.e.B (k+1) at'=false->get fr' 0=.ptr 2 0 0 1/\get fr' 2=.bot):=by
 intro k;induction k with
 |zero=>
  intro at' hc;have h1:decide (at'>=0)=false:=by simpa[chN]using hc
  have h2:WN w.s w.e.B (0+1) at'=false:=by rw[WN,h1];rfl
  rw[h2];refine⟨_,Q7 rfl (by simp only[go_sem,c84L0b,h1];rfl) (by simp),λh=>(by cases h),λ_=>⟨?_,?_⟩⟩<;>simp only[go_sem]
 |succ k ih=>
  intro at' hc;rw[WN];cases h1:decide (at'>=0)with
  |false=>
   rw[cond_false];refine⟨_,Q7 rfl (by simp only[go_sem,c84L0b,h1];rfl) (by simp),λh=>(by cases h),λ_=>⟨?_,?_⟩⟩<;>simp only[go_sem]
  |true=>
   rw[cond_true];cases h2:at'==w.e.B with
   |true=>
    rw[cond_true];refine⟨_,Q7 rfl (by simp only[go_sem,c84L0b,h1,h2];rfl) (by simp),λ_=>?_,λh=>(by cases h)⟩
    simp only[go_sem]
   |false=>
    rw[cond_false];have hc':chN w.s k (XJ w.s at')=true:=by
     rw[chN,h1,cond_true]at hc;exact hc
    have ht:=NJ w.s hw.s at';obtain⟨fr',h3,h4⟩:=ih (XJ w.s at') hc';refine⟨fr',?_,h4⟩;rw[<-h3];exact(Yt rfl (by simp only[go_sem,c84L0b,h1,h2,ht];rfl)).trans (by simp only[go_sem])
def Z3L(s:Sta)(hp:WK s=true)(a:Int):chN s (s.Merged.length+1) a=true:=by
 simp only[WK,ZS3]at hp;obtain⟨_,_,h3⟩:=hp;rw[ZSj]at h3;cases hf:s.Merged.find? (λp=>p.b==a)with
 |some p=>
  have h1:=List.find?_some hf;have h2:=h3 p<|ZUB hf;have:p.b=a:=by simpa using h1
  rw[<-this];exact h2
 |none=>
  have ht:XJ s a=-1:=by unfold XJ;rw[hf]
  rw[chN];cases decide (a>=0)with
  |false=>rfl
  |true=>
   rw[cond_true,ht];cases s.Merged.length<;>rfl
def Z3M(o0 o1:AObj)(w:Wk)(hw:WkS w)(hp:WK w.s=true):∃t,fnV rE 84 [.ptr 2 0 0 1] (wH o0 o1 w)=some (I<|Hn w,wH o0 o1 (bif Hn w==0 then Ho w else w)++t):=by
 have ht:=NJ w.s hw.s w.e.B;have hcs:Z4 (w.s.Merged.map Pair.enc)=true:=Zw (λt=>rfl) _
 have ha:=λ(h:Hp)(aid:Nat)=>Vt (h:=h) (aid:=aid) (sz:=2) (bytes:=16) (es:=w.s.Merged.map Pair.enc) (ys:=[.agg [I w.e.A,I w.e.B]]) (bw:=false) (bw2:=false) (ex:=false) rfl (by omega) (by omega) (by have:=hw.s.merged;simp;omega) (by simp only[XA,hcs];rfl)
 have z12:((12:Int)==0)=false:=rfl;have z11:((11:Int)==0)=false:=rfl;have z0:((0:Int)==0)=true:=rfl;obtain⟨fr',h1,h2,h3⟩:=Z3K o0 o1 w hw (w.s.Merged.length+1) w.e.A<|Z3L w.s hp w.e.A;rw[Q6 (f:=84) rfl rfl];unfold Hn;refine⟨[],?_⟩;cases c1:decide (XJ w.s w.e.B>=0)with
 |true=>simp only[go_sem,c84,ht,c1,z11,ZSf]
 |false=>
 have e:w.s.Merged.length+2=w.s.Merged.length+1+1:=rfl;rw[e];cases c2:WN w.s w.e.B (w.s.Merged.length+1+1) w.e.A with
 |true=>
  rw[c2,if_pos rfl]at h1;simp only[go_sem,c84,c84L0,ht,c1,h1,h2 c2,z12,ZSf]
 |false=>
  rw[c2]at h1;obtain⟨q0,q2⟩:=h3 c2;simp only[go_sem,c84,c84L0,ht,c1,h1,q0,q2,z0,ZSi,Fu,wrB,appW,ha,ZM,ZH,Ho,ZSm,wH,wkC,Pair.enc,ZSf]
def UF(e:Event)(a:NL Str)(d:Door):Door:={d with Ended:=e.Day,Why:=e.Kind,After:=a}
def UG(e:Event)(a:NL Str)(u:Unit'):Unit':=
 match a.l with
 |x::_=>{u with Door:=x}
 |[]=>{u with Ended:=e.Day,Why:=e.Kind}
def Z3N(w:Wk)(a:NL Str)(l:List Door)(k:Nat)(x:Door)(hx:l[k]?=some x)(hle:l.length<=1000000):pfn rE 141 [.isl false false 16<|l.map Door.enc,I k,.clo (.func 211) [] [.iptr true [.iptr true<|wkC w],.iptr false [.isl false a.ex 1<|a.l.map encS]]]=some (.isl false false 16<|(ZK l k<|UF w.e a).map Door.enc):=by
 have hk:=Z7 hx;have hg:=Z6 (f:=Door.enc) hx;have hs:∀v,((l.map Door.enc).set k v)[k]?=some v:=λv=>by simp[hk]
 rw[YA hx,ZSw];refine Xk (sz:=16) (f:=210) rfl rfl rfl _ _ _ (.tup []) false k (by simpa using hk) (Xj (λ_=>rfl) _) (by simpa using hle) ?_ (by simp) ?_
 .rw[Q6 (f:=211) rfl rfl];simp only[go_sem,c211,beq_self_eq_true,hg,hs,List.set_set,ZTm,ZS4,Door.enc,NL.enc,UF]
 .rw[<-ZSw];exact Zw (λt=>rfl) _
def Z3O(w:Wk)(a:NL Str)(l:List Unit')(k:Nat)(x:Unit')(hx:l[k]?=some x)(hle:l.length<=1000000):pfn rE 151 [.isl false false 6<|l.map Unit'.enc,I k,.clo (.func 212) [] [.iptr false [.isl false a.ex 1<|a.l.map encS],.iptr true [.iptr true<|wkC w]]]=some (.isl false false 6<|(ZK l k<|UG w.e a).map Unit'.enc):=by
 have hk:=Z7 hx;have hg:=Z6 (f:=Unit'.enc) hx;have hs:∀v,((l.map Unit'.enc).set k v)[k]?=some v:=λv=>by simp[hk]
 rw[YA hx,ZSw];refine Xk (sz:=6) (f:=52) rfl rfl rfl _ _ _ (.tup []) false k (by simpa using hk) (Xj (λ_=>rfl) _) (by simpa using hle) ?_ (by simp) ?_
 .rw[Q6 (f:=212) rfl rfl];unfold UG;cases ha:a.l with
  |nil=>
   have d:decide (((0:Nat):Int)>0)=false:=rfl;simp only[go_sem,c212,beq_self_eq_true,hg,hs,List.set_set,ZTm,ZS4,Unit'.enc,ZSq,ZSV,d]
  |cons y r=>
   have d:decide (((r.length+1:Nat):Int)>0)=true:=decide_eq_true<|by omega
   have hix:ixG (.str y::r.map encS) 0=some (.str y):=rfl;simp only[go_sem,c212,beq_self_eq_true,hg,ZS4,Unit'.enc,ZS9,ZSu,ZS4,d,hix,encS]
 .rw[<-ZSw];exact Zw (λt=>rfl) _
def Z3P(id:Str)(u:Unit'):Bool:=Z3 u.Door id&&!(u.Ended != -1)
def XO(e:Event)(id:Str)(a:NL Str)(u:Unit'):Unit':=bif Z3P id u then UG e a u else u
def UH(e:Event)(id:Str)(a:NL Str)(l:List Unit'):List Unit':=l.map<|XO e id a
def Ym(w:Wk)(l:List Door):Wk:={w with s:={w.s with Doors:=l}}
def Qx(w:Wk)(l:List Unit'):Wk:={w with s:={w.s with Units:=l}}
def Qf(w:Wk)(k:Nat)(a:NL Str):Wk:=
 match w.s.Doors[k]? with
 |some x=>Qx (Ym w<|ZK w.s.Doors k<|UF w.e a)<|UH w.e x.Id a w.s.Units
 |none=>w
def Y3{α:Type}(f:α->α)(l:List α)(i:Nat):List α:=(l.take i).map f++l.drop i
def Z3Q{α:Type}(f:α->α)(l:List α):Y3 f l 0=l:=by simp[Y3]
def Z3R{α:Type}(f:α->α)(l:List α):Y3 f l l.length=l.map f:=by simp[Y3]
def Z3S{α:Type}(f:α->α)(l:List α)(i:Nat):(Y3 f l i).length=l.length:=by
 unfold Y3;simp;omega
def UI{α:Type}(f:α->α){l:List α}{i:Nat}{x:α}(h:l[i]?=some x):(Y3 f l i)[i]?=some x:=by
 have hi:=Z7 h;unfold Y3;rw[ZT4<|by simp;omega]
 have:i-(List.map f<|List.take i l).length=0:=by simp;omega
 rw[this,ZTA];simpa using h
def Fx{α:Type}(f:α->α){l:List α}{i:Nat}{x:α}(h:l[i]?=some x):Y3 f l (i+1)=(Y3 f l i).set i (f x):=by
 have hi:=Z7 h;have hx:l[i]=x:=by rw[ZS5 hi]at h;exact Option.some.inj h
 unfold Y3;rw[ZUd hi,hx,ZSm,ZSQ,List.set_append_right _ _<|by simp;omega]
 have:i-(List.map f<|List.take i l).length=0:=by simp;omega
 rw[this,ZTe hi];rfl
def Fy{α:Type}(f:α->α){l:List α}{i:Nat}{x:α}(h:l[i]?=some x)(hf:f x=x):Y3 f l (i+1)=Y3 f l i:=by
 rw[Fx f h,hf];have h2:=UI f h;have hi:=Z7 h2;rw[ZS5 hi]at h2;have:=Option.some.inj h2;rw[<-this,List.set_getElem_self]
def Z3T(o0 o1:AObj)(h0:∀n,Zj n o0=true)(h1:∀n,Zj n o1=true)(id:Str)(a:NL Str)(w:Wk)(hu:w.s.Units.length<=1000)(t:Hp)
 (ht:(∃x,t=[x]/\∀n,3<=n->Zj n x=true)\/∃x y,t=[x,y]/\(∀n,3<=n->Zj n x=true)/\∀n,3<=n->Zj n y=true):
 ∃fr',Zg rE [3,5,6,34,35,36] c143L0b [(3,.ptr (3+t.length) 0 0 1),(5,.iptr false [.isl false a.ex 1<|a.l.map encS]),(6,.str id),(34,.isl false false 6<|w.s.Units.map Unit'.enc),(35,I w.s.Units.length),(36,.int .i64 0)] (wH o0 o1 w++t++[.row 1 [.ptr 2 0 0 1]]) =
  some (.exit 0,fr',wH o0 o1 (Qx w<|UH w.e id a w.s.Units)++t++[.row 1 [.ptr 2 0 0 1]]):=by
 have L:=Y8 (E:=rE) (live:=[3,5,6,34,35,36]) (b:=c143L0b) w.s.Units.length
  (λi=>[(3,.ptr (3+t.length) 0 0 1),(5,.iptr false [.isl false a.ex 1<|a.l.map encS]),(6,.str id),(34,.isl false false 6<|w.s.Units.map Unit'.enc),(35,I w.s.Units.length),(36,I i)])
  (λi=>wH o0 o1 (Qx w<|Y3 (XO w.e id a) w.s.Units i)++t++[.row 1 [.ptr 2 0 0 1]]) (λi=>rfl)
  (λi hi=>by
   obtain⟨x,hx⟩:∃x,w.s.Units[i]?=some x:=⟨_,ZS5 hi⟩;have hg:=Z6 (f:=Unit'.enc) hx;have hi':=Zh hi;have hw:=Zx (n:=i)<|by omega
   have hch:=Z3O (Qx w<|Y3 (XO w.e id a) w.s.Units i) a (Y3 (XO w.e id a) w.s.Units i) i x (UI _ hx)<|by rw[Z3S];omega
   have hf:XO w.e id a x=bif Z3 x.Door id&&!(x.Ended != -1)then UG w.e a x else x:=rfl;have hm:Z3 x.Door id=true->(x.Ended != -1)=false->ZK (Y3 (XO w.e id a) w.s.Units i) i (UG w.e a)=Y3 (XO w.e id a) w.s.Units (i+1):=λc1 c2=>by
    rw[Fx _ hx,YA<|UI _ hx,hf,c1,c2];rfl
   rw[YA<|UI _ hx]at hch;refine⟨[(3,.ptr (3+t.length) 0 0 1),(5,.iptr false [.isl false a.ex 1<|a.l.map encS]),(6,.str id),(34,.isl false false 6<|w.s.Units.map Unit'.enc),(35,I w.s.Units.length),(36,I (i+1:Nat))],?_,rfl⟩;cases c1:Z3 x.Door id with
   |false=>
    have hs:=Fy (XO w.e id a) hx<|by rw[hf,c1];rfl
    rw[hs];rcases ht with⟨x0,rfl,b0⟩|⟨x0,y0,rfl,b0,b1⟩
    .simp only[go_sem,c143L0b,wH,Qx,hg,hi',hw,Unit'.enc,c1,h0,h1,b0]
    .simp only[go_sem,c143L0b,wH,Qx,hg,hi',hw,Unit'.enc,c1,h0,h1,b0,b1]
   |true=>
   cases c2:x.Ended != -1 with
   |true=>
    have hs:=Fy (XO w.e id a) hx<|by rw[hf,c1,c2];rfl
    rw[hs];rcases ht with⟨x0,rfl,b0⟩|⟨x0,y0,rfl,b0,b1⟩
    .simp only[go_sem,c143L0b,wH,Qx,hg,hi',hw,Unit'.enc,c1,c2,h0,h1,b0]
    .simp only[go_sem,c143L0b,wH,Qx,hg,hi',hw,Unit'.enc,c1,c2,h0,h1,b0,b1]
   |false=>
    have hm':=hm c1 c2;rw[YA<|UI _ hx]at hm';have e0:(Qx w<|Y3 (XO w.e id a) w.s.Units i).e=w.e:=rfl;rw[e0,hm']at hch;simp only[Qx]at hch;rcases ht with⟨x0,rfl,b0⟩|⟨x0,y0,rfl,b0,b1⟩
    .simp only[go_sem,c143L0b,wH,Qx,hg,hi',hw,Unit'.enc,c1,c2,h0,h1,b0,hch]
    .simp only[go_sem,c143L0b,wH,Qx,hg,hi',hw,Unit'.enc,c1,c2,h0,h1,b0,b1,hch])
  (e:=.exit 0) (fr:=[(3,.ptr (3+t.length) 0 0 1),(5,.iptr false [.isl false a.ex 1<|a.l.map encS]),(6,.str id),(34,.isl false false 6<|w.s.Units.map Unit'.enc),(35,I w.s.Units.length),(36,I w.s.Units.length)]) (h:=wH o0 o1 (Qx w<|Y3 (XO w.e id a) w.s.Units w.s.Units.length)++t++[.row 1 [.ptr 2 0 0 1]]) (by
   rcases ht with⟨x0,rfl,b0⟩|⟨x0,y0,rfl,b0,b1⟩
   .simp only[go_sem,c143L0b,ZG,wH,Qx,h0,h1]
   .simp only[go_sem,c143L0b,ZG,wH,Qx,h0,h1]) (by simp)
 simp only[Z3Q,Z3R]at L;exact⟨_,L⟩
def Hq(o0 o1:AObj)(h0:∀n,Zj n o0=true)(h1:∀n,Zj n o1=true)(a:NL Str)(w:Wk)(hu:w.s.Units.length<=1000)(hdl:w.s.Doors.length<=1000000)(k:Nat)(x:Door)(hx:w.s.Doors[k]?=some x)(t:Hp)
 (ht:(∃x,t=[x]/\∀n,3<=n->Zj n x=true)\/∃x y,t=[x,y]/\(∀n,3<=n->Zj n x=true)/\∀n,3<=n->Zj n y=true):
 fnV rE 143 [.ptr 2 0 0 1,I k,.isl false a.ex 1<|a.l.map encS] (wH o0 o1 w++t)=some (.tup [],wH o0 o1 (Qf w k a)++t++[.row 1 [.ptr 2 0 0 1]]):=by
 have hg:=Z6 (f:=Door.enc) hx;have hch:=Z3N w a w.s.Doors k x hx hdl;obtain⟨fr',hL⟩:=Z3T o0 o1 h0 h1 x.Id a (Ym w<|ZK w.s.Doors k<|UF w.e a) hu t ht;have e:Qf w k a=Qx (Ym w<|ZK w.s.Doors k<|UF w.e a) (UH w.e x.Id a w.s.Units):=by unfold Qf;rw[hx]
 rw[e,Q6 (f:=143) rfl rfl];rcases ht with⟨x0,rfl,b0⟩|⟨x0,y0,rfl,b0,b1⟩
 .simp only[wH,Ym,Qx,ZS8,ZSa,ZSu,ZSV,Nat.reduceAdd]at hL⊢;simp only[go_sem,c143,c143L0,hg,hch,Door.enc,NL.enc,h0,h1,b0,hL]
 .simp only[wH,Ym,Qx,ZS8,ZSa,ZSu,ZSV,Nat.reduceAdd]at hL⊢;simp only[go_sem,c143,c143L0,hg,hch,Door.enc,NL.enc,h0,h1,b0,b1,hL]
def Fz(o0 o1:AObj)(w:Wk)(hd:w.s.Doors.length<=100000)(d:Door)(t:Hp)(ht:t=[]\/(∃x,t=[x])\/(∃x y,t=[x,y])\/∃x y z,t=[x,y,z]):
 ∃q,fnV rE 136 [.ptr 2 0 0 1,Zo d] (wH o0 o1 w++t)=some (.tup [],wH o0 o1 (Qw w d)++t++[q])/\∀n,Zj n q=true:=by
 have hcs:Z4 (w.s.Doors.map Door.enc)=true:=Zw (λt=>rfl) _
 have ha:=λ(h:Hp)(aid:Nat)=>Vt (h:=h) (aid:=aid) (sz:=16) (bytes:=184) (es:=w.s.Doors.map Door.enc) (ys:=[Zo<|Xl w d]) (bw:=false) (bw2:=false) (ex:=false) rfl (by omega) (by omega) (by simp;omega) (by simp only[XA,hcs];rfl)
 refine⟨.row 16 [Zo<|Xl w d],?_,λn=>rfl⟩
 unfold Zo Xl at ha⊢;simp only at ha⊢;rw[Q6 (f:=136) rfl rfl];rcases ht with rfl|⟨x,rfl⟩|⟨x,y,rfl⟩|⟨x,y,z,rfl⟩<;>
  simp only[go_sem,c136,Ft,wrB,appW,ha,ZM,ZH,Qw,Xl,ZSm,wH,wkC,Door.enc,NL.enc,ZSf]
def Hr(d:Door)(x:Ent):Door:=⟨x.Id,d.Building,d.Street,0,x.Number,x.Point,0,0,⟨false,[]⟩,0,0,emp⟩
def Y5(w:Wk)(d:Door)(l:List Ent):Wk:={w with s:={w.s with Doors:=w.s.Doors++l.map (λx=>Xl w<|Hr d x)}}
def Z3U(w:Wk)(d:Door){l:List Ent}{i:Nat}{x:Ent}(h:l[i]?=some x):Y5 w d (l.take<|i+1)=Qw (Y5 w d<|l.take i) (Hr d x):=by
 unfold Y5 Qw;rw[YW _ h,ZSQ];rfl
def WO(w:Wk)(l:List Ent):Bool:=Zu (λ_ x=>!twB w x.Id) 0 l
def Z3V(o0 o1:AObj)(h0:∀n,Zj n o0=true)(h1:∀n,Zj n o1=true)(w:Wk)(hw:WkS w):
 ∃fr' h',Zg rE [0,3,14,15,16] c80L0b [(0,.ptr 2 0 0 1),(3,.sl 3 0 0 0 false),(14,.isl false w.e.Lst.ex 7<|w.e.Lst.l.map Ent.enc),(15,I w.e.Lst.l.length),(16,.int .i64 0)] (wH o0 o1 w++[.row 1 []]) =
  some (if WO w w.e.Lst.l=true then .exit 0 else .ret,fr',h')/\
  (WO w w.e.Lst.l=true->(get fr' 0=.ptr 2 0 0 1/\get fr' 2=.bot/\get fr' 3=.sl 3 w.e.Lst.l.length 0 w.e.Lst.l.length false)/\h'=wH o0 o1 w++[.row 1 ((w.e.Lst.l.map (·.Id)).map encS)])/\
  (WO w w.e.Lst.l=false->get fr' 2=.int .i64 8/\∃K,h'=wH o0 o1 w++[.row 1 K]):=by
 have hbS:∀n(K:List Str),Zd n (K.map encS)=true:=λn K=>ZN _<|Zw (λt=>rfl) K
 have hl:=hw.e.lst;have L:=Jk (E:=rE) (live:=[0,3,14,15,16]) (b:=c80L0b) w.e.Lst.l (λ_ x=>!twB w x.Id)
  (λi=>[(0,.ptr 2 0 0 1),(3,.sl 3 i 0 i false),(14,.isl false w.e.Lst.ex 7<|w.e.Lst.l.map Ent.enc),(15,I w.e.Lst.l.length),(16,I i)])
  (λi=>wH o0 o1 w++[.row 1 (((w.e.Lst.l.take i).map (·.Id)).map encS)]) 0
  (λfr' h'=>(get fr' 0=.ptr 2 0 0 1/\get fr' 2=.bot/\get fr' 3=.sl 3 w.e.Lst.l.length 0 w.e.Lst.l.length false)/\h'=wH o0 o1 w++[.row 1 ((w.e.Lst.l.map (·.Id)).map encS)])
  (λfr' h'=>get fr' 2=.int .i64 8/\∃K,h'=wH o0 o1 w++[.row 1 K])
  (λi=>rfl)
  (λi x hx hp=>by
   have hi:=Z7 hx;have hg:=Z6 (f:=Ent.enc) hx;have hi':=Zh hi;have hwr:=Zx (n:=i)<|by omega
   have ht:=YW (λx:Ent=>x.Id) hx
   have hn:((w.e.Lst.l.take i).map (·.Id)).length=i:=by rw[ZS4,take_len hx]
   have e1:((w.e.Lst.l.take<|i+1).map (·.Id)).map encS=((w.e.Lst.l.take i).map (·.Id)).map encS++[.str x.Id]:=by
    rw[ht,ZSm];rfl
   have htw:=Wj w hw x.Id;have hp':twB w x.Id=false:=by simpa using hp
   rw[hp']at htw;rw[e1];generalize(w.e.Lst.l.take i).map (·.Id)=KS at hn⊢;have ha:=λp0 p1 p2 q=>XC (h:=[p0,p1,p2,.row 1<|KS.map encS,q]) (fz:=false) (b:=3) (g:=i) (sz:=1) (es:=KS.map encS) (bw:=false) (ex:=false) (ys:=[.str x.Id]) (bytes:=16) (by simp[rowAt,hn]) rfl (by simp[Qq];rfl) (by omega) (by omega) (by simp;omega)
   refine⟨[(0,.ptr 2 0 0 1),(2,.bot),(3,.sl 3 (i+1) 0 (i+1) false),(14,.isl false w.e.Lst.ex 7<|w.e.Lst.l.map Ent.enc),(15,I w.e.Lst.l.length),(16,I (i+1:Nat))],?_,rfl⟩;simp only[go_sem,c80L0b,wH,hg,hi',hwr,Ent.enc,htw,ha,beq_self_eq_true,hbS,h0,h1])
  (λi x hx hp=>by
   have hi:=Z7 hx;have hg:=Z6 (f:=Ent.enc) hx;have hi':=Zh hi;have htw:=Wj w hw x.Id;have hp':twB w x.Id=true:=by simpa using hp
   rw[hp']at htw;refine⟨_,_,by simp only[go_sem,c80L0b,wH,hg,hi',Ent.enc,htw,beq_self_eq_true,hbS,h0,h1];rfl,?_,_,rfl⟩
   simp only[go_sem])
  ⟨_,_,by simp only[go_sem,c80L0b,wH,ZG,ZSt,hbS,h0,h1];rfl,⟨by simp only[go_sem],by simp only[go_sem],by simp only[go_sem]⟩,rfl⟩
 simp only[List.take_zero,ZSq]at L;exact L
def Z3W(o0 o1:AObj)(h0:∀n,Zj n o0=true)(h1:∀n,Zj n o1=true)(w:Wk)(hd:w.s.Doors.length<=1000)(hl:w.e.Lst.l.length<=100)(k:Int)(n:Nat)(K:List Str)(d:Door):
 ∃fr',Zg rE [0,3,6,7,78,79,80] c80L1b [(0,.ptr 2 0 0 1),(3,.sl 3 n 0 n false),(6,I k),(7,.ptr 4 0 0 1),(78,.isl false w.e.Lst.ex 7<|w.e.Lst.l.map Ent.enc),(79,I w.e.Lst.l.length),(80,.int .i64 0)] (wH o0 o1 w++[.row 1<|K.map encS,.row 16 [Zo d]]) =
  some (.exit 3,fr',wH o0 o1 (Y5 w d w.e.Lst.l)++[.row 1<|K.map encS,.row 16 [Zo d]])/\get fr' 0=.ptr 2 0 0 1/\get fr' 3=.sl 3 n 0 n false/\get fr' 6=I k:=by
 have hbS:∀n(K:List Str),Zd n (K.map encS)=true:=λn K=>ZN _<|Zw (λt=>rfl) K
 have L:=Y8 (E:=rE) (live:=[0,3,6,7,78,79,80]) (b:=c80L1b) w.e.Lst.l.length
  (λi=>[(0,.ptr 2 0 0 1),(3,.sl 3 n 0 n false),(6,I k),(7,.ptr 4 0 0 1),(78,.isl false w.e.Lst.ex 7<|w.e.Lst.l.map Ent.enc),(79,I w.e.Lst.l.length),(80,I i)])
  (λi=>wH o0 o1 (Y5 w d<|w.e.Lst.l.take i)++[.row 1<|K.map encS,.row 16 [Zo d]]) (λi=>rfl)
  (λi hi=>by
   obtain⟨x,hx⟩:∃x,w.e.Lst.l[i]?=some x:=⟨_,ZS5 hi⟩;have hg:=Z6 (f:=Ent.enc) hx;have hi':=Zh hi;have hwr:=Zx (n:=i)<|by omega
   obtain⟨q,ho,hq⟩:=Fz o0 o1 (Y5 w d<|w.e.Lst.l.take i) (by simp[Y5];omega) (Hr d x) [.row 1<|K.map encS,.row 16 [Zo d],.row 7 [x.enc]]<|Or.inr<|Or.inr<|Or.inr ⟨_,_,_,rfl⟩
   rw[Z3U w d hx];refine⟨[(0,.ptr 2 0 0 1),(3,.sl 3 n 0 n false),(6,I k),(7,.ptr 4 0 0 1),(78,.isl false w.e.Lst.ex 7<|w.e.Lst.l.map Ent.enc),(79,I w.e.Lst.l.length),(80,I (i+1:Nat))],?_,rfl⟩;generalize Y5 w d (w.e.Lst.l.take i)=W at ho⊢;unfold Hr Zo at ho⊢;simp only[wH,ZS8,ZSa,ZSq,Ent.enc]at ho⊢;simp only[go_sem,c80L1b,hg,hi',hwr,Ent.enc,ho,beq_self_eq_true,hbS,h0,h1])
  (e:=.exit 3) (fr:=[(0,.ptr 2 0 0 1),(3,.sl 3 n 0 n false),(6,I k),(7,.ptr 4 0 0 1),(78,.isl false w.e.Lst.ex 7<|w.e.Lst.l.map Ent.enc),(79,I w.e.Lst.l.length),(80,I w.e.Lst.l.length)]) (h:=wH o0 o1 (Y5 w d<|w.e.Lst.l.take w.e.Lst.l.length)++[.row 1<|K.map encS,.row 16 [Zo d]])
  (by simp only[go_sem,c80L1b,ZG,wH,hbS,h0,h1,Zo]) (by simp)
 have e0:Y5 w d (w.e.Lst.l.take 0)=w:=by simp[Y5]
 rw[e0,ZSt]at L;exact⟨_,L,by simp only[go_sem],by simp only[go_sem],by simp only[go_sem]⟩
def Vu(s:Sta)(k:Int):Str:=match s.Doors[k.toNat]? with|some d=>d.Veil|none=>emp
def Ka(w:Wk):Int:=
 bif !WO w w.e.Lst.l then 8 else bif decide (Zn w.s w.e.Id<0)then 10
 else bif QN w.s (Zn w.s w.e.Id) != -1||!Z3 (Vu w.s<|Zn w.s w.e.Id) emp then 11 else 0
def Kb(w:Wk):Wk:=
 match w.s.Doors[(Zn w.s w.e.Id).toNat]? with
 |some d=>Qf (Y5 w d w.e.Lst.l) (Zn w.s w.e.Id).toNat ⟨false,w.e.Lst.l.map (·.Id)⟩
 |none=>w
def Z3X(o0 o1:AObj)(h0:∀n,Zj n o0=true)(h1:∀n,Zj n o1=true)(w:Wk)(hw:WkS w):∃t,fnV rE 80 [.ptr 2 0 0 1] (wH o0 o1 w)=some (I<|Ka w,wH o0 o1 (bif Ka w==0 then Kb w else w)++t):=by
 have hbS:∀n(K:List Str),Zd n (K.map encS)=true:=λn K=>ZN _<|Zw (λt=>rfl) K
 have hcS:∀K:List Str,Z4 (K.map encS)=true:=λK=>Zw (λt=>rfl) K
 have hf:=find_ok w.s hw.s w.e.Id;have z8:((8:Int)==0)=false:=rfl;have z10:((10:Int)==0)=false:=rfl;have z11:((11:Int)==0)=false:=rfl;have z0:((0:Int)==0)=true:=rfl;obtain⟨f0,g0,l0,a0,b0⟩:=Z3V o0 o1 h0 h1 w hw;rw[Q6 (f:=80) rfl rfl];unfold Ka;cases c0:WO w w.e.Lst.l with
 |false=>
  rw[c0]at l0;obtain⟨q2,K,rfl⟩:=b0 c0;simp only[wH,ZS8,ZSa,ZSi,if_false]at l0;refine⟨[.row 1 K],?_⟩;simp only[go_sem,c80,c80L0,wH,l0,q2,z8]
 |true=>
 rw[c0,if_pos rfl]at l0;obtain⟨⟨q0,q2,q3⟩,rfl⟩:=a0 c0;simp only[wH,ZS8,ZSa]at l0;cases c1:decide (Zn w.s w.e.Id<0)with
 |true=>
  refine⟨[.row 1 ((w.e.Lst.l.map (·.Id)).map encS)],?_⟩;simp only[go_sem,c80,c80L0,wH,l0,q0,q2,q3,hbS,h0,h1,hf,c1,z10]
 |false=>
 obtain⟨j,y,hj,hy⟩:=QC c1;have hj':Zn w.s w.e.Id=(j:Int):=hj;have gy:=Z6 (f:=Door.enc) hy;have hdE:QN w.s (j:Int)=y.Ended:=by simp[QN,hy]
 have hdV:Vu w.s (j:Int)=y.Veil:=by simp[Vu,hy]
 have hn:((j:Int)).toNat=j:=rfl;rw[hj']at hf c1⊢;rw[hdE,hdV];cases c2:y.Ended != -1 with
 |true=>
  refine⟨[.row 1 ((w.e.Lst.l.map (·.Id)).map encS)],?_⟩;simp only[go_sem,c80,c80L0,wH,l0,q0,q2,q3,hbS,h0,h1,hf,c1,gy,Door.enc,NL.enc,c2,z11]
 |false=>
 cases c5003:Z3 y.Veil emp with
 |false=>
  refine⟨[.row 1 ((w.e.Lst.l.map (·.Id)).map encS)],?_⟩;simp only[go_sem,c80,c80L0,wH,l0,q0,q2,q3,hbS,h0,h1,hf,c1,gy,Door.enc,NL.enc,c2,c5003,z11]
 |true=>
  obtain⟨f1,l1,p0,p3,p6⟩:=Z3W o0 o1 h0 h1 w hw.s.doors (ZSz hw.e.lst<|by decide) j w.e.Lst.l.length (w.e.Lst.l.map (·.Id)) y
  have he:=Hq o0 o1 h0 h1 ⟨false,w.e.Lst.l.map (·.Id)⟩ (Y5 w y w.e.Lst.l) hw.s.units (by have:=hw.s.doors;have:=hw.e.lst;simp[Y5];omega) j y (by
   have:=Z7 hy;unfold Y5;rw[ZSU this,hy]) [.gone,.row 16 [Zo y]] (Or.inr ⟨_,_,rfl,λn _=>rfl,λn _=>rfl⟩)
  have hs:Kb w=Qf (Y5 w y w.e.Lst.l) j ⟨false,w.e.Lst.l.map (·.Id)⟩:=by unfold Kb;rw[hj',hn,hy]
  rw[hs];generalize Qf (Y5 w y w.e.Lst.l) j ⟨false,w.e.Lst.l.map (·.Id)⟩=W2 at he⊢;unfold Zo at l1 he;simp only[wH,ZS8,ZSa]at l1 he;refine⟨[.gone,.row 16 [Zo y]],?_⟩;have hz:List.take w.e.Lst.l.length ((w.e.Lst.l.map (·.Id)).map encS)=(w.e.Lst.l.map (·.Id)).map encS:=ZSk<|by simp
  simp only[go_sem,c80,c80L0,c80L1,wH,l0,q0,q2,q3,hbS,hcS,h0,h1,hf,c1,gy,Door.enc,NL.enc,c2,c5003,z0,l1,p0,p3,p6,he,beq_self_eq_true,hz,Zo]
def FA(w:Wk)(k:Nat)(a:NL Str):(Qf w k a).e=w.e:=by unfold Qf;split<;>rfl
def FB(w:Wk)(k:Nat)(a:NL Str):(Qf w k a).s.Doors.length=w.s.Doors.length:=by
 unfold Qf;split
 .simp[Qx,Ym,Xm]
 .rfl
def FC(w:Wk)(k:Nat)(a:NL Str):(Qf w k a).s.Units.length=w.s.Units.length:=by
 unfold Qf;split
 .simp[Qx,Ym,UH]
 .rfl
def Yg(w:Wk)(l:List Int)(a:NL Str):Wk:=l.foldl (λw k=>Qf w k.toNat a) w
def UJ(w:Wk)(k:Int)(l:List Int)(a:NL Str):Yg w (k::l) a=Yg (Qf w k.toNat a) l a:=rfl
def Z3Y(w:Wk){l:List Int}{i:Nat}{x:Int}(h:l[i]?=some x)(a:NL Str):Yg w (l.take<|i+1) a=Qf (Yg w (l.take i) a) x.toNat a:=by
 have hi:=Z7 h;have hx:l[i]=x:=by rw[ZS5 hi]at h;exact Option.some.inj h
 unfold Yg;rw[ZUd hi,hx,ZUf];rfl
def Z3Z(l:List Int)(a:NL Str):∀w:Wk,(Yg w l a).e=w.e:=by
 induction l with
 |nil=>intro w;rfl
 |cons x r ih=>intro w;rw[UJ,ih,FA]
def Z40(l:List Int)(a:NL Str):∀w:Wk,(Yg w l a).s.Doors.length=w.s.Doors.length:=by
 induction l with
 |nil=>intro w;rfl
 |cons x r ih=>intro w;rw[UJ,ih,FB]
def Z41(l:List Int)(a:NL Str):∀w:Wk,(Yg w l a).s.Units.length=w.s.Units.length:=by
 induction l with
 |nil=>intro w;rfl
 |cons x r ih=>intro w;rw[UJ,ih,FC]
def Z42(l:List Int)(ex:Bool)(v:Int)(hl:l.length<=1000000):pfn rE 111 [.isl true ex 1<|l.map I,I v]=some (.bool<|l.any<|λx=>v==x):=by
 have h:=Nz (f:=193) (enc:=I) (p:=λx=>v==x) (v:=I v) rfl rfl l (by omega) (λx _=>rfl) rfl (λx _=>rfl) true ex
 rw[Z5 (f:=111) rfl rfl,<-Vg];unfold WG;simp only[go_sem,c111,h]
def Zf(w:Wk):List Int:=w.e.Ids.l.map<|λid=>Zn w.s id
def XP(s:Sta)(k:Int):Str:=match s.Doors[k.toNat]? with|some d=>d.Street|none=>emp
def JG(s:Sta)(st:Str)(k:Int):Bool:=!((QN s k != -1||!Z3 (Vu s k) emp)||!Z3 (XP s k) st)
def Kc(w:Wk):Int:=
 bif twB w w.e.Id then 8 else bif (Zf w).any (λx=>-1==x)then 10
 else bif Zu (λ_ k=>JG w.s (XP w.s<|(Zf w).headD 0) k) 0 (Zf w)then 0 else 11
def WP(w:Wk)(d:Door):Door:=⟨w.e.Id,d.Building,d.Street,0,w.e.Number,w.e.Point,0,0,⟨false,[]⟩,0,0,emp⟩
def Kd(w:Wk):Wk:=
 match w.s.Doors[((Zf w).headD 0).toNat]? with
 |some d=>Yg (Qw w<|WP w d) (Zf w) ⟨false,[w.e.Id]⟩
 |none=>w
def Z43(o0 o1:AObj)(h0:∀n,Zj n o0=true)(h1:∀n,Zj n o1=true)(w:Wk)(hw:WkS w):
 ∃fr',Zg rE [0,3,23,24,25] c81L0b [(0,.ptr 2 0 0 1),(3,.sl 3 0 0 0 false),(23,.isl false w.e.Ids.ex 1<|w.e.Ids.l.map encS),(24,I w.e.Ids.l.length),(25,.int .i64 0)] (wH o0 o1 w++[.row 1 []]) =
  some (.exit 0,fr',wH o0 o1 w++[.row 1<|(Zf w).map I])/\get fr' 0=.ptr 2 0 0 1/\get fr' 3=.sl 3 (Zf w).length 0 (Zf w).length false:=by
 have hbS:∀n(K:List Int),Zd n (K.map I)=true:=λn K=>ZN _<|Zw (λt=>rfl) K
 have hl:=hw.e.ids;have L:=Y8 (E:=rE) (live:=[0,3,23,24,25]) (b:=c81L0b) w.e.Ids.l.length
  (λi=>[(0,.ptr 2 0 0 1),(3,.sl 3 i 0 i false),(23,.isl false w.e.Ids.ex 1<|w.e.Ids.l.map encS),(24,I w.e.Ids.l.length),(25,I i)])
  (λi=>wH o0 o1 w++[.row 1<|((w.e.Ids.l.take i).map (λid=>Zn w.s id)).map I]) (λi=>rfl)
  (λi hi=>by
   obtain⟨x,hx⟩:∃x,w.e.Ids.l[i]?=some x:=⟨_,ZS5 hi⟩;have hg:=Z6 (f:=encS) hx;have hi':=Zh hi;have hwr:=Zx (n:=i)<|by omega
   have ht:=YW (λid=>Zn w.s id) hx
   have hn:((w.e.Ids.l.take i).map (λid=>Zn w.s id)).length=i:=by rw[ZS4,take_len hx]
   have e1:((w.e.Ids.l.take<|i+1).map (λid=>Zn w.s id)).map I=((w.e.Ids.l.take i).map (λid=>Zn w.s id)).map I++[I<|Zn w.s x]:=by
    rw[ht,ZSm];rfl
   have hf:=find_ok w.s hw.s x;rw[e1];generalize(w.e.Ids.l.take i).map (λid=>Zn w.s id)=KS at hn⊢
   have ha:=λp0 p1 p2=>XC (h:=[p0,p1,p2,.row 1<|KS.map I]) (fz:=false) (b:=3) (g:=i) (sz:=1) (es:=KS.map I) (bw:=false) (ex:=false) (ys:=[I<|Zn w.s x]) (bytes:=8) (by simp[rowAt,hn]) rfl (by simp[Qq];rfl) (by omega) (by omega) (by simp;omega)
   refine⟨[(0,.ptr 2 0 0 1),(3,.sl 3 (i+1) 0 (i+1) false),(23,.isl false w.e.Ids.ex 1<|w.e.Ids.l.map encS),(24,I w.e.Ids.l.length),(25,I (i+1:Nat))],?_,rfl⟩;simp only[go_sem,c81L0b,wH,hg,hi',hwr,encS,hf,ha,beq_self_eq_true,hbS,h0,h1])
  (e:=.exit 0) (fr:=[(0,.ptr 2 0 0 1),(3,.sl 3 w.e.Ids.l.length 0 w.e.Ids.l.length false),(23,.isl false w.e.Ids.ex 1<|w.e.Ids.l.map encS),(24,I w.e.Ids.l.length),(25,I w.e.Ids.l.length)]) (h:=wH o0 o1 w++[.row 1<|((w.e.Ids.l.take w.e.Ids.l.length).map (λid=>Zn w.s id)).map I])
  (by simp only[go_sem,c81L0b,ZG,wH,hbS,h0,h1]) (by simp)
 rw[ZSt]at L;have e2:(Zf w).length=w.e.Ids.l.length:=by simp[Zf]
 rw[e2];exact⟨_,L,by simp only[go_sem],by simp only[go_sem]⟩
def Z44{l:List Int}(h:l.any (λx=>-1==x)=false){i:Nat}{k:Int}(hk:l[i]?=some k):k≠-1:=by
 intro e;rw[ZU1]at h;exact h k (ZSd hk)<|by rw[e];rfl
def UK(w:Wk)(h:(Zf w).any (λx=>-1==x)=false){i:Nat}{k:Int}(hk:(Zf w)[i]?=some k):∃(j:Nat)(d:Door),k=(j:Int)/\w.s.Doors[j]?=some d:=by
 have hne:=Z44 h hk;unfold Zf at hk;rw[ZSC]at hk;cases hx:w.e.Ids.l[i]? with
 |none=>rw[hx]at hk;cases hk
 |some id=>
  rw[hx]at hk;have hk':Zn w.s id=k:=Option.some.inj hk;have hc:decide (Zn w.s id<0)=false:=by
   rcases UA (λx:Door=>Z3 x.Id id) w.s.Doors 0 with⟨h1,_⟩|⟨j,x,h1,h2,_⟩
   .exact absurd (show k=-1 by rw[<-hk'];exact h1) hne
   .have:Zn w.s id=0+(j:Int):=h1;rw[this];exact decide_eq_false<|by omega
  obtain⟨j,d,h1,h2⟩:=QC hc;exact⟨j,d,by rw[<-hk'];exact h1,h2⟩
def Z45(o0 o1:AObj)(h0:∀n,Zj n o0=true)(h1:∀n,Zj n o1=true)(w:Wk)(hw:WkS w)(hn:(Zf w).any (λx=>-1==x)=false)(d:Door):
 ∃fr' h',Zg rE [0,3,6,51,52,53] c81L1b [(0,.ptr 2 0 0 1),(3,.sl 3 (Zf w).length 0 (Zf w).length false),(6,.ptr 4 0 0 1),(51,.sl 3 (Zf w).length 0 (Zf w).length false),(52,I (Zf w).length),(53,.int .i64 0)] (wH o0 o1 w++[.row 1<|(Zf w).map I,.row 16 [Zo d]]) =
  some (if Zu (λ_ k=>JG w.s d.Street k) 0 (Zf w)=true then .exit 2 else .ret,fr',h')/\
  (Zu (λ_ k=>JG w.s d.Street k) 0 (Zf w)=true->(get fr' 0=.ptr 2 0 0 1/\get fr' 2=.bot/\get fr' 3=.sl 3 (Zf w).length 0 (Zf w).length false/\get fr' 6=.ptr 4 0 0 1)/\h'=wH o0 o1 w++[.row 1<|(Zf w).map I,.row 16 [Zo d]])/\
  (Zu (λ_ k=>JG w.s d.Street k) 0 (Zf w)=false->(get fr' 0=.ptr 2 0 0 1/\get fr' 2=.int .i64 11/\get fr' 3=.sl 3 (Zf w).length 0 (Zf w).length false/\get fr' 6=.ptr 4 0 0 1)/\h'=wH o0 o1 w++[.row 1<|(Zf w).map I,.row 16 [Zo d]]):=by
 have hbS:∀n(K:List Int),Zd n (K.map I)=true:=λn K=>ZN _<|Zw (λt=>rfl) K
 have hlen:(Zf w).length<=100:=by simp[Zf];exact hw.e.ids
 have L:=Jk (E:=rE) (live:=[0,3,6,51,52,53]) (b:=c81L1b) (Zf w) (λ_ k=>JG w.s d.Street k)
  (λi=>[(0,.ptr 2 0 0 1),(3,.sl 3 (Zf w).length 0 (Zf w).length false),(6,.ptr 4 0 0 1),(51,.sl 3 (Zf w).length 0 (Zf w).length false),(52,I (Zf w).length),(53,I i)])
  (λi=>wH o0 o1 w++[.row 1<|(Zf w).map I,.row 16 [Zo d]]) 2
  (λfr' h'=>(get fr' 0=.ptr 2 0 0 1/\get fr' 2=.bot/\get fr' 3=.sl 3 (Zf w).length 0 (Zf w).length false/\get fr' 6=.ptr 4 0 0 1)/\h'=wH o0 o1 w++[.row 1<|(Zf w).map I,.row 16 [Zo d]])
  (λfr' h'=>(get fr' 0=.ptr 2 0 0 1/\get fr' 2=.int .i64 11/\get fr' 3=.sl 3 (Zf w).length 0 (Zf w).length false/\get fr' 6=.ptr 4 0 0 1)/\h'=wH o0 o1 w++[.row 1<|(Zf w).map I,.row 16 [Zo d]])
  (λi=>rfl)
  (λi k hk hp=>by
   have hi:=Z7 hk;obtain⟨j,y,rfl,hy⟩:=UK w hn hk;have hg:=Z6 (f:=I) hk;have gy:=Z6 (f:=Door.enc) hy;have hi':=Zh hi;have hwr:=Zx (n:=i)<|by omega
   have hdE:QN w.s (j:Int)=y.Ended:=by simp[QN,hy]
   have hdV:Vu w.s (j:Int)=y.Veil:=by simp[Vu,hy]
   have hdS:XP w.s (j:Int)=y.Street:=by simp[XP,hy]
   have hp':(!((y.Ended != -1||!Z3 y.Veil emp)||!Z3 y.Street d.Street))=true:=by rw[<-hdE,<-hdV,<-hdS];exact hp
   have c1:(y.Ended != -1)=false:=by revert hp';cases(y.Ended != -1)<;>simp
   have c2:Z3 y.Veil emp=true:=by revert hp';rw[c1];cases Z3 y.Veil emp<;>simp
   have c5003:Z3 y.Street d.Street=true:=by revert hp';rw[c1,c2];cases Z3 y.Street d.Street<;>simp
   have hlt:((i:Int)<((Zf w).length:Int)):=by omega
   refine⟨[(0,.ptr 2 0 0 1),(2,.bot),(3,.sl 3 (Zf w).length 0 (Zf w).length false),(6,.ptr 4 0 0 1),(51,.sl 3 (Zf w).length 0 (Zf w).length false),(52,I (Zf w).length),(53,I (i+1:Nat))],?_,rfl⟩;have hia:iaP 3 (Zf w).length 0 1 (i:Int) (Zf w).length (some (1,(Zf w).map I))=some (.ptr 3 i 0 (Zf w).length):=by
    rw[VT _ _ _ _ _ _ _ ⟨by omega,hlt⟩];simp
   simp only[go_sem,c81L1b,wH,Zo,hg,gy,hi',hwr,hia,Door.enc,NL.enc,c1,c2,c5003,beq_self_eq_true,hbS,h0,h1])
  (λi k hk hp=>by
   have hi:=Z7 hk;obtain⟨j,y,rfl,hy⟩:=UK w hn hk;have hg:=Z6 (f:=I) hk;have gy:=Z6 (f:=Door.enc) hy;have hi':=Zh hi;have hdE:QN w.s (j:Int)=y.Ended:=by simp[QN,hy]
   have hdV:Vu w.s (j:Int)=y.Veil:=by simp[Vu,hy]
   have hdS:XP w.s (j:Int)=y.Street:=by simp[XP,hy]
   have hp':(!((y.Ended != -1||!Z3 y.Veil emp)||!Z3 y.Street d.Street))=false:=by rw[<-hdE,<-hdV,<-hdS];exact hp
   have hlt:((i:Int)<((Zf w).length:Int)):=by omega
   have hia:iaP 3 (Zf w).length 0 1 (i:Int) (Zf w).length (some (1,(Zf w).map I))=some (.ptr 3 i 0 (Zf w).length):=by
    rw[VT _ _ _ _ _ _ _ ⟨by omega,hlt⟩];simp
   cases c1:(y.Ended != -1)with
   |true=>exact⟨_,_,by simp only[go_sem,c81L1b,wH,Zo,hg,gy,hi',hia,Door.enc,NL.enc,c1,beq_self_eq_true,hbS,h0,h1];rfl,⟨by simp only[go_sem],by simp only[go_sem],by simp only[go_sem],by simp only[go_sem]⟩,rfl⟩
   |false=>
   cases c2:Z3 y.Veil emp with
   |false=>exact⟨_,_,by simp only[go_sem,c81L1b,wH,Zo,hg,gy,hi',hia,Door.enc,NL.enc,c1,c2,beq_self_eq_true,hbS,h0,h1];rfl,⟨by simp only[go_sem],by simp only[go_sem],by simp only[go_sem],by simp only[go_sem]⟩,rfl⟩
   |true=>
   cases c5003:Z3 y.Street d.Street with
   |true=>rw[c1,c2,c5003]at hp';cases hp'
   |false=>exact⟨_,_,by simp only[go_sem,c81L1b,wH,Zo,hg,gy,hi',hia,Door.enc,NL.enc,c1,c2,c5003,beq_self_eq_true,hbS,h0,h1];rfl,⟨by simp only[go_sem],by simp only[go_sem],by simp only[go_sem],by simp only[go_sem]⟩,rfl⟩)
  ⟨_,_,by simp only[go_sem,c81L1b,wH,Zo,ZG,hbS,h0,h1];rfl,⟨by simp only[go_sem],by simp only[go_sem],by simp only[go_sem],by simp only[go_sem]⟩,rfl⟩
 exact L
def Z46(o0 o1:AObj)(h0:∀n,Zj n o0=true)(h1:∀n,Zj n o1=true)(l:List Int)(hlen:l.length<=100)(w:Wk)(hu:w.s.Units.length<=1000)(hdd:w.s.Doors.length<=1000000)(hok:∀(i:Nat)(k:Int),l[i]?=some k->∃j:Nat,k=(j:Int)/\j<w.s.Doors.length)(d:Door):
 ∃fr',Zg rE [0,103,104,105] c81L2b [(0,.ptr 2 0 0 1),(103,.sl 3 l.length 0 l.length false),(104,I l.length),(105,.int .i64 0)] (wH o0 o1 w++[.row 1<|l.map I,.row 16 [Zo d]]) =
  some (.exit 4,fr',wH o0 o1 (Yg w l ⟨false,[w.e.Id]⟩)++[.row 1<|l.map I,.row 16 [Zo d]]):=by
 have hbS:∀n(K:List Int),Zd n (K.map I)=true:=λn K=>ZN _<|Zw (λt=>rfl) K
 have L:=Y8 (E:=rE) (live:=[0,103,104,105]) (b:=c81L2b) l.length
  (λi=>[(0,.ptr 2 0 0 1),(103,.sl 3 l.length 0 l.length false),(104,I l.length),(105,I i)])
  (λi=>wH o0 o1 (Yg w (l.take i) ⟨false,[w.e.Id]⟩)++[.row 1<|l.map I,.row 16 [Zo d]]) (λi=>rfl)
  (λi hi=>by
   obtain⟨k,hk⟩:∃k,l[i]?=some k:=⟨_,ZS5 hi⟩;obtain⟨j,rfl,hj⟩:=hok i k hk;have hg:=Z6 (f:=I) hk;have hi':=Zh hi;have hwr:=Zx (n:=i)<|by omega
   have hlt:((i:Int)<(l.length:Int)):=by omega
   have hia:iaP 3 l.length 0 1 (i:Int) l.length (some (1,l.map I))=some (.ptr 3 i 0 l.length):=by
    rw[VT _ _ _ _ _ _ _ ⟨by omega,hlt⟩];simp
   rw[Z3Y w hk];have he:=Z3Z (l.take i) ⟨false,[w.e.Id]⟩ w;have hdl:=Z40 (l.take i) ⟨false,[w.e.Id]⟩ w;have hul:=Z41 (l.take i) ⟨false,[w.e.Id]⟩ w;generalize Yg w (l.take i) ⟨false,[w.e.Id]⟩=W at he hdl hul⊢;obtain⟨y,hy⟩:∃y,W.s.Doors[j]?=some y:=⟨_,ZS5<|by rw[hdl];exact hj⟩
   have hE:=Hq o0 o1 h0 h1 ⟨false,[w.e.Id]⟩ W (by rw[hul];exact hu) (by rw[hdl];exact hdd) j y hy [.row 1<|l.map I,.row 16 [Zo d]]<|Or.inr ⟨_,_,rfl,λn _=>by simp only[go_sem,hbS],λn _=>rfl⟩
   have hn:((j:Int)).toNat=j:=rfl;rw[hn];generalize Qf W j ⟨false,[w.e.Id]⟩=W2 at hE⊢;refine⟨[(0,.ptr 2 0 0 1),(103,.sl 3 l.length 0 l.length false),(104,I l.length),(105,I (i+1:Nat))],?_,rfl⟩;simp only[wH,Zo,encS,ZS8,ZSa,ZS9,ZSq]at hE⊢;simp only[go_sem,c81L2b,hg,hi',hwr,hia,he,hE,beq_self_eq_true,hbS,h0,h1])
  (e:=.exit 4) (fr:=[(0,.ptr 2 0 0 1),(103,.sl 3 l.length 0 l.length false),(104,I l.length),(105,I l.length)]) (h:=wH o0 o1 (Yg w (l.take l.length) ⟨false,[w.e.Id]⟩)++[.row 1<|l.map I,.row 16 [Zo d]])
  (by simp only[go_sem,c81L2b,Zo,ZG,wH,hbS,h0,h1]) (by simp)
 rw[ZSt]at L;exact⟨_,L⟩
def FD{l:List Int}(h:0<l.length):l[0]?=some (l.headD 0):=by
 cases l with
 |nil=>simp at h
 |cons x r=>rfl
def Z47(o0 o1:AObj)(h0:∀n,Zj n o0=true)(h1:∀n,Zj n o1=true)(w:Wk)(hw:WkS w)(hne:0<w.e.Ids.l.length):∃t,fnV rE 81 [.ptr 2 0 0 1] (wH o0 o1 w)=some (I<|Kc w,wH o0 o1 (bif Kc w==0 then Kd w else w)++t):=by
 have hbS:∀n(K:List Int),Zd n (K.map I)=true:=λn K=>ZN _<|Zw (λt=>rfl) K
 have hcS:∀K:List Int,Z4 (K.map I)=true:=λK=>Zw (λt=>rfl) K
 have htw:=Wj w hw w.e.Id;have z8:((8:Int)==0)=false:=rfl;have z10:((10:Int)==0)=false:=rfl;have z11:((11:Int)==0)=false:=rfl;have z0:((0:Int)==0)=true:=rfl;have hlen:(Zf w).length=w.e.Ids.l.length:=by simp[Zf]
 have hl:=hw.e.ids;obtain⟨f0,l0,q0,q3⟩:=Z43 o0 o1 h0 h1 w hw;simp only[wH,ZS8,ZSa]at l0;have hz:List.take (Zf w).length ((Zf w).map I)=(Zf w).map I:=ZSk<|by simp
 have hh:=Z42 (Zf w) false (-1)<|by omega
 rw[Q6 (f:=81) rfl rfl];unfold Kc;cases c0:twB w w.e.Id with
 |true=>
  rw[c0]at htw;refine⟨[],?_⟩;simp only[go_sem,c81,wH,htw,z8,ZSf]
 |false=>
 rw[c0]at htw;cases c1:(Zf w).any (λx=>-1==x)with
 |true=>
  rw[c1]at hh;refine⟨[.row 1<|(Zf w).map I],?_⟩;simp only[go_sem,c81,c81L0,wH,htw,l0,q0,q3,hh,hz,hcS,hbS,h0,h1,z10,beq_self_eq_true]
 |false=>
 rw[c1]at hh;have hk0:=FD (l:=Zf w)<|by omega
 obtain⟨j,d,hj,hd⟩:=UK w c1 hk0;have hg:=Z6 (f:=I) hk0;have gd:=Z6 (f:=Door.enc) hd;have hlt:((0:Int)<((Zf w).length:Int)):=by omega
 have hia:iaP 3 (Zf w).length 0 1 (0:Int) (Zf w).length (some (1,(Zf w).map I))=some (.ptr 3 0 0 (Zf w).length):=by
  rw[VT _ _ _ _ _ _ _ ⟨by omega,hlt⟩];simp
 rw[hj]at hg;have hdS:XP w.s (j:Int)=d.Street:=by simp[XP,hd]
 rw[hj,hdS];obtain⟨f1,g1,l1,a1,b1⟩:=Z45 o0 o1 h0 h1 w hw c1 d;cases c2:Zu (λ_ k=>JG w.s d.Street k) 0 (Zf w)with
 |false=>
  rw[c2]at l1;obtain⟨⟨p0,p2,p3,p6⟩,rfl⟩:=b1 c2;simp only[wH,Zo,ZS8,ZSa,ZSi,if_false]at l1;refine⟨[.row 1<|(Zf w).map I,.row 16 [Zo d]],?_⟩;simp only[go_sem,c81,c81L0,c81L1,wH,htw,l0,q0,q3,hh,hz,hcS,hbS,h0,h1,z11,beq_self_eq_true,hg,gd,hia,Door.enc,NL.enc,Zo,l1,p0,p2,p3,p6]
 |true=>
  rw[c2,if_pos rfl]at l1;obtain⟨⟨p0,p2,p3,p6⟩,rfl⟩:=a1 c2;simp only[wH,Zo,ZS8,ZSa]at l1;have hdb:=hw.s.doors;obtain⟨q,ho,hq⟩:=Fz o0 o1 w (by omega) (WP w d) [.row 1<|(Zf w).map I,.row 16 [Zo d]]<|Or.inr<|Or.inr<|Or.inl ⟨_,_,rfl⟩
  obtain⟨f2,l2⟩:=Z46 o0 o1 h0 h1 (Zf w) (by omega) (Qw w<|WP w d) hw.s.units (by simp[Qw];omega) (λ(i:Nat)(k:Int)(hk:(Zf w)[i]?=some k)=>by
   obtain⟨j',d',e1,e2⟩:=UK w c1 hk;exact⟨j',e1,by have:=Z7 e2;simp[Qw];omega⟩) d
  have hs:Kd w=Yg (Qw w<|WP w d) (Zf w) ⟨false,[w.e.Id]⟩:=by
   have hn:((j:Int)).toNat=j:=rfl;unfold Kd;rw[hj,hn,hd]
  have hid:(Qw w<|WP w d).e.Id=w.e.Id:=rfl;rw[hid]at l2;rw[hs];generalize Yg (Qw w<|WP w d) (Zf w) ⟨false,[w.e.Id]⟩=W2 at l2⊢;generalize Qw w (WP w d)=W1 at l2 ho;unfold WP Zo at ho;simp only[wH,Zo,ZS8,ZSa,ZSq]at l2 ho;refine⟨[.row 1<|(Zf w).map I,.row 16 [Zo d]],?_⟩;simp only[go_sem,c81,c81L0,c81L1,c81L2,wH,htw,l0,q0,q3,hh,hz,hcS,hbS,h0,h1,z0,beq_self_eq_true,hg,gd,hia,Door.enc,NL.enc,l1,p0,p2,p3,p6,ho,l2,Zo]
def FE(n:Nat)(h:3<=n):Zj n (.row 1 [.ptr 2 0 0 1])=true:=by
 have:decide (2<n)=true:=decide_eq_true<|by omega
 simp[Zj,Zd,bel];omega
def Ke(e:Event)(x:Building):Building:={x with Ended:=e.Day}
def Z48(w:Wk)(l:List Building)(k:Nat)(x:Building)(hx:l[k]?=some x)(hle:l.length<=1000000):pfn rE 144 [.isl false false 4<|l.map Building.enc,I k,.clo (.func 145) [] [.iptr true [.iptr true<|wkC w]]]=some (.isl false false 4<|(ZK l k<|Ke w.e).map Building.enc):=by
 have hk:=Z7 hx;have hg:=Z6 (f:=Building.enc) hx;rw[YA hx,ZSw];refine Xk (sz:=4) (f:=213) rfl rfl rfl _ _ _ (.tup []) false k (by simpa using hk) (Xj (λ_=>rfl) _) (by simpa using hle) ?_ (by simp) ?_
 .rw[Q6 (f:=145) rfl rfl];simp only[go_sem,c145,beq_self_eq_true,hg,Building.enc,NL.enc,Ke]
 .rw[<-ZSw];exact Zw (λt=>rfl) _
def NV(id:Str)(x:Door):Bool:=Z3 x.Building id&&x.Ended==-1
def Y6(w:Wk)(l:List Door):Nat->Wk
 |0=>w
 |i+1=>match l[i]? with
  |some x=>bif NV w.e.Id x then Qf (Y6 w l i) i ⟨false,[]⟩else Y6 w l i
  |none=>Y6 w l i
def FF(w:Wk)(l:List Door):∀i,(Y6 w l i).e=w.e/\(Y6 w l i).s.Doors.length=w.s.Doors.length/\(Y6 w l i).s.Units.length=w.s.Units.length
 |0=>⟨rfl,rfl,rfl⟩
 |i+1=>by
  have ih:=FF w l i;rw[Y6];cases l[i]? with
  |none=>exact ih
  |some x=>
   dsimp only;cases NV w.e.Id x with
   |false=>exact ih
   |true=>
    rw[cond_true,FA,FB,FC];exact ih
def JH(w:Wk)(l:List Building):Wk:={w with s:={w.s with Buildings:=l}}
def Z49(o0 o1:AObj)(h0:∀n,Zj n o0=true)(h1:∀n,Zj n o1=true)(w:Wk)(hu:w.s.Units.length<=1000)(hd:w.s.Doors.length<=1000):
 ∃fr',Zg rE [1,46,47,48] c82L0b [(1,.ptr 3 0 0 1),(46,.isl false false 16<|w.s.Doors.map Door.enc),(47,I w.s.Doors.length),(48,.int .i64 0)] (wH o0 o1 w++[.row 1 [.ptr 2 0 0 1]]) =
  some (.exit 1,fr',wH o0 o1 (Y6 w w.s.Doors w.s.Doors.length)++[.row 1 [.ptr 2 0 0 1]]):=by
 have L:=Y8 (E:=rE) (live:=[1,46,47,48]) (b:=c82L0b) w.s.Doors.length
  (λi=>[(1,.ptr 3 0 0 1),(46,.isl false false 16<|w.s.Doors.map Door.enc),(47,I w.s.Doors.length),(48,I i)])
  (λi=>wH o0 o1 (Y6 w w.s.Doors i)++[.row 1 [.ptr 2 0 0 1]]) (λi=>rfl)
  (λi hi=>by
   obtain⟨x,hx⟩:∃x,w.s.Doors[i]?=some x:=⟨_,ZS5 hi⟩;have hg:=Z6 (f:=Door.enc) hx;have hi':=Zh hi;have hwr:=Zx (n:=i)<|by omega
   obtain⟨he,hdl,hul⟩:=FF w w.s.Doors i;have hS:Y6 w w.s.Doors (i+1)=bif Z3 x.Building w.e.Id&&x.Ended==-1 then Qf (Y6 w w.s.Doors i) i ⟨false,[]⟩else Y6 w w.s.Doors i:=by
    rw[Y6,hx];rfl
   rw[hS];generalize Y6 w w.s.Doors i=W at he hdl hul⊢;obtain⟨y,hy⟩:∃y,W.s.Doors[i]?=some y:=⟨_,ZS5<|by rw[hdl];exact hi⟩
   have hE:=Hq o0 o1 h0 h1 ⟨false,[]⟩ W (by rw[hul];exact hu) (by rw[hdl];omega) i y hy [.row 1 [.ptr 2 0 0 1],.row 16 [x.enc]]<|Or.inr ⟨_,_,rfl,FE,λn _=>rfl⟩
   generalize Qf W i ⟨false,[]⟩=W2 at hE⊢;refine⟨[(1,.ptr 3 0 0 1),(46,.isl false false 16<|w.s.Doors.map Door.enc),(47,I w.s.Doors.length),(48,I (i+1:Nat))],?_,rfl⟩;simp only[wH,ZS8,ZSa,ZSq,Door.enc,NL.enc]at hE⊢;cases c1:Z3 x.Building w.e.Id with
   |false=>simp only[go_sem,c82L0b,hg,hi',hwr,he,c1,Door.enc,NL.enc,h0,h1]
   |true=>
   cases c2:x.Ended==-1 with
   |false=>simp only[go_sem,c82L0b,hg,hi',hwr,he,c1,c2,Door.enc,NL.enc,h0,h1]
   |true=>simp only[go_sem,c82L0b,hg,hi',hwr,he,c1,c2,Door.enc,NL.enc,h0,h1,hE])
  (e:=.exit 1) (fr:=[(1,.ptr 3 0 0 1),(46,.isl false false 16<|w.s.Doors.map Door.enc),(47,I w.s.Doors.length),(48,I w.s.Doors.length)]) (h:=wH o0 o1 (Y6 w w.s.Doors w.s.Doors.length)++[.row 1 [.ptr 2 0 0 1]])
  (by simp only[go_sem,c82L0b,ZG,wH,h0,h1]) (by simp)
 exact⟨_,L⟩
def Hs(w:Wk):Int:=bif decide (Y1 w.s w.e.Id<0)then 10 else bif WL w.s (Y1 w.s w.e.Id) != -1 then 11 else 0
def Ht(w:Wk):Wk:=Y6 (JH w<|ZK w.s.Buildings (Y1 w.s w.e.Id).toNat<|Ke w.e) w.s.Doors w.s.Doors.length
def Z4a(o0 o1:AObj)(h0:∀n,Zj n o0=true)(h1:∀n,Zj n o1=true)(w:Wk)(hw:WkS w):∃t,fnV rE 82 [.ptr 2 0 0 1] (wH o0 o1 w)=some (I<|Hs w,wH o0 o1 (bif Hs w==0 then Ht w else w)++t):=by
 have hb:=Hb w.s hw.s w.e.Id;have z10:((10:Int)==0)=false:=rfl;have z11:((11:Int)==0)=false:=rfl;have z0:((0:Int)==0)=true:=rfl;rw[Q6 (f:=82) rfl rfl];unfold Hs Ht;refine⟨[.row 1 [.ptr 2 0 0 1]],?_⟩;cases c1:decide (Y1 w.s w.e.Id<0)with
 |true=>simp only[go_sem,c82,wH,hb,c1,z10]
 |false=>
 obtain⟨j,x,hj,hx⟩:=QC c1;have hj':Y1 w.s w.e.Id=(j:Int):=hj;have gx:=Z6 (f:=Building.enc) hx;have hE:WL w.s (j:Int)=x.Ended:=by simp[WL,hx]
 have hn:((j:Int)).toNat=j:=rfl;have hch:=Z48 w w.s.Buildings j x hx (by have:=hw.s.buildings;omega)
 rw[hj']at hb c1⊢;rw[hE,hn];cases c2:x.Ended != -1 with
 |true=>simp only[go_sem,c82,wH,hb,c1,gx,Building.enc,NL.enc,c2,z11]
 |false=>
  obtain⟨f1,l1⟩:=Z49 o0 o1 h0 h1 (JH w<|ZK w.s.Buildings j<|Ke w.e) hw.s.units hw.s.doors;have hdd:(JH w<|ZK w.s.Buildings j<|Ke w.e).s.Doors=w.s.Doors:=rfl;rw[hdd]at l1;generalize Y6 (JH w<|ZK w.s.Buildings j<|Ke w.e) w.s.Doors w.s.Doors.length=W2 at l1⊢;simp only[wH,JH,ZS8,ZSa]at l1;simp only[go_sem,c82,c82L0,wH,hb,c1,gx,Building.enc,NL.enc,c2,z0,hch,l1,h0,h1]
def c83_eq:c83=.seq s83p0 (.seq s83p1<|.seq s83p2<|.seq s83p3<|.seq s83p4<|.seq s83p5<|.seq s83p6<|.seq s83p7 .ret):=rfl
def UL(e:Event)(x:Region):Region:={x with Ended:=e.Day}
def UM(e:Event)(x:Street):Street:={x with Ended:=e.Day}
def UN(e:Event)(x:Unit'):Unit':={x with Ended:=e.Day,Why:=e.Kind}
def Z4b(w:Wk)(l:List Region)(k:Nat)(x:Region)(hx:l[k]?=some x)(hle:l.length<=1000000):pfn rE 125 [.isl false false 6<|l.map Region.enc,I k,.clo (.func 146) [] [.iptr true [.iptr true<|wkC w]]]=some (.isl false false 6<|(ZK l k<|UL w.e).map Region.enc):=by
 have hk:=Z7 hx;have hg:=Z6 (f:=Region.enc) hx;rw[YA hx,ZSw];refine Xk (sz:=6) (f:=202) rfl rfl rfl _ _ _ (.tup []) false k (by simpa using hk) (Xj (λ_=>rfl) _) (by simpa using hle) ?_ (by simp) ?_
 .rw[Q6 (f:=146) rfl rfl];simp only[go_sem,c146,beq_self_eq_true,hg,Region.enc,NL.enc,UL]
 .rw[<-ZSw];exact Zw (λt=>rfl) _
def Z4c(w:Wk)(l:List Street)(k:Nat)(x:Street)(hx:l[k]?=some x)(hle:l.length<=1000000):pfn rE 130 [.isl false false 5<|l.map Street.enc,I k,.clo (.func 149) [] [.iptr true [.iptr true<|wkC w]]]=some (.isl false false 5<|(ZK l k<|UM w.e).map Street.enc):=by
 have hk:=Z7 hx;have hg:=Z6 (f:=Street.enc) hx;rw[YA hx,ZSw];refine Xk (sz:=5) (f:=205) rfl rfl rfl _ _ _ (.tup []) false k (by simpa using hk) (Xj (λ_=>rfl) _) (by simpa using hle) ?_ (by simp) ?_
 .rw[Q6 (f:=149) rfl rfl];simp only[go_sem,c149,beq_self_eq_true,hg,Street.enc,NL.enc,UM]
 .rw[<-ZSw];exact Zw (λt=>rfl) _
def Z4d(w:Wk)(l:List Unit')(k:Nat)(x:Unit')(hx:l[k]?=some x)(hle:l.length<=1000000):pfn rE 151 [.isl false false 6<|l.map Unit'.enc,I k,.clo (.func 152) [] [.iptr true [.iptr true<|wkC w]]]=some (.isl false false 6<|(ZK l k<|UN w.e).map Unit'.enc):=by
 have hk:=Z7 hx;have hg:=Z6 (f:=Unit'.enc) hx;have hs:∀v,((l.map Unit'.enc).set k v)[k]?=some v:=λv=>by simp[hk]
 rw[YA hx,ZSw];refine Xk (sz:=6) (f:=52) rfl rfl rfl _ _ _ (.tup []) false k (by simpa using hk) (Xj (λ_=>rfl) _) (by simpa using hle) ?_ (by simp) ?_
 .rw[Q6 (f:=152) rfl rfl];simp only[go_sem,c152,beq_self_eq_true,hg,hs,List.set_set,ZTm,ZS4,Unit'.enc,UN]
 .rw[<-ZSw];exact Zw (λt=>rfl) _
def Z4e{E:Env}{α:Type}{sz:Nat}{n:Option Nat}{enc:α->AV}{p:α->Bool}{g:Nat}{cap:List AV}(l:List α)(hfz:∀x∈l,Ql [] (enc x::cap)=some (enc x::cap))(hl:l.length<=4611686018427387904)(henc:∀x∈l,Yu n<|enc x)
 (hp:∀x∈l,pfn E g (enc x::cap)=some (.bool<|p x)) (bw ex:Bool):∀(post pre:List α),l=pre++post->
  ∃fr',Zb E (.loop [0,1,7,8]<|XB sz n) (Vd sz g cap enc l bw ex pre.length) []=some (if Zp p post pre.length=-1 then .exit 0 else .ret,fr',[])/\(Zp p post pre.length≠-1->get fr' 4=.int .i64 (Zp p post pre.length)):=by
 intro post;induction post with
 |nil=>
  intro pre hpre;have hd:decide ((pre.length:Int)<(l.length:Int))=false:=by subst hpre;simp
  rw[J2];unfold Vd;simp only[go_sem,XB,hd,qy,reduceIte,Zp];exact⟨_,rfl,λh=>absurd rfl h⟩
 |cons x post ih=>
  intro pre hpre;have hx:x∈l:=by rw[hpre];simp
  have hlen:pre.length<l.length:=by rw[hpre];simp
  have hd:decide ((pre.length:Int)<(l.length:Int))=true:=by simpa using hlen
  have hget:ixG (l.map enc) (pre.length:Int)=some (enc x):=by rw[hpre,ZSm,ZS9];have:=RK (pre.map enc) (enc x)<|post.map enc;rwa[ZS4]at this
  have htk:=(henc x hx).2;have hcl:=hfz x hx;have hpx:=hp x hx;rw[J2];unfold Vd;have hw:IntKind.i64.wrap ((pre.length:Int)+1)=((pre++[x]).length:Int):=by rw[Zx<|by omega];simp
  have hw':((pre++[x]).length:Int)=(pre.length:Int)+1:=by simp
  cases hpv:p x with
  |true=>
   have h0:((pre.length:Int)=-1)=False:=by simp
   simp only[go_sem,XB,hd,hget,htk,hcl,hpx,hpv,qy,reduceIte,Zp,ZSa,ZS8,h0];exact⟨_,rfl,λ_=>rfl⟩
  |false=>
   obtain⟨fr',h1,h2⟩:=ih (pre++[x])<|by simp[hpre]
   rw[hw']at h1 h2;simp only[go_sem,XB,hd,hget,htk,hcl,hpx,hpv,hw,qy,Nat.reduceAdd,reduceIte,Zp,ZSa,ZS8];rw[ZSv]at h1;exact⟨fr',(Dl<|by rfl).trans h1,h2⟩
def FG{E:Env}{f:Nat}{α:Type}{sz:Nat}{n:Option Nat}{enc:α->AV}{p:α->Bool}{g:Nat}{cap:List AV}(hs:E.sum f=none)(hf:E.fn f=some ⟨[.tmp 4],GR sz n⟩)(l:List α)(hfz:∀x∈l,Ql [] (enc x::cap)=some (enc x::cap))(hl:l.length<=4611686018427387904)
 (henc:∀x∈l,Yu n<|enc x) (hp:∀x∈l,pfn E g (enc x::cap)=some (.bool<|p x)) (bw ex:Bool):pfn E f [.isl bw ex sz<|l.map enc,.clo (.func g) [] cap]=some (.int .i64<|Zp p l 0):=by
 rw[Z5 hs hf];obtain⟨fr',h1,h2⟩:=Z4e (E:=E) l hfz hl henc hp bw ex l [] rfl;have hr:Z2 [0,1,7,8] [(8,AV.int .i64 0),(7,AV.int .i64 l.length),(6,AV.isl bw ex sz<|l.map enc),(4,AV.int .i64 0),(0,AV.isl bw ex sz<|l.map enc),(1,AV.clo (.func g) [] cap)]=Z2 [0,1,7,8] (Vd sz g cap enc l bw ex 0):=by rfl
 have hL:Zb E (.loop [0,1,7,8]<|XB sz n) [(0,AV.isl bw ex sz<|l.map enc),(1,AV.clo (.func g) [] cap),(7,AV.int .i64 l.length),(8,AV.int .i64 0)] []=some (if Zp p l 0=-1 then .exit 0 else .ret,fr',[]):=h1
 unfold GR;by_cases h0:Zp p l 0=-1
 .rw[if_pos h0]at hL;simp only[go_sem,hL,h0,qy,Nat.reduceAdd,ZS4]
 .rw[if_neg h0]at hL;have h3:get fr' 4=AV.int .i64 (Zp p l 0):=h2 h0;simp only[go_sem,hL,h3,qy,Nat.reduceAdd,ZS4]
def Kf(s:Sta)(id:Str):Bool:=s.Doors.any<|λx=>Z3 x.Street id&&x.Ended==-1
def Z4f(s:Sta)(hs:StS s)(id:Str):pfn rE 147 [.isl false false 16<|s.Doors.map Door.enc,.clo (.func 148) [] [.iptr true [.str id]]]=some (.bool<|Kf s id):=by
 have hp:∀x:Door,pfn rE 148 [x.enc,.iptr true [.str id]]=some (.bool<|Z3 x.Street id&&x.Ended==-1):=λx=>by
  rw[Z5 (f:=148) rfl rfl];cases c1:Z3 x.Street id with
  |false=>simp only[go_sem,c148,Door.enc,NL.enc,c1]
  |true=>simp only[go_sem,c148,Door.enc,NL.enc,c1]
 have h1:=FG (E:=rE) (f:=214) (sz:=16) (n:=some 16) (enc:=Door.enc) (p:=λx=>Z3 x.Street id&&x.Ended==-1) (g:=148) (cap:=[.iptr true [.str id]]) rfl rfl s.Doors (λx _=>GQ _ _ rfl (by simp[QJ,msz,Door.enc,NL.enc])) (by have:=hs.doors;omega) (λx _=>x.el) (λx _=>hp x) false false
 rw[Z5 (f:=147) rfl rfl];unfold Kf;rw[<-Vg];unfold WG;simp only[go_sem,c147,h1]
def Kg(s:Sta)(id:Str):Bool:=!decide (Qo s id<0)&&WM s (Qo s id)==-1
def Kh(s:Sta)(id:Str):Bool:=!decide (ZL s id<0)&&QF s (ZL s id)==-1
def Ki(s:Sta)(id:Str):Bool:=!decide (Zn s id<0)&&QN s (Zn s id)==-1
def NW(s:Sta)(k:Int):Int:=match s.Units[k.toNat]? with|some b=>b.Ended|none=>0
def UO(s:Sta)(id:Str):Bool:=!decide (Wf s id<0)&&NW s (Wf s id)==-1
def Hu(w:Wk)(l:List Region):Wk:={w with s:={w.s with Regions:=l}}
def Hv(w:Wk)(l:List Street):Wk:={w with s:={w.s with Streets:=l}}
abbrev shT(w:Wk):Hp:=[.row 1 [.ptr 2 0 0 1],.row 1 [.str w.e.Id]]
def Z4g(o0 o1:AObj)(h0:∀n,Zj n o0=true)(h1:∀n,Zj n o1=true)(w:Wk)(hw:WkS w):
 (Kg w.s w.e.Id=true->∃fr' t,Zb rE s83p2 [(1,.ptr 3 0 0 1),(3,.ptr 4 0 0 1)] (wH o0 o1 w++shT w)=some (.ret,fr',wH o0 o1 (Hu w<|ZK w.s.Regions (Qo w.s w.e.Id).toNat<|UL w.e)++t)/\get fr' 2=I 0)/\
 (Kg w.s w.e.Id=false->Zb rE s83p2 [(1,.ptr 3 0 0 1),(3,.ptr 4 0 0 1)] (wH o0 o1 w++shT w)=some (.normal,[(1,.ptr 3 0 0 1),(3,.ptr 4 0 0 1),(4,I<|Qo w.s w.e.Id),(32,.bool false)],wH o0 o1 w++shT w)):=by
 have hr:=NI w.s hw.s w.e.Id;unfold Kg;cases c1:decide (Qo w.s w.e.Id<0)with
 |true=>
  have d1:=JE c1;refine⟨λh=>(by cases h),λ_=>?_⟩
  simp only[go_sem,s83p2,wH,shT,hr,d1]
 |false=>
  have d1:=K9 c1;obtain⟨j,x,hj,hx⟩:=QC c1;have hj':Qo w.s w.e.Id=(j:Int):=hj;have gx:=Z6 (f:=Region.enc) hx;have hE:WM w.s (j:Int)=x.Ended:=by simp[WM,hx]
  have hn:((j:Int)).toNat=j:=rfl;have hch:=Z4b w w.s.Regions j x hx (by have:=hw.s.regions;omega)
  rw[hj']at hr d1⊢;rw[hE,hn];cases c2:x.Ended==-1 with
  |true=>
   refine⟨λ_=>⟨_,[.row 1 [.ptr 2 0 0 1],.row 1 [.str w.e.Id]],by simp only[go_sem,s83p2,wH,shT,Hu,hr,d1,gx,Region.enc,NL.enc,c2,hch,h0,h1];rfl,by simp only[go_sem]⟩,λh=>(by cases h)⟩
  |false=>
   refine⟨λh=>(by cases h),λ_=>?_⟩
   simp only[go_sem,s83p2,wH,shT,hr,d1,gx,Region.enc,NL.enc,c2,h0,h1]
def Z4h(o0 o1:AObj)(h0:∀n,Zj n o0=true)(h1:∀n,Zj n o1=true)(w:Wk)(hw:WkS w)(v:AV):
 (Kh w.s w.e.Id=true->∃fr' t,Zb rE s83p3 [(1,.ptr 3 0 0 1),(3,.ptr 4 0 0 1),(4,v),(32,.bool false)] (wH o0 o1 w++shT w)=some (.ret,fr',wH o0 o1 (bif Kf w.s w.e.Id then w else Hv w<|ZK w.s.Streets (ZL w.s w.e.Id).toNat<|UM w.e)++t)/\get fr' 2=I (bif Kf w.s w.e.Id then 11 else 0))/\
 (Kh w.s w.e.Id=false->Zb rE s83p3 [(1,.ptr 3 0 0 1),(3,.ptr 4 0 0 1),(4,v),(32,.bool false)] (wH o0 o1 w++shT w)=some (.normal,[(1,.ptr 3 0 0 1),(3,.ptr 4 0 0 1),(5,I<|ZL w.s w.e.Id),(64,.bool false)],wH o0 o1 w++shT w)):=by
 have hr:=K7 w.s hw.s w.e.Id;have ho:=Z4f w.s hw.s w.e.Id;unfold Kh;cases c1:decide (ZL w.s w.e.Id<0)with
 |true=>
  have d1:=JE c1;refine⟨λh=>(by cases h),λ_=>?_⟩
  simp only[go_sem,s83p3,wH,shT,hr,d1]
 |false=>
  have d1:=K9 c1;obtain⟨j,x,hj,hx⟩:=QC c1;have hj':ZL w.s w.e.Id=(j:Int):=hj;have gx:=Z6 (f:=Street.enc) hx;have hE:QF w.s (j:Int)=x.Ended:=by simp[QF,hx]
  have hn:((j:Int)).toNat=j:=rfl;have hch:=Z4c w w.s.Streets j x hx (by have:=hw.s.streets;omega)
  rw[hj']at hr d1⊢;rw[hE,hn];cases c2:x.Ended==-1 with
  |true=>
   refine⟨λ_=>?_,λh=>(by cases h)⟩
   cases c5003:Kf w.s w.e.Id with
   |true=>
    rw[c5003]at ho;exact⟨_,[.row 1 [.ptr 2 0 0 1],.row 1 [.str w.e.Id]],by simp only[go_sem,s83p3,wH,shT,hr,d1,gx,Street.enc,NL.enc,c2,ho,h0,h1];rfl,by simp only[go_sem]⟩
   |false=>
    rw[c5003]at ho;exact⟨_,[.row 1 [.ptr 2 0 0 1],.row 1 [.str w.e.Id]],by simp only[go_sem,s83p3,wH,shT,Hv,hr,d1,gx,Street.enc,NL.enc,c2,ho,hch,h0,h1];rfl,by simp only[go_sem]⟩
  |false=>
   refine⟨λh=>(by cases h),λ_=>?_⟩
   simp only[go_sem,s83p3,wH,shT,hr,d1,gx,Street.enc,NL.enc,c2,h0,h1]
def Z4i(o0 o1:AObj)(h0:∀n,Zj n o0=true)(h1:∀n,Zj n o1=true)(w:Wk)(hw:WkS w)(v:AV):
 (Ki w.s w.e.Id=true->∃fr' t,Zb rE s83p4 [(1,.ptr 3 0 0 1),(3,.ptr 4 0 0 1),(5,v),(64,.bool false)] (wH o0 o1 w++shT w)=some (.ret,fr',wH o0 o1 (Qf w (Zn w.s w.e.Id).toNat ⟨false,[]⟩)++t)/\get fr' 2=I 0)/\
 (Ki w.s w.e.Id=false->Zb rE s83p4 [(1,.ptr 3 0 0 1),(3,.ptr 4 0 0 1),(5,v),(64,.bool false)] (wH o0 o1 w++shT w)=some (.normal,[(1,.ptr 3 0 0 1),(3,.ptr 4 0 0 1),(6,I<|Zn w.s w.e.Id),(103,.bool false)],wH o0 o1 w++shT w)):=by
 have hr:=find_ok w.s hw.s w.e.Id;unfold Ki;cases c1:decide (Zn w.s w.e.Id<0)with
 |true=>
  have d1:=JE c1;refine⟨λh=>(by cases h),λ_=>?_⟩
  simp only[go_sem,s83p4,wH,shT,hr,d1]
 |false=>
  have d1:=K9 c1;obtain⟨j,x,hj,hx⟩:=QC c1;have hj':Zn w.s w.e.Id=(j:Int):=hj;have gx:=Z6 (f:=Door.enc) hx;have hE:QN w.s (j:Int)=x.Ended:=by simp[QN,hx]
  have hn:((j:Int)).toNat=j:=rfl;have he:=Hq o0 o1 h0 h1 ⟨false,[]⟩ w hw.s.units (by have:=hw.s.doors;omega) j x hx [.row 1 [.ptr 2 0 0 1],.row 1 [.str w.e.Id]]<|Or.inr ⟨_,_,rfl,FE,λn _=>rfl⟩
  rw[hj']at hr d1⊢;rw[hE,hn];cases c2:x.Ended==-1 with
  |true=>
   generalize Qf w j ⟨false,[]⟩=W2 at he⊢;simp only[wH,ZS8,ZSa,ZSq]at he;exact⟨λ_=>⟨_,[.row 1 [.ptr 2 0 0 1],.row 1 [.str w.e.Id]],by simp only[go_sem,s83p4,wH,shT,hr,d1,gx,Door.enc,NL.enc,c2,he,h0,h1];rfl,by simp only[go_sem]⟩,λh=>(by cases h)⟩
  |false=>
   refine⟨λh=>(by cases h),λ_=>?_⟩
   simp only[go_sem,s83p4,wH,shT,hr,d1,gx,Door.enc,NL.enc,c2,h0,h1]
def Z4j(o0 o1:AObj)(h0:∀n,Zj n o0=true)(h1:∀n,Zj n o1=true)(w:Wk)(hw:WkS w)(v:AV):
 (UO w.s w.e.Id=true->∃fr' t,Zb rE s83p5 [(1,.ptr 3 0 0 1),(3,.ptr 4 0 0 1),(6,v),(103,.bool false)] (wH o0 o1 w++shT w)=some (.ret,fr',wH o0 o1 (Qx w<|ZK w.s.Units (Wf w.s w.e.Id).toNat<|UN w.e)++t)/\get fr' 2=I 0)/\
 (UO w.s w.e.Id=false->Zb rE s83p5 [(1,.ptr 3 0 0 1),(3,.ptr 4 0 0 1),(6,v),(103,.bool false)] (wH o0 o1 w++shT w)=some (.normal,[(1,.ptr 3 0 0 1),(3,.ptr 4 0 0 1),(7,I<|Wf w.s w.e.Id),(126,.bool false)],wH o0 o1 w++shT w)):=by
 have hr:=Z2Q w.s hw.s w.e.Id;unfold UO;cases c1:decide (Wf w.s w.e.Id<0)with
 |true=>
  have d1:=JE c1;refine⟨λh=>(by cases h),λ_=>?_⟩
  simp only[go_sem,s83p5,wH,shT,hr,d1]
 |false=>
  have d1:=K9 c1;obtain⟨j,x,hj,hx⟩:=QC c1;have hj':Wf w.s w.e.Id=(j:Int):=hj;have gx:=Z6 (f:=Unit'.enc) hx;have hE:NW w.s (j:Int)=x.Ended:=by simp[NW,hx]
  have hn:((j:Int)).toNat=j:=rfl;have hch:=Z4d w w.s.Units j x hx (by have:=hw.s.units;omega)
  rw[hj']at hr d1⊢;rw[hE,hn];cases c2:x.Ended==-1 with
  |true=>
   refine⟨λ_=>⟨_,[.row 1 [.ptr 2 0 0 1],.row 1 [.str w.e.Id]],by simp only[go_sem,s83p5,wH,shT,Qx,hr,d1,gx,Unit'.enc,c2,hch,h0,h1];rfl,by simp only[go_sem]⟩,λh=>(by cases h)⟩
  |false=>
   refine⟨λh=>(by cases h),λ_=>?_⟩
   simp only[go_sem,s83p5,wH,shT,hr,d1,gx,Unit'.enc,c2,h0,h1]
def Hw(w:Wk):Int:=
 bif Kg w.s w.e.Id then 0 else bif Kh w.s w.e.Id then(bif Kf w.s w.e.Id then 11 else 0)else bif Ki w.s w.e.Id then 0 else bif UO w.s w.e.Id then 0
 else bif twB w w.e.Id&&decide (Y1 w.s w.e.Id<0)then 11 else 10
def Hy(w:Wk):Wk:=
 bif Kg w.s w.e.Id then Hu w<|ZK w.s.Regions (Qo w.s w.e.Id).toNat<|UL w.e
 else bif Kh w.s w.e.Id then Hv w<|ZK w.s.Streets (ZL w.s w.e.Id).toNat<|UM w.e
 else bif Ki w.s w.e.Id then Qf w (Zn w.s w.e.Id).toNat ⟨false,[]⟩
 else Qx w<|ZK w.s.Units (Wf w.s w.e.Id).toNat<|UN w.e
def Z4k(o0 o1:AObj)(h0:∀n,Zj n o0=true)(h1:∀n,Zj n o1=true)(w:Wk)(hw:WkS w):∃t,fnV rE 83 [.ptr 2 0 0 1] (wH o0 o1 w)=some (I<|Hw w,wH o0 o1 (bif Hw w==0 then Hy w else w)++t):=by
 have z10:((10:Int)==0)=false:=rfl;have z11:((11:Int)==0)=false:=rfl;have z0:((0:Int)==0)=true:=rfl;have hR:=Z4g o0 o1 h0 h1 w hw;have hS:=Z4h o0 o1 h0 h1 w hw<|I<|Qo w.s w.e.Id;have hD:=Z4i o0 o1 h0 h1 w hw<|I<|ZL w.s w.e.Id;have hU:=Z4j o0 o1 h0 h1 w hw<|I<|Zn w.s w.e.Id;have htw:=Wj w hw w.e.Id;have hb:=Hb w.s hw.s w.e.Id;simp only[wH,shT,ZS8,ZSa]at hR hS hD hU;rw[Q6 (f:=83) (c:=c83) rfl rfl,c83_eq];unfold Hw Hy;cases c1:Kg w.s w.e.Id with
 |true=>
  obtain⟨fr',t,h2,h3⟩:=hR.1 c1;refine⟨t,?_⟩;generalize Hu w (ZK w.s.Regions (Qo w.s w.e.Id).toNat<|UL w.e)=W at h2⊢;simp only[go_sem,s83p0,s83p1,wH,h2,h3,z0]
 |false=>
 have h2:=hR.2 c1;cases c2:Kh w.s w.e.Id with
 |true=>
  obtain⟨fr',t,h3,h4⟩:=hS.1 c2;refine⟨t,?_⟩;cases c5003:Kf w.s w.e.Id with
  |true=>
   rw[c5003]at h3 h4;simp only[cond_true]at h3 h4;simp only[go_sem,s83p0,s83p1,wH,h2,h3,h4,z11]
  |false=>
   rw[c5003]at h3 h4;simp only[cond_false]at h3 h4;generalize Hv w (ZK w.s.Streets (ZL w.s w.e.Id).toNat<|UM w.e)=W at h3⊢;simp only[go_sem,s83p0,s83p1,wH,h2,h3,h4,z0]
 |false=>
 have h3:=hS.2 c2;cases c5003:Ki w.s w.e.Id with
 |true=>
  obtain⟨fr',t,h4,h5⟩:=hD.1 c5003;refine⟨t,?_⟩;generalize Qf w (Zn w.s w.e.Id).toNat ⟨false,[]⟩=W at h4⊢;simp only[go_sem,s83p0,s83p1,wH,h2,h3,h4,h5,z0]
 |false=>
 have h4:=hD.2 c5003;cases c5004:UO w.s w.e.Id with
 |true=>
  obtain⟨fr',t,h5,h6⟩:=hU.1 c5004;refine⟨t,?_⟩;generalize Qx w (ZK w.s.Units (Wf w.s w.e.Id).toNat<|UN w.e)=W at h5⊢;simp only[go_sem,s83p0,s83p1,wH,h2,h3,h4,h5,h6,z0]
 |false=>
 have h5:=hU.2 c5004;refine⟨[.row 1 [.ptr 2 0 0 1],.row 1 [.str w.e.Id]],?_⟩;cases c5005:twB w w.e.Id with
 |false=>
  rw[c5005]at htw;simp only[go_sem,s83p0,s83p1,s83p6,s83p7,wH,h2,h3,h4,h5,htw,z10]
 |true=>
 rw[c5005]at htw;cases c5006:decide (Y1 w.s w.e.Id<0)with
 |true=>simp only[go_sem,s83p0,s83p1,s83p6,s83p7,wH,h2,h3,h4,h5,htw,hb,c5006,z11]
 |false=>simp only[go_sem,s83p0,s83p1,s83p6,s83p7,wH,h2,h3,h4,h5,htw,hb,c5006,z10]
def UP(n:HN)(x:Door):Door:={x with Number:=n}
def Z4l(e:Ent)(l:List Door)(k:Nat)(x:Door)(hx:l[k]?=some x)(hle:l.length<=1000000):pfn rE 141 [.isl false false 16<|l.map Door.enc,I k,.clo (.func 142) [] [.iptr true [.str e.Id,.int .i64 e.Number.N,.str e.Number.Letter,.int .i64 e.Number.Num,.int .i64 e.Number.Den,.int .i64 e.Point.X,.int .i64 e.Point.Y]]]=some (.isl false false 16<|(ZK l k<|UP e.Number).map Door.enc):=by
 have hk:=Z7 hx;have hg:=Z6 (f:=Door.enc) hx;rw[YA hx,ZSw];refine Xk (sz:=16) (f:=210) rfl rfl rfl _ _ _ (.tup []) false k (by simpa using hk) (Xj (λ_=>rfl) _) (by simpa using hle) ?_ (by simp) ?_
 .rw[Q6 (f:=142) rfl rfl];simp only[go_sem,c142,beq_self_eq_true,hg,Door.enc,NL.enc,UP]
 .rw[<-ZSw];exact Zw (λt=>rfl) _
def Kj(s:Sta)(x:Ent):Bool:=decide (Zn s x.Id<0)
def Hz(w:Wk)(x:Ent):Bool:=QN w.s (Zn w.s x.Id) != -1||!Z3 (XP w.s<|Zn w.s x.Id) w.e.Id
def FH{g:Nat}{cap:List AV}{p:Ent->Bool}(l:List Ent)(hl:l.length<=1000)(ex:Bool)(hfz:∀x∈l,Ql [] (x.enc::cap)=some (x.enc::cap))(hcl:Ql [] [.isl false ex 7<|l.map Ent.enc,.clo (.func g) [] cap]=some [.isl false ex 7<|l.map Ent.enc,.clo (.func g) [] cap])
 (hp:∀x∈l,pfn rE g (x.enc::cap)=some (.bool<|p x)):pfn rE 139 [.isl false ex 7<|l.map Ent.enc,.clo (.func g) [] cap]=some (.bool<|l.any p):=by
 have h1:=FG (E:=rE) (f:=209) (sz:=7) (n:=some 7) (enc:=Ent.enc) (p:=p) (g:=g) (cap:=cap) rfl rfl l hfz (by omega) (λx _=>x.el) hp false ex
 rw[Z5 (f:=139) rfl rfl,<-Vg];unfold WG;simp only[go_sem,c139,h1,hcl]
abbrev JI(w:Wk):List AV:=[.iptr true [.iptr true<|wkC w]]
def ZDV(w:Wk)(x:Ent):Ql [] (x.enc::JI w)=some (x.enc::JI w):=GQ _ _ rfl (by simp[QJ,msz,Ent.enc])
def FJ(w:Wk)(g:Nat)(l:List Ent)(ex:Bool):Ql [] [.isl false ex 7<|l.map Ent.enc,.clo (.func g) []<|JI w]=some [.isl false ex 7<|l.map Ent.enc,.clo (.func g) []<|JI w]:=GQ _ _ rfl (by simp[QJ,msz])
def Z4m(w:Wk)(hw:WkS w):pfn rE 139 [.isl false w.e.Lst.ex 7<|w.e.Lst.l.map Ent.enc,.clo (.func 138) []<|JI w]=some (.bool<|w.e.Lst.l.any<|Kj w.s):=by
 refine FH _ (by have:=hw.e.lst;omega) _ (λx _=>ZDV w x) (FJ w _ _ _)<|λx _=>?_
 have hf:=find_ok w.s hw.s x.Id;rw[Z5 (f:=138) rfl rfl];unfold Kj;simp only[go_sem,c138,Ent.enc,hf]
def Z4n(w:Wk)(hw:WkS w)(hb:w.e.Lst.l.any (Kj w.s)=false):pfn rE 139 [.isl false w.e.Lst.ex 7<|w.e.Lst.l.map Ent.enc,.clo (.func 140) []<|JI w]=some (.bool<|w.e.Lst.l.any<|Hz w):=by
 refine FH _ (by have:=hw.e.lst;omega) _ (λx _=>ZDV w x) (FJ w _ _ _)<|λx hx=>?_
 have hf:=find_ok w.s hw.s x.Id;rw[ZU1]at hb;have hb1:decide (Zn w.s x.Id<0)=false:=by simpa[Kj]using hb x hx
 obtain⟨j,y,hj,hy⟩:=QC hb1;have hj':Zn w.s x.Id=(j:Int):=hj;have gy:=Z6 (f:=Door.enc) hy;have hdE:QN w.s (j:Int)=y.Ended:=by simp[QN,hy]
 have hdS:XP w.s (j:Int)=y.Street:=by simp[XP,hy]
 unfold Hz;rw[hj']at hf⊢;rw[hdE,hdS,Z5 (f:=140) rfl rfl];cases c1:y.Ended != -1 with
 |true=>simp only[go_sem,c140,Ent.enc,hf,gy,Door.enc,NL.enc,c1]
 |false=>simp only[go_sem,c140,Ent.enc,hf,gy,Door.enc,NL.enc,c1]
def Kk(D:List Door)(id:Str):Int:=Zp (λx:Door=>Z3 x.Id id) D 0
def NX{α β:Type}(f:α->β)(p:β->Bool):∀(l:List α)(i:Int),Zp (λx=>p<|f x) l i=Zp p (l.map f) i
 |[],_=>rfl
 |x::r,i=>by simp only[Zp,ZS9];rw[NX f p r]
def Z4o{D D':List Door}(h:D.map (·.Id)=D'.map (·.Id))(id:Str):Kk D id=Kk D' id:=by
 unfold Kk;rw[NX (λx:Door=>x.Id)<|λi=>Z3 i id,NX (λx:Door=>x.Id) (λi=>Z3 i id) D',h]
def FK{α β:Type}(g:α->β)(f:α->α)(h:∀x,g (f x)=g x)(l:List α)(k:Nat):(ZK l k f).map g=l.map g:=by
 unfold ZK;cases hk:l[k]? with
 |none=>rfl
 |some x=>
  dsimp only;rw[ZSw,h];have hi:=Z7 hk;have:(l.map g)[k]'(by simpa using hi)=g x:=by
   rw[ZS5 hi]at hk;simp[Option.some.inj hk]
  rw[<-this,List.set_getElem_self]
def Yn(D:List Door)(l:List Ent):Nat->List Door
 |0=>D
 |i+1=>match l[i]? with
  |some x=>ZK (Yn D l i) (Kk (Yn D l i) x.Id).toNat<|UP x.Number
  |none=>Yn D l i
def HA(D:List Door)(l:List Ent):∀i,(Yn D l i).map (·.Id)=D.map (·.Id)
 |0=>rfl
 |i+1=>by
  rw[Yn];cases l[i]? with
  |none=>exact HA D l i
  |some x=>exact(FK (λx:Door=>x.Id) (UP x.Number) (λ_=>rfl) _ _).trans (HA D l i)
def FL(D:List Door)(l:List Ent)(i:Nat):(Yn D l i).length=D.length:=by
 have:=congrArg List.length<|HA D l i;simpa using this
def Z4p(o0 o1:AObj)(h0:∀n,Zj n o0=true)(h1:∀n,Zj n o1=true)(w:Wk)(hw:WkS w)(hb:w.e.Lst.l.any (Kj w.s)=false):
 ∃fr',Zg rE [1,54,55,56] c79L0b [(1,.ptr 3 0 0 1),(54,.isl false w.e.Lst.ex 7<|w.e.Lst.l.map Ent.enc),(55,I w.e.Lst.l.length),(56,.int .i64 0)] (wH o0 o1 w++[.row 1 [.ptr 2 0 0 1]]) =
  some (.exit 0,fr',wH o0 o1 (Ym w<|Yn w.s.Doors w.e.Lst.l w.e.Lst.l.length)++[.row 1 [.ptr 2 0 0 1]]):=by
 have hl:=hw.e.lst;have hdoors:=hw.s.doors;have L:=Y8 (E:=rE) (live:=[1,54,55,56]) (b:=c79L0b) w.e.Lst.l.length
  (λi=>[(1,.ptr 3 0 0 1),(54,.isl false w.e.Lst.ex 7<|w.e.Lst.l.map Ent.enc),(55,I w.e.Lst.l.length),(56,I i)])
  (λi=>wH o0 o1 (Ym w<|Yn w.s.Doors w.e.Lst.l i)++[.row 1 [.ptr 2 0 0 1]]) (λi=>rfl)
  (λi hi=>by
   obtain⟨x,hx⟩:∃x,w.e.Lst.l[i]?=some x:=⟨_,ZS5 hi⟩;have hg:=Z6 (f:=Ent.enc) hx;have hi':=Zh hi;have hwr:=Zx (n:=i)<|by omega
   have hS:Yn w.s.Doors w.e.Lst.l (i+1)=ZK (Yn w.s.Doors w.e.Lst.l i) (Kk (Yn w.s.Doors w.e.Lst.l i) x.Id).toNat (UP x.Number):=by
    rw[Yn,hx]
   have hids:=Z4o (HA w.s.Doors w.e.Lst.l i) x.Id;have hlen:=FL w.s.Doors w.e.Lst.l i;rw[hS];generalize Yn w.s.Doors w.e.Lst.l i=D at hids hlen⊢;have hb2:=hb;rw[ZU1]at hb2;have hb1:decide (Kk D x.Id<0)=false:=by
    rw[hids];have:=hb2 x<|ZSd hx;rw[ZTG]at this;exact this
   obtain⟨j,y,hj,hy⟩:=QC hb1;have hj':Kk D x.Id=(j:Int):=hj;have hf:=find_ok (Ym w D).s ⟨hw.s.regions,hw.s.streets,hw.s.buildings,by show D.length<=1000;omega,hw.s.units,hw.s.merged,hw.s.rulings⟩ x.Id
   have hf2:Zn (Ym w D).s x.Id=(j:Int):=hj;have hn:((j:Int)).toNat=j:=rfl;have hch:=Z4l x D j y hy<|by omega
   rw[hf2]at hf;rw[hj',hn];simp only[Ym]at hf⊢;refine⟨[(1,.ptr 3 0 0 1),(54,.isl false w.e.Lst.ex 7<|w.e.Lst.l.map Ent.enc),(55,I w.e.Lst.l.length),(56,I (i+1:Nat))],?_,rfl⟩;simp only[go_sem,c79L0b,wH,hg,hi',hwr,hf,hch,Ent.enc,h0,h1])
  (e:=.exit 0) (fr:=[(1,.ptr 3 0 0 1),(54,.isl false w.e.Lst.ex 7<|w.e.Lst.l.map Ent.enc),(55,I w.e.Lst.l.length),(56,I w.e.Lst.l.length)]) (h:=wH o0 o1 (Ym w<|Yn w.s.Doors w.e.Lst.l w.e.Lst.l.length)++[.row 1 [.ptr 2 0 0 1]])
  (by simp only[go_sem,c79L0b,ZG,wH,Ym,h0,h1]) (by simp)
 exact⟨_,L⟩
def HD(w:Wk):Int:=
 bif decide (ZL w.s w.e.Id<0)||w.e.Lst.l.any (Kj w.s)then 10
 else bif QF w.s (ZL w.s w.e.Id) != -1||w.e.Lst.l.any (Hz w)then 11 else 0
def NY(w:Wk):Wk:=Ym w<|Yn w.s.Doors w.e.Lst.l w.e.Lst.l.length
def Z4q(o0 o1:AObj)(h0:∀n,Zj n o0=true)(h1:∀n,Zj n o1=true)(w:Wk)(hw:WkS w):∃t,fnV rE 79 [.ptr 2 0 0 1] (wH o0 o1 w)=some (I<|HD w,wH o0 o1 (bif HD w==0 then NY w else w)++t):=by
 have hs:=K7 w.s hw.s w.e.Id;have hb1:=Z4m w hw;have z10:((10:Int)==0)=false:=rfl;have z11:((11:Int)==0)=false:=rfl;have z0:((0:Int)==0)=true:=rfl;rw[Q6 (f:=79) rfl rfl];unfold HD;refine⟨[.row 1 [.ptr 2 0 0 1]],?_⟩;cases c1:decide (ZL w.s w.e.Id<0)with
 |true=>simp only[go_sem,c79,wH,hs,c1,z10]
 |false=>
 cases c2:w.e.Lst.l.any (Kj w.s)with
 |true=>
  rw[c2]at hb1;simp only[go_sem,c79,wH,hs,c1,hb1,z10]
 |false=>
 obtain⟨f1,l1⟩:=Z4p o0 o1 h0 h1 w hw c2;have hb2:=Z4n w hw c2;rw[c2]at hb1;obtain⟨j,x,hj,hx⟩:=QC c1;have hj':ZL w.s w.e.Id=(j:Int):=hj;have gx:=Z6 (f:=Street.enc) hx;have hE:QF w.s (j:Int)=x.Ended:=by simp[QF,hx]
 rw[hj']at hs c1⊢;rw[hE];cases c5003:x.Ended != -1 with
 |true=>simp only[go_sem,c79,wH,hs,c1,hb1,gx,Street.enc,NL.enc,c5003,z11]
 |false=>
 cases c5004:w.e.Lst.l.any (Hz w)with
 |true=>
  rw[c5004]at hb2;simp only[go_sem,c79,wH,hs,c1,hb1,gx,Street.enc,NL.enc,c5003,hb2,z11]
 |false=>
  rw[c5004]at hb2;unfold NY;generalize Ym w (Yn w.s.Doors w.e.Lst.l w.e.Lst.l.length)=W at l1⊢;simp only[wH,ZS8,ZSa]at l1;simp only[go_sem,c79,c79L0,wH,hs,c1,hb1,gx,Street.enc,NL.enc,c5003,hb2,l1,z0,h0,h1]
def c38_eq:c38=.seq s38p0 (.seq s38p1<|.seq s38p2<|.seq s38p3<|.seq s38p4<|.seq s38p5<|.seq s38p6 .ret):=rfl
structure StF(s:Sta):Prop where
 e:StE s
 regions:s.Regions.length<=500
 streets:s.Streets.length<=500
 buildings:s.Buildings.length<=500
 doors:s.Doors.length<=500
 units:s.Units.length<=500
 merged:s.Merged.length<=500
 rulings:s.Rulings.length<=500
def wk0(s:Sta)(a:Int)(e:Event):Wk:=⟨s,a,e,Qp s⟩
def Z4r(s:Sta):(Qp s).length=s.Regions.length+(s.Streets.length+(s.Buildings.length+(s.Doors.length+s.Units.length))):=by simp[Qp]
def Z4s(s:Sta)(hs:StF s)(a:Int)(e:Event)(he:EvS e):WkS (wk0 s a e):=⟨hs.e.sizes,he,by
 have h1:=hs.regions;have h2:=hs.streets;have h3:=hs.buildings;have h4:=hs.doors;have h5:=hs.units;show(Qp s).length<=100000
 rw[Z4r];omega⟩
def Q1(w:Wk):Int:=
 match w.e.Kind.toNat with
 |1=>Hi w
 |2=>bif twB w w.e.Id then 8 else 0
 |3=>Hk w
 |4=>Hm w
 |5=>bif twB w w.e.Id then 8 else 0
 |6=>JD w
 |7=>JB w
 |8=>HD w
 |9=>Ka w
 |10=>Kc w
 |11=>Hs w
 |12=>Hw w
 |13=>Hn w
 |14=>0
 |_=>bif twB w w.e.Id then 8 else 0
def stepW(w:Wk):Wk:=
 match w.e.Kind.toNat with
 |1=>Hj w
 |2=>Jz w
 |3=>Hl w
 |4=>exW w
 |5=>JA w
 |6=>Qw w<|UE w
 |7=>JC w
 |8=>NY w
 |9=>Kb w
 |10=>Kd w
 |11=>Ht w
 |12=>Hy w
 |13=>Ho w
 |14=>Hh w
 |_=>Qw w<|UD w
def steps:List AV:=[.nilfn,.clo (.func 72) [] [],.clo (.func 73) [] [],.clo (.func 74) [] [],.clo (.func 75) [] [],.clo (.func 76) [] [],.clo (.func 77) [] [],.clo (.func 78) [] [],.clo (.func 79) [] [],.clo (.func 80) [] [],.clo (.func 81) [] [],.clo (.func 82) [] [],.clo (.func 83) [] [],.clo (.func 84) [] [],.clo (.func 85) [] [],.clo (.func 86) [] []]
abbrev HE:List AV:=[.isl false false 6 [],.isl false false 5 [],.isl false false 4 [],.isl false false 16 [],.isl false false 6 [],.isl false false 2 [],.isl false false 2 []]
abbrev apH(w:Wk):Hp:=wH (.row 7 [.agg HE]) (.row 16 [.agg steps]) w
def NZ{w w':Wk}{o0 o1:AObj}{f:Nat}{b:Bool}(h:∃t,fnV rE f [.ptr 2 0 0 1] (wH o0 o1 w)=some (I<|bif b then 8 else 0,wH o0 o1 (bif b then w else w')++t)):
 ∃t,fnV rE f [.ptr 2 0 0 1] (wH o0 o1 w)=some (I<|bif b then 8 else 0,wH o0 o1 (bif (bif b then(8:Int)else 0)==0 then w' else w)++t):=by
 cases b<;>exact h
def step_ok(o0 o1:AObj)(h0:∀n,Zj n o0=true)(h1:∀n,Zj n o1=true)(w:Wk)(hw:WkS w)(k:Nat)(hk:w.e.Kind=(k:Int))(hk1:1<=k)(hk2:k<=15)(hp:WK w.s=true)(hn:k=10->0<w.e.Ids.l.length):
 ∃g,steps[k]?=some (.clo (.func g) [] [])/\∃t,fnV rE g [.ptr 2 0 0 1] (wH o0 o1 w)=some (I<|Q1 w,wH o0 o1 (bif Q1 w==0 then stepW w else w)++t):=by
 have hkk:w.e.Kind.toNat=k:=by rw[hk];rfl
 have z0:((0:Int)==0)=true:=rfl;unfold Q1 stepW;rw[hkk];rcases(by omega:k=1\/k=2\/k=3\/k=4\/k=5\/k=6\/k=7\/k=8\/k=9\/k=10\/k=11\/k=12\/k=13\/k=14\/k=15)with rfl|rfl|rfl|rfl|rfl|rfl|rfl|rfl|rfl|rfl|rfl|rfl|rfl|rfl|rfl
 .exact⟨72,rfl,Z3H o0 o1 h0 h1 w hw⟩
 .exact⟨73,rfl,NZ<|Z3w o0 o1 w hw⟩
 .exact⟨74,rfl,Z3I o0 o1 h0 h1 w hw⟩
 .exact⟨75,rfl,Z3J o0 o1 h0 h1 w hw⟩
 .exact⟨76,rfl,NZ<|Z3x o0 o1 w hw⟩
 .exact⟨77,rfl,Z3B o0 o1 h0 h1 w hw⟩
 .exact⟨78,rfl,Z3z o0 o1 w hw⟩
 .exact⟨79,rfl,Z4q o0 o1 h0 h1 w hw⟩
 .exact⟨80,rfl,Z3X o0 o1 h0 h1 w hw⟩
 .exact⟨81,rfl,Z47 o0 o1 h0 h1 w hw<|hn rfl⟩
 .exact⟨82,rfl,Z4a o0 o1 h0 h1 w hw⟩
 .exact⟨83,rfl,Z4k o0 o1 h0 h1 w hw⟩
 .exact⟨84,rfl,Z3M o0 o1 w hw hp⟩
 .exact⟨85,rfl,Z3y o0 o1 w hw⟩
 .exact⟨86,rfl,NZ<|Z3A o0 o1 h0 h1 w hw⟩
def Gr(s s':Sta):Prop:=s'.Regions.length<=s.Regions.length+10/\s'.Streets.length<=s.Streets.length+10/\s'.Buildings.length<=s.Buildings.length+10/\s'.Doors.length<=s.Doors.length+10/\s'.Units.length<=s.Units.length+10/\s'.Merged.length<=s.Merged.length+10/\s'.Rulings.length<=s.Rulings.length+10
structure Same(s s':Sta):Prop where
 regions:s'.Regions.length=s.Regions.length
 streets:s'.Streets.length=s.Streets.length
 buildings:s'.Buildings.length=s.Buildings.length
 doors:s'.Doors.length=s.Doors.length
 units:s'.Units.length=s.Units.length
 merged:s'.Merged.length=s.Merged.length
 rulings:s'.Rulings.length=s.Rulings.length
def Same.refl(s:Sta):Same s s:=⟨rfl,rfl,rfl,rfl,rfl,rfl,rfl⟩
def Same.trans{a b c:Sta}(h:Same a b)(k:Same b c):Same a c:=⟨k.1.trans h.1,k.2.trans h.2,k.3.trans h.3,k.4.trans h.4,k.5.trans h.5,k.6.trans h.6,k.7.trans h.7⟩
def Gr.same{a b c:Sta}(h:Gr a b)(k:Same b c):Gr a c:=by
 obtain⟨h1,h2,h3,h4,h5,h6,h7⟩:=h;exact⟨by rw[k.1];exact h1,by rw[k.2];exact h2,by rw[k.3];exact h3,by rw[k.4];exact h4,by rw[k.5];exact h5,by rw[k.6];exact h6,by rw[k.7];exact h7⟩
def Same.gr{a b:Sta}(k:Same a b):Gr a b:=⟨by rw[k.1];omega,by rw[k.2];omega,by rw[k.3];omega,by rw[k.4];omega,by rw[k.5];omega,by rw[k.6];omega,by rw[k.7];omega⟩
def HF(w:Wk)(k:Nat)(a:NL Str):Same w.s (Qf w k a).s:=by
 unfold Qf;split
 .exact⟨rfl,rfl,rfl,Xm _ _ _,by simp[Qx,UH],rfl,rfl⟩
 .exact Same.refl _
def Z4t(l:List Int)(a:NL Str):∀w:Wk,Same w.s (Yg w l a).s:=by
 induction l with
 |nil=>intro w;exact Same.refl _
 |cons x r ih=>intro w;rw[UJ];exact(HF _ _ _).trans (ih _)
def FM(w:Wk)(l:List Door):∀i,Same w.s (Y6 w l i).s
 |0=>Same.refl _
 |i+1=>by
  have ih:=FM w l i;rw[Y6];cases l[i]? with
  |none=>exact ih
  |some x=>
   dsimp only;cases NV w.e.Id x with
   |false=>exact ih
   |true=>exact ih.trans<|HF _ _ _
def M0(w:Wk)(d:Door):Gr w.s (Qw w d).s:=by
 unfold Gr Qw;simp
def Z4u(w:Wk)(hl:w.e.Lst.l.length<=10):Gr w.s (stepW w).s:=by
 unfold stepW;split
 .unfold Hj;cases decide (Qo w.s w.e.Id<0)with
  |true=>simp[Gr]
  |false=>simp[Gr,Xm]
 .simp[Gr,Jz]
 .unfold Hl;cases decide (Qo w.s w.e.Id>=0)with
  |true=>simp[Gr,Xm]
  |false=>simp[Gr,Xm]
 .simp[Gr,exW,Xm]
 .simp[Gr,JA]
 .exact M0 _ _
 .simp[Gr,JC]
 .exact Same.gr ⟨rfl,rfl,rfl,FL _ _ _,rfl,rfl,rfl⟩
 .unfold Kb;split
  .refine Gr.same ?_<|HF _ _ _;unfold Gr Y5;simp;omega
  .exact(Same.refl _).gr
 .unfold Kd;split
  .exact Gr.same (M0 _ _)<|Z4t _ _ _
  .exact(Same.refl _).gr
 .unfold Ht;refine Same.gr<|Same.trans (b:=(JH w<|ZK w.s.Buildings (Y1 w.s w.e.Id).toNat<|Ke w.e).s) ⟨rfl,rfl,Xm _ _ _,rfl,rfl,rfl,rfl⟩<|FM _ _ _
 .unfold Hy;cases Kg w.s w.e.Id with
  |true=>exact Same.gr ⟨Xm _ _ _,rfl,rfl,rfl,rfl,rfl,rfl⟩
  |false=>
  cases Kh w.s w.e.Id with
  |true=>exact Same.gr ⟨rfl,Xm _ _ _,rfl,rfl,rfl,rfl,rfl⟩
  |false=>
  cases Ki w.s w.e.Id with
  |true=>exact Same.gr<|HF _ _ _
  |false=>exact Same.gr ⟨rfl,rfl,rfl,rfl,Xm _ _ _,rfl,rfl⟩
 .simp[Gr,Ho]
 .simp[Gr,Hh]
 .exact M0 _ _
def FN(s:Sta)(hs:StF s)(a:Int)(e:Event)(he:EvS e):StS (stepW<|wk0 s a e).s:=by
 obtain⟨h1,h2,h3,h4,h5,h6,h7⟩:=Z4u (wk0 s a e) he.lst;have k1:=hs.regions;have k2:=hs.streets;have k3:=hs.buildings;have k4:=hs.doors;have k5:=hs.units;have k6:=hs.merged;have k7:=hs.rulings;have e0:(wk0 s a e).s=s:=rfl;rw[e0]at h1 h2 h3 h4 h5 h6 h7;exact⟨by omega,by omega,by omega,by omega,by omega,by omega,by omega⟩
def Yh:Sta:=⟨[],[],[],[],[],[],[]⟩
def okB(s:Sta)(a:Int)(e:Event):Bool:=Jx s&&(QM a 0 0&&Q9 e)
def Qk(s:Sta)(a:Int)(e:Event):Int:=
 bif okB s a e then(bif Q1 (wk0 s a e)==0 then(bif Wh (stepW<|wk0 s a e).s.Doors then 0 else 8)else Q1<|wk0 s a e)else 1
def ZP(s:Sta)(a:Int)(e:Event):Sta:=
 bif okB s a e&&(Q1 (wk0 s a e)==0&&Wh (stepW<|wk0 s a e).s.Doors)then(stepW<|wk0 s a e).s else Yh
abbrev evL(e:Event):List AV:=[I e.Kind,I e.Day,I e.A,I e.B,I e.Office,.str e.Id,.str e.Other,.str e.Text,.isl false e.Ids.ex 1<|e.Ids.l.map encS,.isl false e.Names.ex 3<|e.Names.l.map Nm.enc,
 I e.Number.N,.str e.Number.Letter,I e.Number.Num,I e.Number.Den,I e.Point.X,I e.Point.Y,.isl false e.Path.ex 2<|e.Path.l.map Pt.enc,.isl false e.Lst.ex 7<|e.Lst.l.map Ent.enc]
def Z4v(w:Wk)(hw:WkS w)(k:Nat)(hk:w.e.Kind=(k:Int))(hk1:1<=k)(hk2:k<=15)(hp:WK w.s=true)(hn:k=10->0<w.e.Ids.l.length):
 ((Q1 w==0)=true->Zb rE s38p4 [(5,.iptr false<|evL w.e),(6,.ptr 0 0 0 1),(8,.ptr 1 0 0 1),(9,.ptr 2 0 0 1)] (apH w)=some (.normal,[(40,.bool false),(39,I 0),(6,.ptr 0 0 0 1),(9,.ptr 2 0 0 1),(10,I 0)],apH<|stepW w))/\
 ((Q1 w==0)=false->∃fr' t,Zb rE s38p4 [(5,.iptr false<|evL w.e),(6,.ptr 0 0 0 1),(8,.ptr 1 0 0 1),(9,.ptr 2 0 0 1)] (apH w)=some (.ret,fr',apH w++t)/\get fr' 6=.ptr 0 0 0 1/\get fr' 7=I (Q1 w)):=by
 have h0:∀n,Zj n (.row 7 [.agg HE])=true:=λn=>rfl
 have h1:∀n,Zj n (.row 16 [.agg steps])=true:=λn=>rfl
 have hlt:(0<=(k:Int)/\(k:Int)<((16:Nat):Int))=True:=by simp;omega
 have hkn:((k:Int)).toNat=k:=rfl;obtain⟨g,hg,t,hs⟩:=step_ok _ _ h0 h1 w hw k hk hk1 hk2 hp hn;have htk:takeC none (List.drop k steps)=some (.clo (.func g) [] []):=by
  have hl:k<steps.length:=Z7 hg;rw[ZTe hl,N3];rw[ZS5 hl]at hg;exact hg
 have nz:(Q1 w != 0) = !(Q1 w==0):=rfl;cases c:Q1 w==0 with
 |true=>
  refine⟨λ_=>?_,λh=>(by cases h)⟩
  have e0:Q1 w=0:=by simpa using c
  rw[c,cond_true]at hs;simp only[wH,ZS8,ZSa]at hs;rw[e0]at hs;have n0:((0:Int) != 0)=false:=rfl;simp only[go_sem,s38p4,apH,wH,hk,hlt,hkn,if_true,ZSh,ZSL,htk,hs,n0,h0,h1]
 |false=>
  refine⟨λh=>(by cases h),λ_=>?_⟩
  rw[c,cond_false]at hs;simp only[wH,ZS8,ZSa]at hs;rw[c]at nz;exact⟨_,[],by simp only[go_sem,s38p4,apH,wH,hk,hlt,hkn,if_true,ZSh,ZSL,htk,hs,nz,h0,h1,ZSf];rfl,by simp only[go_sem],by simp only[go_sem]⟩
def FO(e:Event)(hf:Q9 e=true)(hk:e.Kind=((10:Nat):Int)):0<e.Ids.l.length:=by
 simp only[Q9,ZS3]at hf;have h:=hf.2.2.2.2;unfold Q8 at h;rw[hk]at h;have h2:(ZD e.Ids.l.length 2 8&&(Qv (e.Id::e.Ids.l)&&(YO e.Number&&gOn e.Point)))=true:=h;rw[ZS3]at h2;have h3:=h2.1;unfold ZD at h3;rw[ZS3]at h3;have:=of_decide_eq_true h3.1;omega
def Z4w(e:Event)(hf:Q9 e=true):∃k:Nat,e.Kind=(k:Int)/\1<=k/\k<=15:=by
 simp only[Q9,ZS3]at hf;have h:=hf.1;unfold ZD at h;rw[ZS3]at h;have h1:=of_decide_eq_true h.1;have h2:=of_decide_eq_true h.2;exact⟨e.Kind.toNat,by omega,by omega,by omega⟩
def Z4x(s:Sta)(h:Jx s=true):WK s=true:=by
 simp only[Jx,ZS3]at h;exact h.2.2.2.2.2.2.2
def JJ(s:Sta)(hs:StF s)(a:Int)(e:Event)(he:EvS e):pfn rE 38 [stA s,I a,evA e]=some (.tup [stA<|ZP s a e,I<|Qk s a e]):=by
 have hP:=Z3i s hs.e;have hO:=Qc a 0 0;have hF:=NH e he;have hI:=Fd s hs.e.sizes;have hcI:Z4 ((Qp s).map encS)=true:=Zw (λt=>rfl) _
 rw[Z5 (f:=38) (c:=c38) rfl rfl,c38_eq];have z0:(stA Yh)=.agg HE:=rfl;cases c:okB s a e with
 |false=>
  have e1:Qk s a e=1:=by unfold Qk;rw[c];rfl
  have e2:ZP s a e=Yh:=by unfold ZP;rw[c];rfl
  rw[e1,e2,z0];unfold okB at c;cases c1:Jx s with
  |false=>
   rw[c1]at hP;simp only[go_sem,s38p0,s38p1,hP]
  |true=>
  rw[c1]at hP;cases c2:QM a 0 0 with
  |false=>
   rw[c2]at hO;simp only[go_sem,s38p0,s38p1,hP,hO]
  |true=>
  rw[c2]at hO;cases c5003:Q9 e with
  |false=>
   rw[c5003]at hF;simp only[go_sem,s38p0,s38p1,hP,hO,hF]
  |true=>rw[c1,c2,c5003]at c;cases c
 |true=>
  have c':=c;unfold okB at c';simp only[ZS3]at c';obtain⟨c1,c2,c5003⟩:=c';obtain⟨k,hk,hk1,hk2⟩:=Z4w e c5003;obtain⟨hN,hE⟩:=Z4v (wk0 s a e) (Z4s s hs a e he) k hk hk1 hk2 (Z4x s c1)<|λh=>FO e c5003<|by rw[<-h];exact hk
  rw[c1]at hP;rw[c2]at hO;rw[c5003]at hF;cases c5004:Q1 (wk0 s a e)==0 with
  |false=>
   have e1:Qk s a e=Q1 (wk0 s a e):=by unfold Qk;rw[c,c5004];rfl
   have e2:ZP s a e=Yh:=by unfold ZP;rw[c,c5004];rfl
   obtain⟨fr',t,h1,h2,h3⟩:=hE c5004;rw[e1,e2,z0];simp only[apH,wH,wk0,wkC,steps,ZS8,ZSa]at h1 h3⊢;simp only[go_sem,s38p0,s38p1,s38p2,s38p3,hP,hO,hF,hI,h1,h2,h3]
  |true=>
   have h1:=hN c5004;have hz:=FN s hs a e he;have hB:=Fk (stepW<|wk0 s a e).s hz;generalize hW:stepW (wk0 s a e)=W at h1 hB hz;simp only[apH,wH,wk0,wkC,steps]at h1;cases c5005:Wh W.s.Doors with
   |false=>
    have e1:Qk s a e=8:=by unfold Qk;rw[c,c5004,hW,c5005];rfl
    have e2:ZP s a e=Yh:=by unfold ZP;rw[c,c5004,hW,c5005];rfl
    rw[e1,e2,z0];rw[c5005]at hB;simp only[go_sem,s38p0,s38p1,s38p2,s38p3,s38p5,s38p6,hP,hO,hF,hI,h1,hB]
   |true=>
    have e1:Qk s a e=0:=by unfold Qk;rw[c,c5004,hW,c5005];rfl
    have e2:ZP s a e=W.s:=by unfold ZP;rw[c,c5004,hW,c5005];rfl
    rw[e1,e2];rw[c5005]at hB;simp only[go_sem,s38p0,s38p1,s38p2,s38p3,s38p5,s38p6,hP,hO,hF,hI,h1,hB]
def ZcX:List (List UInt8)->List (List UInt8)
 |[]=>[]
 |a::r=>match ZcX r with
  |[]=>[a]
  |b::s=>if a=b then b::s else a::b::s
def ZdC:∀l:List<|List UInt8,Ys (l.map Qd)=(ZcX l).map Qd
 |[]=>rfl
 |a::r=>by
  rw[ZS9];unfold Ys ZcX;rw[ZdC r];cases ZcX r with
  |nil=>rfl
  |cons b s=>
   have e:sameKey (Qd a) (Qd b)=decide (a=b):=by
    show Z3 _ _=_
    unfold Z3;have e1:(⟨a.toArray⟩:ByteArray).data.toList=a:=by simp
    have e2:(⟨b.toArray⟩:ByteArray).data.toList=b:=by simp
    rw[e1,e2];by_cases h:a=b
    .subst h;simp
    .rw[decide_eq_false h];simpa using h
   show(bif sameKey (Qd a) (Qd b)then _ else _)=_
   rw[e];by_cases h:a=b
   .simp[h]
   .simp[h]
def Ze5(a:List UInt8)(r:List<|List UInt8):∃t,ZcX (a::r)=a::t/\t.length<=r.length:=by
 induction r generalizing a with
 |nil=>exact⟨[],rfl,ZS6 _⟩
 |cons b s ih=>
  obtain⟨t,h1,h2⟩:=ih b;unfold ZcX;rw[h1];by_cases h:a=b
  .subst h;exact⟨t,by simp,by simp;omega⟩
  .exact⟨b::t,by simp[h],by simp;omega⟩
def Adj:List (List UInt8)->Prop
 |[]=>True
 |[_]=>True
 |a::b::r=>a≠b/\Adj (b::r)
def ZdD:∀l:List<|List UInt8,(ZcX l).length=l.length↔Adj l
 |[]=>⟨λ_=>trivial,λ_=>rfl⟩
 |[a]=>⟨λ_=>trivial,λ_=>rfl⟩
 |a::b::r=>by
  have ih:=ZdD<|b::r;obtain⟨t,h1,h2⟩:=Ze5 b r;rw[h1]at ih;unfold Adj;rw[<-ih];unfold ZcX;rw[h1];by_cases h:a=b
  .subst h;simp;omega
  .simp[h]
def ZdE:∀l:List<|List UInt8,l.Pairwise (λa b=>leB a b=true)->Adj l->l.Nodup
 |[],_,_=>.nil
 |[a],_,_=>by simp
 |a::b::r,hs,h=>by
  unfold Adj at h;rw[ZSY]at hs;have ih:=ZdE (b::r) hs.2 h.2;rw[ZTv];refine⟨λhm=>?_,ih⟩
  rcases ZSA.1 hm with e|hm
  .exact h.1 e
  .have hb:=(ZSY.1 hs.2).1 a hm;exact h.1<|ET _ _ (hs.1 b<|ZSS ..) hb
def ZdF:∀l:List<|List UInt8,l.Nodup->Adj l
 |[],_=>trivial
 |[a],_=>trivial
 |a::b::r,h=>by
  rw[ZTv]at h;exact⟨λe=>h.1 (by rw[e];exact ZSS ..),ZdF (b::r) h.2⟩
def bytes_inj{a b:Str}(h:a.data.toList=b.data.toList):a=b:=by
 obtain⟨⟨a⟩⟩:=a;obtain⟨⟨b⟩⟩:=b;have:a=b:=h;rw[this]
def ZdG{α β:Type}{f:α->β}(hf:∀a b,f a=f b->a=b):∀{l:List α},(l.map f).Nodup↔l.Nodup
 |[]=>by simp
 |a::r=>by
  rw[ZS9,ZTv,ZTv,ZdG hf];refine and_congr_left λ_=>not_congr ⟨λh=>?_,λh=>List.mem_map_of_mem h⟩
  obtain⟨b,hb,e⟩:=ZSG.1 h;rw[<-hf _ _ e];exact hb
def Ze6(l:List Str):l.map encS=(l.map (λx:Str=>x.data.toList)).map Qd:=by
 rw[ZTr];apply ZTY;intro x _;obtain⟨⟨x⟩⟩:=x;rfl
def Zdk(l:List Str):Jq l=true↔l.Nodup:=by
 have e:(Ys<|Yk<|l.map encS).length=(ZcX<|WD<|l.map (λx:Str=>x.data.toList)).length:=by
  rw[Ze6,D4,ZdC,ZS4]
 have hl:(WD<|l.map (λx:Str=>x.data.toList)).length=l.length:=by
  rw[(RS _).length_eq,ZS4]
 unfold Jq;rw[beq_iff_eq,e];rw[show((ZcX<|WD<|l.map (λx:Str=>x.data.toList)).length:Int)=(l.length:Int)↔(ZcX<|WD<|l.map (λx:Str=>x.data.toList)).length=(WD<|l.map (λx:Str=>x.data.toList)).length from by rw[hl];omega]
 rw[ZdD];have h1:Adj (WD<|l.map (λx:Str=>x.data.toList))↔(WD<|l.map (λx:Str=>x.data.toList)).Nodup:=⟨ZdE _<|D8 _,ZdF _⟩
 rw[h1,(RS _).nodup_iff,ZdG<|λa b h=>bytes_inj h]
structure Prop'(s:Sta):Prop where
 rg:∀x∈s.Regions,Vo x=true
 st:∀x∈s.Streets,Vp x=true
 bu:∀x∈s.Buildings,Vq x=true
 dr:∀(i:Nat)d,s.Doors[i]?=some d->Vr s i d=true
 un:∀x∈s.Units,Vs s x=true
 ids:(Qp s).Nodup
 pa:WK s=true
def Zda{α:Type}{P:Nat->α->Bool}:∀{l:List α}{i:Nat},Zu P i l=true↔∀(j:Nat)x,l[j]?=some x->P (i+j) x=true
 |[],i=>⟨λ_ j x h=>(by simp at h),λ_=>rfl⟩
 |y::r,i=>by
  unfold Zu;rw[ZS3,Zda (l:=r)];constructor
  .rintro⟨h1,h2⟩ j x hx;cases j with
   |zero=>cases hx;exact h1
   |succ j=>have:=h2 j x hx;rw[show i+(j+1)=i+1+j by omega];exact this
  .intro h;exact⟨h 0 y rfl,λj x hx=>by have:=h (j+1) x hx;rw[show i+1+j=i+(j+1)by omega];exact this⟩
def Zdb(s:Sta):Jx s=true↔Prop' s/\Wh s.Doors=true:=by
 unfold Jx;simp only[ZS3];constructor
 .rintro⟨h1,h2,h3,h4,h5,h6,h7,h8⟩;exact⟨⟨ZSj.1 h1,ZSj.1 h2,ZSj.1 h3,λi d hd=>by have:=Zda.1 h4 i d hd;rwa[ZSh]at this,ZSj.1 h5,(Zdk _).1 h6,h8⟩,h7⟩
 .rintro⟨⟨h1,h2,h3,h4,h5,h6,h8⟩,h7⟩;exact⟨ZSj.2 h1,ZSj.2 h2,ZSj.2 h3,Zda.2 (λi d hd=>by rw[ZSh];exact h4 i d hd),ZSj.2 h5,(Zdk _).2 h6,h7,h8⟩
def ZcV{e:Event}(h:Q9 e=true):Q8 e=true:=by
 unfold Q9 at h;simp only[ZS3]at h;exact h.2.2.2.2
def ZcW{e:Event}{k:Int}(hk:e.Kind=k):Q8 e=Q8 {e with Kind:=k}:=by rw[<-hk]
def ZbD{α:Type}{Q:α->Prop}{f:α->α}{l:List α}{k:Nat}(h:∀x∈l,Q x)(hf:∀x,Q x->Q (f x)):∀x∈ZK l k f,Q x:=by
 unfold ZK;split
 .rename_i x hx;intro y hy;rcases ZUo hy with h1|rfl
  .exact h y h1
  .exact hf x<|h x<|ZSd hx
 .exact h
def Zd9{α:Type}{Q:α->Prop}{l m:List α}(h:∀x∈l,Q x)(hm:∀x∈m,Q x):∀x∈l++m,Q x:=λx hx=>by
 rcases ZSW.1 hx with h1|h1
 .exact h x h1
 .exact hm x h1
def Zdi{α:Type}{Q:α->Prop}{y:α}(h:Q y):∀x∈[y],Q x:=λx hx=>by rw[ZSF]at hx;subst hx;exact h
structure SizeOk(s:Sta):Prop where
 rg:∀x∈s.Regions,x.Names.l.length<=100/\x.Ring.l.length<=100/\x.Id.size<=1000
 st:∀x∈s.Streets,x.Names.l.length<=100/\x.Line.l.length<=100/\x.Id.size<=1000
 bu:∀x∈s.Buildings,x.Ring.l.length<=100/\x.Id.size<=1000
 dr:∀x∈s.Doors,DoS x
 un:∀x∈s.Units,x.Id.size<=1000/\x.Door.size<=1000/\x.Text.size<=1000
def Zdr{w:Wk}{k:Nat}{a:NL Str}(h:SizeOk w.s)(ha:a.l.length<=100)(hi:∀id∈a.l,id.size<=1000):SizeOk (Qf w k a).s:=by
 unfold Qf;split
 .rename_i x hx;refine⟨h.rg,h.st,h.bu,ZbD h.dr<|λd hd=>⟨ha,hd.id,hd.building,hd.street,hd.veil⟩,λu hu=>?_⟩
  obtain⟨v,hv,rfl⟩:=ZSG.1 hu;have h0:=h.un v hv;unfold XO;cases Z3P x.Id v with
  |false=>exact h0
  |true=>
   rw[cond_true];unfold UG;split
   .rename_i id r hc;exact⟨h0.1,hi id (by rw[hc];exact ZSS ..),h0.2.2⟩
   .exact h0
 .exact h
def ZdB{w:Wk}{d:Door}(h:SizeOk w.s)(hd:DoS d):SizeOk (Qw w d).s:=
 ⟨h.rg,h.st,h.bu,Zd9 h.dr<|Zdi ⟨hd.after,hd.id,hd.building,hd.street,hd.veil⟩,h.un⟩
def Ze1{a:NL Str}(ha:a.l.length<=100)(hi:∀id∈a.l,id.size<=1000):∀(l:List Int)(w:Wk),SizeOk w.s->SizeOk (Yg w l a).s
 |[],_,h=>h
 |k::r,w,h=>Ze1 ha hi r (Qf w k.toNat a)<|Zdr h ha hi
def Ze2{w:Wk}{l:List Door}(h:SizeOk w.s):∀i,SizeOk (Y6 w l i).s
 |0=>h
 |i+1=>by
  have ih:=Ze2 (w:=w) (l:=l) h i;unfold Y6;split
  .rename_i x hx;cases NV w.e.Id x with
   |false=>exact ih
   |true=>exact Zdr ih (ZS7 _)<|λid hc=>by cases hc
  .exact ih
def Ze3{D:List Door}{l:List Ent}(h:∀x∈D,DoS x):∀i,∀x∈Yn D l i,DoS x
 |0=>h
 |i+1=>by
  have ih:=Ze3 (l:=l) h i;unfold Yn;split
  .exact ZbD ih<|λd hd=>⟨hd.after,hd.id,hd.building,hd.street,hd.veil⟩
  .exact ih
def Ze4{s:Sta}(h:SizeOk s)(k:Nat):(JF s k).l.length<=100:=by
 unfold JF;split
 .rename_i x hx;exact(h.st x<|ZSd hx).1
 .exact ZS7 _
def Zdj:emp.size<=1000:=ZS7 _
def ZeG{w:Wk}(h:SizeOk w.s)(he:EvS w.e)(hL:∀x∈w.e.Lst.l,x.Id.size<=1000):SizeOk (stepW w).s:=by
 unfold stepW;split
 .refine⟨?_,h.st,h.bu,h.dr,h.un⟩;unfold Hj;cases decide (Qo w.s w.e.Id<0)with
  |true=>exact Zd9 h.rg<|Zdi ⟨ZS7 _,he.path,he.id⟩
  |false=>exact ZbD h.rg<|λx hx=>⟨hx.1,he.path,hx.2.2⟩
 .exact⟨h.rg,Zd9 h.st<|Zdi ⟨ZS7 _,he.path,he.id⟩,h.bu,h.dr,h.un⟩
 .unfold Hl;cases decide (Qo w.s w.e.Id>=0)with
  |true=>exact⟨ZbD h.rg<|λx hx=>⟨he.names,hx.2⟩,h.st,h.bu,h.dr,h.un⟩
  |false=>exact⟨h.rg,ZbD h.st<|λx hx=>⟨he.names,hx.2⟩,h.bu,h.dr,h.un⟩
 .exact⟨h.rg,ZbD (ZbD h.st<|λx hx=>⟨Ze4 h _,hx.2⟩)<|λx hx=>⟨Ze4 h _,hx.2⟩,h.bu,h.dr,h.un⟩
 .exact⟨h.rg,h.st,Zd9 h.bu<|Zdi ⟨he.path,he.id⟩,h.dr,h.un⟩
 .exact ZdB h ⟨ZS7 _,he.id,he.other,he.text,Zdj⟩
 .exact⟨h.rg,h.st,h.bu,h.dr,Zd9 h.un<|Zdi ⟨he.id,he.other,he.text⟩⟩
 .exact⟨h.rg,h.st,h.bu,Ze3 h.dr _,h.un⟩
 .unfold Kb;split
  .rename_i d hd;have hd':=h.dr d<|ZSd hd;refine Zdr (w:=Y5 w d w.e.Lst.l) ⟨h.rg,h.st,h.bu,Zd9 h.dr<|λy hy=>?_,h.un⟩ ?_ (λid hid=>?_)
   .obtain⟨x,hx,rfl⟩:=ZSG.1 hy;exact⟨ZS7 _,hL x hx,hd'.building,hd'.street,Zdj⟩
   .rw[ZS4];exact ZSz he.lst<|by decide
   .obtain⟨x,hx,rfl⟩:=ZSG.1 hid;exact hL x hx
  .exact h
 .unfold Kd;split
  .rename_i d hd;have hd':=h.dr d<|ZSd hd;exact Ze1 (a:=⟨false,[w.e.Id]⟩) (by simp) (λid hid=>by rw[ZSF]at hid;subst hid;exact he.id) _ _<|ZdB h ⟨ZS7 _,he.id,hd'.building,hd'.street,Zdj⟩
  .exact h
 .unfold Ht;exact Ze2 (w:=JH w<|ZK w.s.Buildings (Y1 w.s w.e.Id).toNat<|Ke w.e) ⟨h.rg,h.st,ZbD (f:=Ke w.e) h.bu<|λx hx=>hx,h.dr,h.un⟩ _
 .unfold Hy;cases Kg w.s w.e.Id with
  |true=>exact⟨ZbD h.rg<|λx hx=>hx,h.st,h.bu,h.dr,h.un⟩
  |false=>
  cases Kh w.s w.e.Id with
  |true=>exact⟨h.rg,ZbD h.st<|λx hx=>hx,h.bu,h.dr,h.un⟩
  |false=>
  cases Ki w.s w.e.Id with
  |true=>exact Zdr h (ZS7 _)<|λid hc=>by cases hc
  |false=>exact⟨h.rg,h.st,h.bu,h.dr,ZbD h.un<|λx hx=>hx⟩
 .exact⟨h.rg,h.st,h.bu,h.dr,h.un⟩
 .exact⟨h.rg,h.st,h.bu,h.dr,h.un⟩
 .exact ZdB h ⟨ZS7 _,he.id,Zdj,Zdj,he.text⟩
def ZeH(s:Sta)(hs:StF s)(a:Int)(e:Event)(he:EvS e)(hL:∀x∈e.Lst.l,x.Id.size<=1000):StE (ZP s a e):=by
 unfold ZP;cases okB s a e&&(Q1 (wk0 s a e)==0&&Wh (stepW<|wk0 s a e).s.Doors)with
 |true=>
  have h:=ZeG (w:=wk0 s a e) ⟨hs.e.regions,hs.e.streets,hs.e.buildings,hs.e.doors,hs.e.units⟩ he hL;exact⟨FN s hs a e he,h.rg,h.st,h.bu,h.dr,h.un⟩
 |false=>
  refine⟨⟨ZS7 _,ZS7 _,ZS7 _,ZS7 _,ZS7 _,ZS7 _,ZS7 _⟩,?_,?_,?_,?_,?_⟩
  all_goals (intro x hx;cases hx)
def ZoO(m:List<|Int×Int)(k v:Int):List (Int×Int):=match m.findIdx? (λp=>k==p.1)with|some i=>m.set i (k,v)|none=>m++[(k,v)]
def Zos(l:List Pair):List (Int×Int):=l.foldl (λm p=>ZoO m p.b p.a) []
def ZoB(m:List<|Int×Int)(k:Int):Option Int:=(m.find?<|λp=>k==p.1).map (·.2)
def ZoL(m:List<|Int×Int):Nat->Int->Option Int
 |0,_=>none
 |n+1,a=>match ZoB m a with|some b=>ZoL m n b|none=>some a
def Zpn(k:Int):∀(m:List<|Int×Int)(i:Nat),ZW false [1] (I k) (m.map<|λp=>I p.1) i=some ((m.findIdx?<|λp=>k==p.1).map (· + i))
 |[],i=>rfl
 |p::r,i=>by
  have ih:=Zpn k r<|i+1;have he:Zz false [1] (I k) (I p.1)=some (k==p.1):=by simp only[go_sem,ZSB,if_true]
  rw[ZS9];unfold ZW;rw[he];dsimp only;rw[ih,List.findIdx?_cons];cases k==p.1 with
  |true=>simp
  |false=>
   simp only[cond_false,ZSi,if_false];congr 1;cases List.findIdx? (λp=>k==p.1) r with
   |none=>rfl
   |some j=>simp;omega
def ZpA(k:Int):Zz false [1] (I k) (I k)=some true:=by simp only[go_sem,ZSB,beq_self_eq_true,if_true]
def Zq7(m:List<|Int×Int)(k v:Int){h:Hp}{b:Nat}(hb:h[b]?=some (.map (m.map<|λp=>I p.1)<|m.map<|λp=>I p.2)):
 YK h false [1] (.mp b) (I k) (I v)=some (.bot,setH h b<|.map ((ZoO m k v).map (λp=>I p.1))<|(ZoO m k v).map (λp=>I p.2)):=by
 simp only[YK,hb,Yo,ZpA];rw[Zpn k m 0];unfold ZoO;cases hf:m.findIdx? (λp=>k==p.1)with
 |none=>
  simp only[Option.map_none,ZM,ZH,ZSm,ZS9,ZSq]
 |some i=>
  simp only[ZSE,ZSH,ZM,ZH,ZSw];obtain⟨hi,hp,_⟩:=ZUC.1 hf;have hk:(m.map<|λp=>I p.1).set i (I k)=m.map (λp=>I p.1):=by
   have hke:k=m[i].1:=by simpa using hp
   apply ZTk;intro j;rw[ZUk];by_cases hj:i=j
   .subst hj;rw[if_pos rfl,if_pos (by rw[ZS4];exact hi),ZSC,ZS5 hi,hke]
    rfl
   .rw[if_neg hj]
  rw[hk]
def lkV:Option Int->AV
 |some v=>I v
 |none=>I 0
def look_ok(m:List<|Int×Int)(k:Int)(bw:Bool)(h:Hp):
 W5 h false [1] true (I 0) (.imap bw (m.map<|λp=>I p.1)<|m.map<|λp=>I p.2) (I k)=some (.tup [lkV<|ZoB m k,.bool (ZoB m k).isSome]):=by
 simp only[W5,QW,ZpA];rw[Zpn k m 0];unfold ZoB;cases hf:m.findIdx? (λp=>k==p.1)with
 |none=>
  have hn:m.find? (λp=>k==p.1)=none:=by
   rw[ZUD];intro x hx;have:=List.findIdx?_eq_none_iff.1 hf x hx;simpa using this
  rw[hn];rfl
 |some i=>
  obtain⟨hi,hp,hlt⟩:=ZUC.1 hf;have hs:m.find? (λp=>k==p.1)=some m[i]:=by
   rw[List.find?_eq_some_iff_getElem];exact⟨hp,i,hi,rfl,λj hj=>by have:=hlt j hj;simpa using this⟩
  rw[hs];simp only[ZSE,ZSH,ZSC,ZS5 hi,ZUq];rfl
def Zq8(m:List<|Int×Int)(k v x:Int):ZoB (ZoO m k v) x=if x=k then some v else ZoB m x:=by
 unfold ZoO;cases hf:m.findIdx? (λp=>k==p.1)with
 |none=>
  have hn:∀p∈m,p.1≠k:=by
   intro p hp hc;have:=List.findIdx?_eq_none_iff.1 hf p hp;rw[hc]at this;simp at this
  unfold ZoB;dsimp only;rw[List.find?_append];by_cases hx:x=k
  .subst hx;have:m.find? (λp=>x==p.1)=none:=by
    rw[ZUD];intro p hp hc;exact hn p hp (by simpa using hc:x=p.1).symm
   rw[this,if_pos rfl];simp
  .rw[if_neg hx];cases m.find? (λp=>x==p.1)with
   |some p=>rfl
   |none=>
    have:(x==k)=false:=by simpa using hx
    simp[this]
 |some i=>
  obtain⟨hi,hp,hlt⟩:=ZUC.1 hf;have hp':k=m[i].1:=by simpa using hp
  dsimp only;clear hf;induction m generalizing i with
  |nil=>exact absurd hi<|Nat.not_lt_zero _
  |cons p r ih=>
   cases i with
   |zero=>
    have hpk:k=p.1:=hp';unfold ZoB;rw[List.set_cons_zero,ZU2,ZU2];by_cases hx:x=k
    .subst hx;rw[if_pos rfl];simp
    .rw[if_neg hx];have h1:(x==k)=false:=by simpa using hx
     have h2:(x==p.1)=false:=by rw[<-hpk];exact h1
     simp only[h1,h2]
   |succ i=>
    have h0:=hlt 0<|Nat.succ_pos i;have h0':(k==p.1)=false:=by simpa using h0
    have ih':=ih i (by simpa using hi) (by simpa using hp) (λj hj=>by have:=hlt (j+1) (by omega);simpa using this)<|by simpa using hp'
    unfold ZoB at ih'⊢;rw[List.set_cons_succ,ZU2,ZU2];cases hx:x==p.1 with
    |true=>
     have hxp:x=p.1:=by simpa using hx
     have hxk:x≠k:=by
      intro hc;rw[<-hc,hx]at h0';cases h0'
     rw[if_neg hxk]
    |false=>exact ih'
def Zq9(l:List Pair)(h:(l.map (·.b)).Nodup)(x:Int):ZoB (Zos l) x=(l.find?<|λp=>p.b==x).map (·.a):=by
 have G:∀(l:List Pair)(m:List<|Int×Int),(l.map (·.b)).Nodup->ZoB (l.foldl (λm p=>ZoO m p.b p.a) m) x=match(l.find?<|λp=>p.b==x).map (·.a)with|some v=>some v|none=>ZoB m x:=by
  intro l;induction l with
  |nil=>intro m _;rfl
  |cons p r ih=>
   intro m hn;rw[ZS9,ZTv]at hn;rw[ZSy,ih _ hn.2,Zq8,ZU2];cases hx:p.b==x with
   |true=>
    have hpx:p.b=x:=by simpa using hx
    have hr:r.find? (λp=>p.b==x)=none:=by
     rw[ZUD];intro q hq hc;have:q.b=x:=by simpa using hc
     exact hn.1 (by rw[hpx,<-this];exact List.mem_map_of_mem (f:=(·.b)) hq)
    rw[hr,if_pos hpx.symm];rfl
   |false=>
    have hpx:¬x=p.b:=λhc=>by rw[hc]at hx;simp at hx
    rw[if_neg hpx]
 have:=G l [] h;unfold Zos;rw[this];cases(l.find?<|λp=>p.b==x).map (·.a)<;>rfl
def ZpB:∀(l:List Pair)(K:List Int)(b:Int),(K.any (Vm b)=true\/∃p∈l,p.b=b)->(l.foldl (λK p=>Qi Vm K p.b) K).any (Vm b)=true
 |[],K,b,h=>h.elim id<|λ⟨p,hp,_⟩=>by cases hp
 |p::r,K,b,h=>by
  rw[ZSy];refine ZpB r _ b ?_;rcases h with h|⟨q,hq,hb⟩
  .left;unfold Qi;cases K.any (Vm p.b)with
   |true=>exact h
   |false=>rw[cond_false,List.any_append,h,ZSe]
  .rcases ZSA.1 hq with rfl|hq
   .left;unfold Qi;cases hc:K.any (Vm q.b)with
    |true=>rw[cond_true,<-hb];exact hc
    |false=>
     rw[cond_false,List.any_append,hb];unfold Vm;simp
   .exact Or.inr ⟨q,hq,hb⟩
def ZpC{s:Sta}(hp:WK s=true):(s.Merged.map (·.b)).Nodup/\∀q∈s.Merged,Y2 q=true:=by
 unfold WK at hp;simp only[ZS3]at hp;obtain⟨p1,_,_⟩:=hp;unfold UB at p1;rw[Zda]at p1;refine⟨?_,λq hq=>?_⟩
 .rw[List.nodup_iff_pairwise_ne,ZTw,ZUe];intro i j hi hj hij hc;have:=p1 j s.Merged[j]<|ZS5 hj;rw[ZSh,ZS3,ZSJ]at this;have h2:=this.2;unfold QV at h2;rw[ZpB (s.Merged.take j) [] s.Merged[j].b<|Or.inr ⟨s.Merged[i],?_,hc⟩]at h2
  .cases h2
  .rw[ZTh];exact⟨i,by rw[List.getElem?_take,if_pos hij];exact ZS5 hi⟩
 .obtain⟨j,hj⟩:=ZTh.1 hq;have:=p1 j q hj;rw[ZS3]at this;exact this.1
def Zoz(a:Int):Bool:=decide (0<=a)&&decide (a<=63)
def Zpo{q:Pair}(h:Y2 q=true):(0<=q.a/\q.a<=63)/\(0<=q.b/\q.b<=63):=by
 unfold Y2 QM ZD at h;simp only[ZS3,decide_eq_true_eq]at h;exact⟨⟨h.1.1.1,h.1.1.2⟩,⟨h.2.1.1.1,h.2.1.1.2⟩⟩
def ZpD{s:Sta}(hp:WK s=true)(x:Int):ZoB (Zos s.Merged) x=bif decide (XJ s x<0)then none else some (XJ s x):=by
 obtain⟨h1,h2⟩:=ZpC hp;rw[Zq9 _ h1];unfold XJ;cases hf:s.Merged.find? (λp=>p.b==x)with
 |none=>rfl
 |some p=>
  have:=(Zpo<|h2 p<|ZUB hf).1;have hd:decide (p.a<0)=false:=decide_eq_false<|by omega
  simp only[ZSE,hd,cond_false]
def ZpE{s:Sta}(hp:WK s=true):∀(n:Nat)(x:Int),0<=x->chN s n x=true->∃b,ZoL (Zos s.Merged) n x=some b
 |0,x,hx,h=>by
  unfold chN at h;rw[show decide (x>=0)=true from decide_eq_true hx]at h
  cases h
 |n+1,x,hx,h=>by
  unfold chN at h;rw[show decide (x>=0)=true from decide_eq_true hx,cond_true]at h
  unfold ZoL;rw[ZpD hp];cases hd:decide (XJ s x<0)with
  |true=>exact⟨x,rfl⟩
  |false=>
   have:=of_decide_eq_false hd;exact ZpE hp n (XJ s x) (by omega) h
def Zoq(s:Sta)(a:Int):Int:=(ZoL (Zos s.Merged) (s.Merged.length+1) a).getD a
def ZpF{s:Sta}(hp:WK s=true){a:Int}(ha:0<=a):ZoL (Zos s.Merged) (s.Merged.length+1) a=some (Zoq s a):=by
 obtain⟨b,hb⟩:=ZpE hp _ a ha<|Z3L s hp a;unfold Zoq;rw[hb];rfl
def ZpG{s:Sta}(hp:WK s=true):∀(n:Nat)(a b:Int),0<=a/\a<=63->ZoL (Zos s.Merged) n a=some b->0<=b/\b<=63
 |0,a,b,_,h=>by cases h
 |n+1,a,b,ha,h=>by
  unfold ZoL at h;rw[ZpD hp]at h;cases hd:decide (XJ s a<0)with
  |true=>rw[hd]at h;cases h;exact ha
  |false=>
   rw[hd]at h;refine ZpG hp n (XJ s a) b ?_ h;have h0:=of_decide_eq_false hd;unfold XJ at h0⊢;cases hf:s.Merged.find? (λp=>p.b==a)with
   |none=>rw[hf]at h0;exact absurd (by decide) h0
   |some p=>exact(Zpo<|(ZpC hp).2 p (ZUB hf)).1
def ZpH{s:Sta}(hp:WK s=true){a:Int}(ha:0<=a/\a<=63):0<=Zoq s a/\Zoq s a<=63:=ZpG hp _ a _ ha<|ZpF hp ha.1
def ibr(h:Hp)(a b c:Bool):DRec:=bif a&&(!b&&!c)then⟨false,[],some h.length,none⟩else⟨false,[],none,none⟩
def Zqa(h:Hp):ibr h true false false=⟨false,[],some h.length,none⟩:=rfl
def Zqb(h:Hp)(c:Bool):ibr h true true c=⟨false,[],none,none⟩:=rfl
def Zqc(h:Hp):ibr h true false true=⟨false,[],none,none⟩:=rfl
def Zqd{E:Env}{sz:Nat}{x:Arg}{fr:Fr}{h:Hp}:Za E (.ibox sz x) fr h=ibr h (fits sz<|ev E (Z2 x.slots fr) x) (Z4 (ev E (Z2 x.slots fr) x).cells) (Zi (ev E (Z2 x.slots fr) x).cells):=by
 simp only[Za,Z8,AOp.slots];cases fits sz (ev E (Z2 x.slots fr) x)<;>cases Z4 (ev E (Z2 x.slots fr) x).cells<;>cases Zi (ev E (Z2 x.slots fr) x).cells<;>rfl
attribute [go_sem] Zqd Zqa Zqb Zqc
def Zqe(bw:Bool)(h:Hp)(n:Nat)(l:List AV)(hc:Z4 l=true):ZC bw h (n+1) l=some l:=by
 unfold ZC;rw[hc];rfl
def Zqf(bw:Bool)(h:Hp)(n b:Nat)(ks vs:List AV)(hb:h[b]?=some (.map ks vs))(hk:Z4 ks=true)(hv:Z4 vs=true):freeze bw h (n+2) (.mp b)=some (.imap bw ks vs):=by
 unfold freeze;rw[show clean (.mp b)=false from rfl,cond_false]
 dsimp only;rw[hb];dsimp only;rw[hk,cond_true,Zqe bw h n vs hv];rfl
abbrev tkV(s:Sta):AV:=.imap false ((Zos s.Merged).map (λp=>I p.1))<|(Zos s.Merged).map (λp=>I p.2)
abbrev ldA(s:Sta):List AV:=[.isl false false 6<|s.Regions.map Region.enc,.isl false false 5<|s.Streets.map Street.enc,.isl false false 4<|s.Buildings.map Building.enc,.isl false false 16<|s.Doors.map Door.enc,.isl false false 6<|s.Units.map Unit'.enc,.isl false false 2<|s.Merged.map Pair.enc,.isl false false 2<|s.Rulings.map Pair.enc,tkV s]
abbrev ldI(s:Sta):AV:=.iptr false<|ldA s
def Zqg(s:Sta)(hl:s.Merged.length<=1000):Zg rE [1,4,9,10,11] c62L0b [(1,stI s),(4,.mp 0),(9,.isl false false 2<|s.Merged.map Pair.enc),(10,I s.Merged.length),(11,.int .i64 0)] [.map [] []] =
 some (.exit 0,[(1,stI s),(4,.mp 0),(9,.isl false false 2<|s.Merged.map Pair.enc),(10,I s.Merged.length),(11,I s.Merged.length)],[.map ((Zos s.Merged).map (λp=>I p.1))<|(Zos s.Merged).map (λp=>I p.2)]):=by
 have hb:∀(m:List<|Int×Int)n,Zd n (m.map<|λp=>I p.1)=true/\Zd n (m.map<|λp=>I p.2)=true:=λm n=>⟨ZN _<|Zw (λt=>rfl) m,ZN _<|Zw (λt=>rfl) m⟩
 have L:=Y8 (E:=rE) (live:=[1,4,9,10,11]) (b:=c62L0b) s.Merged.length (λi=>[(1,stI s),(4,.mp 0),(9,.isl false false 2<|s.Merged.map Pair.enc),(10,I s.Merged.length),(11,I i)])
  (λi=>[.map ((Zos<|s.Merged.take i).map (λp=>I p.1))<|(Zos<|s.Merged.take i).map (λp=>I p.2)]) (λi=>rfl)
  (λi hi=>by
   obtain⟨x,hx⟩:∃x,s.Merged[i]?=some x:=⟨_,ZS5 hi⟩;have hg:=Z6 (f:=Pair.enc) hx;have hi':=Zh hi;have hwr:=Zx (n:=i)<|by omega
   have htk:Zos (s.Merged.take<|i+1)=ZoO (Zos<|s.Merged.take i) x.b x.a:=Us _ _ hx;rw[htk];have hp:=λ(q:AObj)=>Zq7 (Zos<|s.Merged.take i) x.b x.a (h:=[.map ((Zos<|s.Merged.take i).map (λp=>I p.1))<|(Zos<|s.Merged.take i).map (λp=>I p.2),q]) (b:=0) rfl
   generalize Zos (s.Merged.take i)=m at*;have n0:((0:Int)).toNat=0:=rfl;have n1:((1:Int)).toNat=1:=rfl;refine⟨[(1,stI s),(4,.mp 0),(9,.isl false false 2<|s.Merged.map Pair.enc),(10,I s.Merged.length),(11,I (i+1:Nat))],?_,rfl⟩;simp only[go_sem,c62L0b,hg,hi',hwr,Pair.enc,WJ,XL,n0,n1,if_true,hp,hb])
  (e:=.exit 0) (fr:=[(1,stI s),(4,.mp 0),(9,.isl false false 2<|s.Merged.map Pair.enc),(10,I s.Merged.length),(11,I s.Merged.length)]) (h:=[.map ((Zos s.Merged).map (λp=>I p.1))<|(Zos s.Merged).map (λp=>I p.2)]) (by
   rw[ZSt];simp only[go_sem,c62L0b,ZG,hb]) (by simp)
 exact L
def Zp7(s:Sta)(hE:StE s):pfn rE 62 [stA s]=some (.tup [ldI s,.bool<|Jx s]):=by
 have hP:=Z3i s hE;have L:=Zqg s hE.sizes.merged;have hb:∀(m:List<|Int×Int)n,Zd n (m.map<|λp=>I p.1)=true/\Zd n (m.map<|λp=>I p.2)=true:=λm n=>⟨ZN _<|Zw (λt=>rfl) m,ZN _<|Zw (λt=>rfl) m⟩
 have hc:Z4 ((Zos s.Merged).map (λp=>I p.1))=true/\Z4 ((Zos s.Merged).map (λp=>I p.2))=true:=⟨Zw (λt=>rfl) _,Zw (λt=>rfl) _⟩
 have hz:=λq=>Zqf false [.map ((Zos s.Merged).map (λp=>I p.1))<|(Zos s.Merged).map (λp=>I p.2),q] 27 0 _ _ rfl hc.1 hc.2
 simp only[stI]at L;rw[Z5 (f:=62) rfl rfl];simp only[go_sem,c62,c62L0,L,hP,hb,hz]
def Zp8(a:Int):pfn rE 63 [I a]=some (.bool<|Zoz a):=by
 rw[Z5 (f:=63) rfl rfl];unfold Zoz;have h:decide (a<64)=decide (a<=63):=by
  by_cases c:a<=63
  .rw[decide_eq_true c,decide_eq_true<|by omega]
  .rw[decide_eq_false c,decide_eq_false<|by omega]
 have h0:decide (a>=0)=decide (0<=a):=rfl;cases c:decide (0<=a)<;>simp only[go_sem,c63,h0,c,h]
def ZpI(s:Sta)(b:Int):∀(n:Nat)(a:Int),ZoL (Zos s.Merged) n a=some b->
 ∃fr',Zg rE [0,1,5,6] c65L0b [(0,ldI s),(1,I a),(5,lkV<|ZoB (Zos s.Merged) a),(6,.bool (ZoB (Zos s.Merged) a).isSome)] []=some (.exit 0,fr',[])/\get fr' 1=I b
 |0,a,h=>by cases h
 |n+1,a,h=>by
  unfold ZoL at h;have hk:=λx=>look_ok (Zos s.Merged) x false []
  cases hl:ZoB (Zos s.Merged) a with
  |none=>
   rw[hl]at h;cases h;refine⟨_,Q7 rfl (e:=.exit 0) (fr':=[(0,ldI s),(1,I b),(5,I 0),(6,.bool false)]) (by simp only[go_sem,c65L0b,ZUp,lkV]) (by simp),by simp only[go_sem]⟩
  |some c=>
   rw[hl]at h;dsimp only at h;obtain⟨fr',h1,h2⟩:=ZpI s b n c h;refine⟨fr',?_,h2⟩;have hs:=hk c;rw[Yt rfl (fr':=[(0,ldI s),(1,I c),(5,lkV<|ZoB (Zos s.Merged) c),(6,.bool (ZoB (Zos s.Merged) c).isSome)]) (h':=[]) (by simp only[go_sem,c65L0b,ZUq,lkV,hs])]
   exact h1
def ZpJ(s:Sta)(hp:WK s=true)(a:Int)(ha:0<=a):pfn rE 65 [ldI s,I a]=some (I<|Zoq s a):=by
 obtain⟨fr',h1,h2⟩:=ZpI s _ _ a<|ZpF hp ha;have hk:=look_ok (Zos s.Merged) a false [];rw[Z5 (f:=65) rfl rfl];simp only[go_sem,c65,c65L0,hk,h1,h2]
def ZoE(m:Int->Int)(a b:Int):List Pair->Option Bool
 |[]=>none
 |p::r=>bif m p.a==a&&m p.b==b then some (a != b)else bif m p.a==b&&m p.b==a then some false else ZoE m a b r
def ZoW(s:Sta)(a b:Int):Bool:=(ZoE (Zoq s) a b s.Rulings.reverse).getD false
abbrev ruV(s:Sta):AV:=.isl false false 2<|s.Rulings.map Pair.enc
def Zov(s:Sta)(a b:Int):Fr:=[(3,.iptr false [ldI s]),(4,.iptr false [I a]),(5,.iptr false [I b]),(6,.ptr 0 0 0 1),(16,.clo (.func 243) [] [.iptr false [ruV s]])]
def prH(s:Sta)(a b:Int):Hp:=[.row 1 [.bool false],.loop .ready .normal (Zov s a b) [17,18] c114R0a c114R0b]
def prD(s:Sta)(a b:Int)(r:Bool):Hp:=[.row 1 [.bool r],.loop .done .ret (Zov s a b) [17,18] c114R0a c114R0b]
def Zot(s:Sta)(n:Nat):bel n (ldI s)=true:=by
 have hc:Z4 [ldI s]=true:=by
  have hb:Z4 ((Zos s.Merged).map (λp=>I p.1))=true/\Z4 ((Zos s.Merged).map (λp=>I p.2))=true:=⟨Zw (λt=>rfl) _,Zw (λt=>rfl) _⟩
  simp only[go_sem]
 have:=ZN (n:=n) [ldI s] hc;unfold Zd at this;rw[ZS3]at this;exact this.1
def Zow(s:Sta):clean (ldI s)=true:=by
 have hb:Z4 ((Zos s.Merged).map (λp=>I p.1))=true/\Z4 ((Zos s.Merged).map (λp=>I p.2))=true:=⟨Zw (λt=>rfl) _,Zw (λt=>rfl) _⟩
 simp only[go_sem]
def Zqh(s:Sta)(a b:Int)(i:Nat)(p:Pair)(ha:pfn rE 65 [ldI s,I p.a]=some (I<|Zoq s p.a))(hb:pfn rE 65 [ldI s,I p.b]=some (I<|Zoq s p.b)):
 U4 rE 1 [I i,.agg [I p.a,I p.b]] (prH s a b)=some (match ZoE (Zoq s) a b [p]with
  |none=>(.bool true,prH s a b++[.row 2 [.agg [I p.a,I p.b]]])
  |some r=>(.bool false,prD s a b r++[.row 2 [.agg [I p.a,I p.b]]])):=by
 have n0:((0:Int)).toNat=0:=rfl;have n1:((1:Int)).toNat=1:=rfl;have hl:=Zot s;have hc:=Zow s;unfold ZoE ZoE;generalize Zoq s p.a=x at*;generalize Zoq s p.b=y at*;cases c1:x==a&&y==b with
 |true=>
  have h:=Ss (E:=rE) (b:=1) (args:=[I i,.agg [I p.a,I p.b]]) (h:=prH s a b) (fr:=Zov s a b) (ps:=[17,18]) (assign:=c114R0a) (body:=c114R0b)
   (fr0:=(18,.agg [I p.a,I p.b])::(17,I i)::Zov s a b) rfl rfl (by simp only[go_sem,c114R0a,prH,Zov]<;>rfl) (by rfl)
   (by
    cases d1:x==a with
    |false=>rw[d1]at c1;cases c1
    |true=>
    rw[d1,ZSc]at c1;simp only[go_sem,c114R0b,ha,hb,WJ,XL,n0,n1,d1,c1]<;>rfl) (by rfl)
  exact h
 |false=>
  rw[cond_false];cases c2:x==b&&y==a with
  |true=>
   have h:=Ss (E:=rE) (b:=1) (args:=[I i,.agg [I p.a,I p.b]]) (h:=prH s a b) (fr:=Zov s a b) (ps:=[17,18]) (assign:=c114R0a) (body:=c114R0b)
    (fr0:=(18,.agg [I p.a,I p.b])::(17,I i)::Zov s a b) rfl rfl (by simp only[go_sem,c114R0a,prH,Zov]<;>rfl) (by rfl)
    (by
     cases e1:x==b with
     |false=>rw[e1]at c2;cases c2
     |true=>
     rw[e1,ZSc]at c2;cases d1:x==a with
     |false=>simp only[go_sem,c114R0b,ha,hb,WJ,XL,n0,n1,d1,e1,c2]<;>rfl
     |true=>
      rw[d1,ZSc]at c1;simp only[go_sem,c114R0b,ha,hb,WJ,XL,n0,n1,d1,c1,e1,c2]<;>rfl) (by rfl)
   exact h
  |false=>
   have h:=Ss (E:=rE) (b:=1) (args:=[I i,.agg [I p.a,I p.b]]) (h:=prH s a b) (fr:=Zov s a b) (ps:=[17,18]) (assign:=c114R0a) (body:=c114R0b)
    (fr0:=(18,.agg [I p.a,I p.b])::(17,I i)::Zov s a b) rfl rfl (by simp only[go_sem,c114R0a,prH,Zov]<;>rfl) (by rfl)
    (e:=.normal) (fr2:=[]) (h2:=[.row 1 [.bool false],.loop .busy .normal (Zov s a b) [17,18] c114R0a c114R0b,.row 2 [.agg [I p.a,I p.b]]])
    (by
     cases d1:x==a with
     |false=>
      cases e1:x==b with
      |false=>simp only[go_sem,c114R0b,Zov,ha,hb,WJ,XL,n0,n1,d1,e1]<;>rfl
      |true=>
       rw[e1,ZSc]at c2;simp only[go_sem,c114R0b,Zov,ha,hb,WJ,XL,n0,n1,d1,e1,c2]<;>rfl
     |true=>
      rw[d1,ZSc]at c1;cases e1:x==b with
      |false=>simp only[go_sem,c114R0b,Zov,ha,hb,WJ,XL,n0,n1,d1,c1,e1]<;>rfl
      |true=>
       rw[e1,ZSc]at c2;simp only[go_sem,c114R0b,Zov,ha,hb,WJ,XL,n0,n1,d1,c1,e1,c2]<;>rfl) (by rfl)
   exact h
def ZpK(s:Sta)(a b:Int)(hl:s.Rulings.length<=1000)(hM:∀p∈s.Rulings,pfn rE 65 [ldI s,I p.a]=some (I<|Zoq s p.a)/\pfn rE 65 [ldI s,I p.b]=some (I<|Zoq s p.b)):
 ∀(k:Nat),k<=s.Rulings.length->∃fr',Zg rE [0,1,3] c243L0b [(0,.yld 1),(1,.iptr false [ruV s]),(3,I<|(k:Int)-1)] (prH s a b) =
  some (match ZoE (Zoq s) a b (s.Rulings.take k).reverse with|none=>(.exit 0,fr',prH s a b)|some r=>(.ret,fr',prD s a b r))
 |0,_=>⟨_,Q7 rfl (e:=.exit 0) (fr':=[(0,.yld 1),(1,.iptr false [ruV s]),(3,I<|-1)]) (by
  have h0:decide (((0:Nat):Int)-1>=0)=false:=rfl;simp only[go_sem,c243L0b,h0,prH];rfl) (by simp)⟩
 |k+1,hk=>by
  obtain⟨x,hx⟩:∃x,s.Rulings[k]?=some x:=⟨_,ZS5<|by omega⟩
  obtain⟨m1,m2⟩:=hM x<|ZSd hx;have hg:=Z6 (f:=Pair.enc) hx;have hy:=Zqh s a b k x m1 m2;have hk1:(((k+1:Nat):Int)-1)=(k:Int):=by omega
  have hge:decide ((k:Int)>=0)=true:=decide_eq_true<|by omega
  have hw:IntKind.i64.wrap ((k:Int)-1)=(k:Int)-1:=YM (by omega)<|by omega
  have htk:(s.Rulings.take<|k+1).reverse=x::(s.Rulings.take k).reverse:=by
   rw[ZT0,hx,List.reverse_append];rfl
  have hbl:=Zot s;have hbf:Zd 2 (frV<|Zov s a b)=true:=by simp only[go_sem,Zov]
  have hp1:ZoE (Zoq s) a b (x::(s.Rulings.take k).reverse)=match ZoE (Zoq s) a b [x]with|some r=>some r|none=>ZoE (Zoq s) a b (s.Rulings.take k).reverse:=by
   show(bif _ then _ else bif _ then _ else _)=_
   unfold ZoE;cases Zoq s x.a==a&&Zoq s x.b==b with
   |true=>rfl
   |false=>
    rw[cond_false,cond_false];cases Zoq s x.a==b&&Zoq s x.b==a with
    |true=>rfl
    |false=>rw[cond_false,cond_false];unfold ZoE;rfl
  rw[htk,hp1,hk1];cases hc:ZoE (Zoq s) a b [x]with
  |some r=>
   rw[hc]at hy;dsimp only at hy;refine⟨_,Q7 rfl (e:=.ret) (fr':=[(0,.yld 1),(1,.iptr false [ruV s]),(3,I k)]) (by
    simp only[prH,prD,ZS8,ZSa]at hy⊢;simp only[go_sem,c243L0b,S3,hg,hge,hy,Pair.enc,hbf]) (by simp)⟩
  |none=>
   rw[hc]at hy;dsimp only at hy;obtain⟨fr',h1⟩:=ZpK s a b hl hM k<|by omega
   refine⟨fr',?_⟩;rw[Yt rfl (fr':=[(0,.yld 1),(1,.iptr false [ruV s]),(3,I<|(k:Int)-1)]) (h':=prH s a b) (by
    simp only[prH,ZS8,ZSa]at hy⊢;simp only[go_sem,c243L0b,S3,hg,hge,hw,hy,Pair.enc,hbf])]
   exact h1
def Zqi(ex:Bool)(es:List AV)(h:Hp)(hc:Z4 es=true):fnV rE 195 [.isl false ex 2 es] h=some (.clo (.func 243) [] [.iptr false [.isl false ex 2 es]],h):=by
 rw[Q6 (f:=195) rfl rfl];simp only[go_sem,c195]
def Zqj(s:Sta)(a b:Int)(hl:s.Rulings.length<=1000)(hM:∀p∈s.Rulings,pfn rE 65 [ldI s,I p.a]=some (I<|Zoq s p.a)/\pfn rE 65 [ldI s,I p.b]=some (I<|Zoq s p.b)):
 rf rE (.clo (.func 243) [] [.iptr false [ruV s]]) [17,18] c114R0a c114R0b (Zov s a b) [.row 1 [.bool false]]=match ZoE (Zoq s) a b s.Rulings.reverse with
  |none=>some (.normal,Zov s a b,[.row 1 [.bool false],.loop .exhausted .normal (Zov s a b) [17,18] c114R0a c114R0b])
  |some r=>some (.ret,Zov s a b,[.row 1 [.bool r],.loop .exhausted .ret (Zov s a b) [17,18] c114R0a c114R0b]):=by
 obtain⟨fr',L⟩:=ZpK s a b hl hM s.Rulings.length<|ZS6 _;rw[ZSt]at L;have hw:IntKind.i64.wrap ((s.Rulings.length:Int)-1)=(s.Rulings.length:Int)-1:=YM (by omega)<|by omega
 have hbl:=Zot s;have hbf:Zd 2 (frV<|Zov s a b)=true:=by simp only[go_sem,Zov]
 rw[Z1k (c:=c243) rfl];simp only[prH,prD]at L;cases hc:ZoE (Zoq s) a b s.Rulings.reverse with
 |none=>
  rw[hc]at L;dsimp only at L;simp only[go_sem,c243,c243L0,hw,L,hbf];rfl
 |some r=>
  rw[hc]at L;dsimp only at L;simp only[go_sem,c243,c243L0,hw,L,hbf];rfl
def ZpL(s:Sta)(a b:Int)(hl:s.Rulings.length<=1000)(hM:∀p∈s.Rulings,pfn rE 65 [ldI s,I p.a]=some (I<|Zoq s p.a)/\pfn rE 65 [ldI s,I p.b]=some (I<|Zoq s p.b)):
 pfn rE 114 [ldI s,I a,I b]=some (.bool<|ZoW s a b):=by
 have hrf:=Zqj s a b hl hM;have hB:=λh=>Zqi false (s.Rulings.map Pair.enc) h<|Zw (λt=>rfl) _
 have hc:=Zow s;have hbl:=Zot s;unfold ZoW;rw[Z5 (f:=114) rfl rfl];cases hp:ZoE (Zoq s) a b s.Rulings.reverse with
 |none=>
  rw[hp]at hrf;dsimp only at hrf;simp only[Zov]at hrf;simp only[go_sem,c114,hB,Sr,hrf,hc];rfl
 |some r=>
  rw[hp]at hrf;dsimp only at hrf;simp only[Zov]at hrf;simp only[go_sem,c114,hB,Sr,hrf,hc];rfl
def hfX(q:Int)(p:Int):Int:=W<|W (2*q)-p
def ZoX(p a b:Pt):Int:=W<|W (hfX a.X p.X*hfX b.Y p.Y)-W (hfX a.Y p.Y*hfX b.X p.X)
def Zp9(p a b:Pt):Bool:=ZoX p a b==0&&decide (W (W (hfX a.X p.X*hfX b.X p.X)+W (hfX a.Y p.Y*hfX b.Y p.Y))<=0)
def Zp4(p a b:Pt)(w:Int):Int:=
 bif decide (hfX a.Y p.Y<=0)&&(decide (hfX b.Y p.Y>0)&&decide (ZoX p a b>0))then W<|w+1
 else bif decide (hfX a.Y p.Y>0)&&(decide (hfX b.Y p.Y<=0)&&decide (ZoX p a b<0))then W (w-1)else w
def ZoP(p:Pt)(l:List Pt)(st:Int×Bool)(i:Nat):Int×Bool:=
 (Zp4 p (pAt l i) (pAt l<|(i+1)%l.length) st.1,st.2||Zp9 p (pAt l i) (pAt l<|(i+1)%l.length))
def ZoC(l:List Pt)(p:Pt):Int×Bool:=(List.range l.length).foldl (ZoP p l) (0,false)
def ZoD(v:AV)(p:Pt):Fr:=[(14,.clo (.func 280) [] [.iptr false [v]]),(13,v),(0,v),(3,.iptr false [I p.X,I p.Y]),(4,.ptr 0 0 0 1),(5,.ptr 1 0 0 1)]
def hfH(v:AV)(p:Pt)(st:Int×Bool):Hp:=[.row 1 [I st.1],.row 1 [.bool st.2],.loop .ready .normal (ZoD v p) [15,16] c261R0a c261R0b]
def hfD:ACode:=
 .keep []<|.block 2<|
  .seq (.keep [4,9,11,12,63]<|.region [o 64<|.mv<|.t 9,
   o 65 (.bin .leq (.t 64)<|.c<|.int .i64 0),
   o 66 (.mv<|.t 65),
   og 67 (.mv<|.t 11) 66 true,
   og 68 (.bin .gtr (.t 67)<|.c<|.int .i64 0) 66 true,
   o 69 (.pick (.t 66) (.t 68)<|.c<|.bool false),
   o 70 (.mv<|.t 69),
   og 71 (.mv<|.t 12) 70 true,
   og 72 (.bin .gtr (.t 71)<|.c<|.int .i64 0) 70 true,
   o 73 (.pick (.t 70) (.t 72)<|.c<|.bool false),
   o 63 (.mv<|.t 73)])<|
  .cond (.t 63)
   (.keep []<|.region [o 74<|.load none<|.t 4,
    o 75 (.bin .add (.t 74)<|.c<|.int .i64 1),
    ⟨none,.store 1 (.t 4)<|.t 75,none⟩])
   (.seq (.keep [4,76]<|.region [o 77<|.mv<|.t 9,
     o 78 (.bin .gtr (.t 77)<|.c<|.int .i64 0),
     o 79 (.mv<|.t 78),
     og 80 (.mv<|.t 11) 79 true,
     og 81 (.bin .leq (.t 80)<|.c<|.int .i64 0) 79 true,
     o 82 (.pick (.t 79) (.t 81)<|.c<|.bool false),
     o 83 (.mv<|.t 82),
     og 84 (.mv<|.t 12) 83 true,
     og 85 (.bin .lss (.t 84)<|.c<|.int .i64 0) 83 true,
     o 86 (.pick (.t 83) (.t 85)<|.c<|.bool false),
     o 76 (.mv<|.t 86)])<|
    .cond (.t 76)
     (.keep []<|.region [o 87<|.load none<|.t 4,
      o 88 (.bin .sub (.t 87)<|.c<|.int .i64 1),
      ⟨none,.store 1 (.t 4)<|.t 88,none⟩])
     (.skip))
def hfB:ACode:=
 .keep []<|.block 1<|
  .seq (.keep [4,5,8,9,10,11]<|.draw [[],[],[],[],[],[],[],[],[],[],[],[],[],[],[],[],[],[],[],[],[],[],[],[],[],[],[]]
   [o 17<|.fadr 0<|.t 6,
   o 18 (.load none<|.t 17),
   o 19 (.bin .mul (.c<|.int .i64 2)<|.t 18),
   o 20 (.fadr 0<|.t 3),
   o 21 (.load none<|.t 20),
   o 22 (.bin .sub (.t 19)<|.t 21),
   o 23 (.fadr 1<|.t 6),
   o 24 (.load none<|.t 23),
   o 25 (.bin .mul (.c<|.int .i64 2)<|.t 24),
   o 26 (.fadr 1<|.t 3),
   o 27 (.load none<|.t 26),
   o 28 (.bin .sub (.t 25)<|.t 27),
   o 29 (.fadr 0<|.t 7),
   o 30 (.load none<|.t 29),
   o 31 (.bin .mul (.c<|.int .i64 2)<|.t 30),
   o 32 (.fadr 0<|.t 3),
   o 33 (.load none<|.t 32),
   o 34 (.bin .sub (.t 31)<|.t 33),
   o 35 (.fadr 1<|.t 7),
   o 36 (.load none<|.t 35),
   o 37 (.bin .mul (.c<|.int .i64 2)<|.t 36),
   o 38 (.fadr 1<|.t 3),
   o 39 (.load none<|.t 38),
   o 40 (.bin .sub (.t 37)<|.t 39),
   o 8 (.mv<|.t 22),
   o 9 (.mv<|.t 28),
   o 10 (.mv<|.t 34)]
   [o 11<|.mv<|.t 40])<|
  .seq (.keep [4,5,8,9,10,11,12]<|.region [o 41<|.mv<|.t 8,
   o 42 (.mv<|.t 11),
   o 43 (.bin .mul (.t 41)<|.t 42),
   o 44 (.mv<|.t 9),
   o 45 (.mv<|.t 10),
   o 46 (.bin .mul (.t 44)<|.t 45),
   o 47 (.bin .sub (.t 43)<|.t 46),
   o 12 (.mv<|.t 47)])<|
  .seq (.keep [4,9,11,12]<|.region [o 48<|.load none<|.t 5,
   o 49 (.mv<|.t 48),
   og 50 (.mv<|.t 12) 49 false,
   og 51 (.bin .eql (.t 50)<|.c<|.int .i64 0) 49 false,
   og 52 (.mv<|.t 51) 49 false,
   og 53 (.mv<|.t 8) 52 true,
   og 54 (.mv<|.t 10) 52 true,
   og 55 (.bin .mul (.t 53)<|.t 54) 52 true,
   og 56 (.mv<|.t 9) 52 true,
   og 57 (.mv<|.t 11) 52 true,
   og 58 (.bin .mul (.t 56)<|.t 57) 52 true,
   og 59 (.bin .add (.t 55)<|.t 58) 52 true,
   og 60 (.bin .leq (.t 59)<|.c<|.int .i64 0) 52 true,
   og 61 (.pick (.t 52) (.t 60)<|.c<|.bool false) 49 false,
   o 62 (.pick (.t 49) (.c<|.bool true)<|.t 61),
   ⟨none,.store 1 (.t 5)<|.t 62,none⟩])<|
  hfD
def Zqk(p a b:Pt)(w:Int)(F:Fr)(hb6:Zd 6 (frV F)=true)(x:Bool)(r3 r4 r5:AObj)(h3:∀n,2<=n->Zj n r3=true)(h4:∀n,2<=n->Zj n r4=true)(h5:∀n,2<=n->Zj n r5=true):
 Zb rE hfD [(4,.ptr 0 0 0 1),(9,I<|hfX a.Y p.Y),(11,I<|hfX b.Y p.Y),(12,I<|ZoX p a b)] [.row 1 [I w],.row 1 [.bool x],.loop .busy .normal F [15,16] c261R0a c261R0b,r3,r4,r5] =
  some (.normal,[],[.row 1 [I<|Zp4 p a b w],.row 1 [.bool x],.loop .busy .normal F [15,16] c261R0a c261R0b,r3,r4,r5]):=by
 have t6:decide (hfX a.Y p.Y>0) = !decide (hfX a.Y p.Y<=0):=by by_cases c:hfX a.Y p.Y<=0<;>simp[c]<;>omega
 have t7:decide (hfX b.Y p.Y<=0) = !decide (hfX b.Y p.Y>0):=by by_cases c:hfX b.Y p.Y>0<;>simp[c]<;>omega
 have q3:=h3 6<|by decide
 have q4:=h4 6<|by decide
 have q5:=h5 6<|by decide
 unfold Zp4;rw[t6,t7];generalize hfX a.Y p.Y=ay at*;generalize hfX b.Y p.Y=by' at*
 generalize ZoX p a b=tn at*;cases d3:decide (ay<=0)with
 |true=>
  cases d4:decide (by'>0)with
  |true=>
   rw[d3]at t6;cases d5:decide (tn>0)with
   |true=>simp only[go_sem,hfD,d3,d4,d5,hb6,q3,q4,q5]
   |false=>simp only[go_sem,hfD,d3,d4,d5,t6,hb6,q3,q4,q5,ZSn,ZTN,ZSo,cond_false]
  |false=>
   rw[d3]at t6;simp only[go_sem,hfD,d3,d4,t6,hb6,q3,q4,q5,ZSn,ZTN,ZSo,cond_false]
 |false=>
  rw[d3]at t6;cases d4:decide (by'>0)with
  |true=>
   rw[d4]at t7;simp only[go_sem,hfD,d3,t6,t7,hb6,q3,q4,q5,ZSn,ZSs,ZTN,ZSo,cond_false]
  |false=>
   rw[d4]at t7;cases d8:decide (tn<0)with
   |true=>simp only[go_sem,hfD,d3,t6,t7,d8,hb6,q3,q4,q5,ZSs,ZSo,cond_false,ZSB,cond_true]
   |false=>simp only[go_sem,hfD,d3,t6,t7,d8,hb6,q3,q4,q5,ZSs,ZSo,cond_false,ZTN]
def Zql(v:AV)(hv:∀n,bel n v=true)(p:Pt)(st:Int×Bool)(q a b:Pt):
 U4 rE 2 [.agg [I a.X,I a.Y],.agg [I b.X,I b.Y]] (hfH v p st++[.row 2 [.agg [I q.X,I q.Y]]]) =
  some (.bool true,hfH v p (Zp4 p a b st.1,st.2||Zp9 p a b)++[.row 2 [.agg [I q.X,I q.Y]],.row 2 [.agg [I a.X,I a.Y]],.row 2 [.agg [I b.X,I b.Y]]]):=by
 have h:=Ss (E:=rE) (b:=2) (args:=[.agg [I a.X,I a.Y],.agg [I b.X,I b.Y]]) (h:=hfH v p st++[.row 2 [.agg [I q.X,I q.Y]]]) (fr:=ZoD v p) (ps:=[15,16]) (assign:=c261R0a) (body:=c261R0b)
  (fr0:=(16,.agg [I b.X,I b.Y])::(15,.agg [I a.X,I a.Y])::ZoD v p) rfl rfl (by simp only[go_sem,c261R0a,hfH,ZoD]<;>rfl) (by rfl)
  (e:=.normal) (fr2:=[]) (h2:=[.row 1 [I<|Zp4 p a b st.1],.row 1 [.bool<|st.2||Zp9 p a b],.loop .busy .normal (ZoD v p) [15,16] c261R0a c261R0b,.row 2 [.agg [I q.X,I q.Y]],.row 2 [.agg [I a.X,I a.Y]],.row 2 [.agg [I b.X,I b.Y]]])
  (by
   show Zb rE hfB [(7,.ptr 5 0 0 1),(6,.ptr 4 0 0 1),(16,.agg [I b.X,I b.Y]),(15,.agg [I a.X,I a.Y]),(14,.clo (.func 280) [] [.iptr false [v]]),(13,v),(0,v),(3,.iptr false [I p.X,I p.Y]),(4,.ptr 0 0 0 1),(5,.ptr 1 0 0 1)]
    [.row 1 [I st.1],.row 1 [.bool st.2],.loop .busy .normal (ZoD v p) [15,16] c261R0a c261R0b,.row 2 [.agg [I q.X,I q.Y]],.row 2 [.agg [I a.X,I a.Y]],.row 2 [.agg [I b.X,I b.Y]]]=_
   have hb6:Zd 6 (frV<|ZoD v p)=true:=by simp only[go_sem,ZoD,hv]
   have hr:∀(z:Pt)n,2<=n->Zj n (.row 2 [.agg [I z.X,I z.Y]])=true:=λz n _=>rfl
   have hL:=λx=>Zqk p a b st.1 (ZoD v p) hb6 x (.row 2 [.agg [I q.X,I q.Y]]) (.row 2 [.agg [I a.X,I a.Y]]) (.row 2 [.agg [I b.X,I b.Y]]) (hr q) (hr a)<|hr b
   simp only[hfX,ZoX]at hL;unfold Zp9 ZoX hfX;cases c1:st.2 with
   |true=>
    rw[ZSe];simp only[go_sem,hfB,hb6,hL]
   |false=>
    rw[ZSl];cases d1:W (W (W (W (2*a.X)-p.X)*W (W (2*b.Y)-p.Y))-W (W (W (2*a.Y)-p.Y)*W (W (2*b.X)-p.X)))==0 with
    |true=>simp only[go_sem,hfB,hb6,hL,d1,ZSc]
    |false=>simp only[go_sem,hfB,hb6,hL,d1,ZSo]) (by rfl)
 exact h
def Zqm(l:List Pt)(ex:Bool)(hl:l.length<=1000000)(p:Pt):pfn rE 261 [.isl false ex 2<|l.map Pt.enc,.agg [I p.X,I p.Y]]=some (.tup [I (ZoC l p).1,.bool (ZoC l p).2]):=by
 have hv:∀n,bel n (.isl false ex 2<|l.map Pt.enc)=true:=λn=>by
  have:=ZN (n:=n) [.isl false ex 2<|l.map Pt.enc] (by have:=Zw (f:=Pt.enc) (λt=>rfl) l;simp only[go_sem])
  unfold Zd at this;rw[ZS3]at this;exact this.1
 have hb3:Zd 3 (frV<|ZoD (.isl false ex 2<|l.map Pt.enc) p)=true:=by simp only[go_sem,ZoD,hv]
 have L:=Y8 (E:=rE) (live:=[0,1,5,6,7]) (b:=c280L0b) l.length (λi=>[(0,.yld 2),(1,.iptr false [.isl false ex 2<|l.map Pt.enc]),(5,.isl false ex 2<|l.map Pt.enc),(6,I l.length),(7,I i)])
  (λi=>hfH (.isl false ex 2<|l.map Pt.enc) p<|(List.range i).foldl (ZoP p l) (0,false)) (λi=>rfl)
  (λi hi=>by
   have h0:0<l.length:=by omega
   have hg:=YN hi;have hg2:=YN (l:=l)<|ZTi (i+1) h0;have hi':=Zh hi;have hw:=Zx (n:=i)<|by omega
   have hn:=nat_ne h0;have hy:=Zql (.isl false ex 2<|l.map Pt.enc) hv p ((List.range i).foldl (ZoP p l) (0,false)) (pAt l i) (pAt l i)<|pAt l<|(i+1)%l.length;have hs:(List.range<|i+1).foldl (ZoP p l) (0,false)=ZoP p l ((List.range i).foldl (ZoP p l) (0,false)) i:=by
    rw[List.range_succ,ZUf];rfl
   rw[hs];generalize(List.range i).foldl (ZoP p l) (0,false)=n at*;unfold ZoP;simp only[hfH,ZS8,ZSa]at hy⊢;refine⟨_,by simp only[go_sem,c280L0b,S3,hg,hg2,hi',hw,hn,Jc,hy,Pt.enc,hb3];rfl,?_⟩
   simp only[go_sem])
  (e:=.exit 0) (by simp only[go_sem,hfH,c280L0b,ZG];rfl) (by simp)
 have L':Zg rE [0,1,5,6,7] c280L0b [(0,.yld 2),(1,.iptr false [.isl false ex 2<|l.map Pt.enc]),(5,.isl false ex 2<|l.map Pt.enc),(6,I l.length),(7,.int .i64 0)] [.row 1 [.int .i64 0],.row 1 [.bool false],.loop .ready .normal (ZoD (.isl false ex 2<|l.map Pt.enc) p) [15,16] c261R0a c261R0b]=_:=L;rw[Z5 (f:=261) rfl rfl];have hrf:rf rE (.clo (.func 280) [] [.iptr false [.isl false ex 2<|l.map Pt.enc]]) [15,16] c261R0a c261R0b (ZoD (.isl false ex 2<|l.map Pt.enc) p) [.row 1 [.int .i64 0],.row 1 [.bool false]] =
  some (.normal,ZoD (.isl false ex 2<|l.map Pt.enc) p,[.row 1 [I (ZoC l p).1],.row 1 [.bool (ZoC l p).2],.loop .exhausted .normal (ZoD (.isl false ex 2<|l.map Pt.enc) p) [15,16] c261R0a c261R0b]):=by
  rw[Z1k (c:=c280) rfl];simp only[go_sem,c280,c280L0,L',hb3];rfl
 simp only[ZoD]at hrf;simp only[go_sem,c261,Z1l,Sr,hrf,hv]
def ZoY(l:List Pt)(p:Pt):Int:=
 bif (!Vh l||Jf p)||((ZoC l ⟨W<|2*p.X,W<|2*p.Y⟩).1==0&&!(ZoC l ⟨W<|2*p.X,W<|2*p.Y⟩).2)then -1
 else bif (ZoC l ⟨W<|2*p.X,W<|2*p.Y⟩).1 != 0&&!(ZoC l ⟨W<|2*p.X,W<|2*p.Y⟩).2 then 1 else 0
def Zqn(l:List Pt)(ex:Bool)(hl:l.length<=1000000)(p:Pt):pfn rE 190 [.isl false ex 2<|l.map Pt.enc,.agg [I p.X,I p.Y]]=some (I<|ZoY l p):=by
 have hV:=Dz l ex hl;have hO:=Z1h p;have hH:=Zqm l ex hl ⟨W<|2*p.X,W<|2*p.Y⟩;have hO2:pfn rE 238 [.isl false ex 2<|l.map Pt.enc,.agg [I<|W<|2*p.X,I<|W<|2*p.Y]]=some (.bool<|(ZoC l ⟨W<|2*p.X,W<|2*p.Y⟩).1==0&&!(ZoC l ⟨W<|2*p.X,W<|2*p.Y⟩).2):=by
  rw[Z5 (f:=238) rfl rfl];cases c:(ZoC l ⟨W<|2*p.X,W<|2*p.Y⟩).1==0<;>simp only[go_sem,c238,hH,c,ZSc,ZSo]
 have hI:pfn rE 239 [.isl false ex 2<|l.map Pt.enc,.agg [I<|W<|2*p.X,I<|W<|2*p.Y]]=some (.bool<|(ZoC l ⟨W<|2*p.X,W<|2*p.Y⟩).1 != 0&&!(ZoC l ⟨W<|2*p.X,W<|2*p.Y⟩).2):=by
  rw[Z5 (f:=239) rfl rfl];cases c:(ZoC l ⟨W<|2*p.X,W<|2*p.Y⟩).1 != 0<;>simp only[go_sem,c239,hH,c,ZSc,ZSo]
 rw[Z5 (f:=190) rfl rfl];unfold ZoY;generalize((ZoC l ⟨W<|2*p.X,W<|2*p.Y⟩).1==0&&!(ZoC l ⟨W<|2*p.X,W<|2*p.Y⟩).2)=b1 at*;generalize((ZoC l ⟨W<|2*p.X,W<|2*p.Y⟩).1 != 0&&!(ZoC l ⟨W<|2*p.X,W<|2*p.Y⟩).2)=b2 at*;cases c1:Vh l with
 |false=>simp only[go_sem,c190,hV,c1,ZSs,ZSe,cond_true]
 |true=>
 cases c2:Jf p with
 |true=>simp only[go_sem,c190,hV,hO,c1,c2,ZSn,ZSl,ZSe,cond_true]
 |false=>
 cases b1 with
 |true=>simp only[go_sem,c190,hV,hO,hO2,c1,c2,ZSn,ZSl,cond_true]
 |false=>
 cases b2<;>simp only[go_sem,c190,hV,hO,hO2,hI,c1,c2,ZSn,ZSl,cond_true,cond_false]
def ZoG(x:Region):Bool:=x.Kind==1&&x.Ended==-1
def ZpM(x:Region):pfn rE 106 [x.enc]=some (.bool<|ZoG x):=by
 rw[Z5 (f:=106) rfl rfl];unfold ZoG;cases c:x.Kind==1<;>simp only[go_sem,c106,Region.enc,NL.enc,c,ZSc,ZSo]
def ZoF(s:Sta)(p:Pt)(K:List Int)(x:Region):List Int:=bif ZoG x&&decide (ZoY x.Ring.l p>=0)then Qi Vm K (Zoq s x.Owner)else K
def Zoy(s:Sta)(p:Pt):List Int:=s.Regions.foldl (ZoF s p) []
def ZoH(s:Sta)(p:Pt):List Int:=Zox<|Zoy s p
structure ClS(s:Sta):Prop where
 E:StE s
 pr:Jx s=true
def ClS.prop{s:Sta}(h:ClS s):Prop' s:=((Zdb s).1 h.pr).1
def Zpa{a b c:Int}(h:QM a b c=true):0<=a/\a<=63:=by
 unfold QM ZD at h;simp only[ZS3,decide_eq_true_eq]at h;exact h.1
def ClS.reg{s:Sta}(h:ClS s){x:Region}(hx:x∈s.Regions):0<=x.Owner/\x.Owner<=63:=by
 have:=h.prop.rg x hx;unfold Vo at this;simp only[ZS3]at this;exact Zpa this.1
def ClS.mst{s:Sta}(h:ClS s){a:Int}(ha:0<=a):pfn rE 65 [ldI s,I a]=some (I<|Zoq s a):=ZpJ s h.prop.pa a ha
def ZpN{s:Sta}(h:ClS s)(p:Pt):∀(l:List Region)(K:List Int),(∀x∈l,x∈s.Regions)->(∀z∈K,0<=z/\z<=63)->∀z∈l.foldl (ZoF s p) K,0<=z/\z<=63
 |[],K,_,hK=>hK
 |x::r,K,hl,hK=>by
  rw[ZSy];refine ZpN h p r _ (λy hy=>hl y<|ZT5 _ hy)<|λz hz=>?_
  unfold ZoF at hz;cases c:ZoG x&&decide (ZoY x.Ring.l p>=0)with
  |false=>rw[c]at hz;exact hK z hz
  |true=>
   rw[c,cond_true]at hz;unfold Qi at hz;cases d:K.any (Vm<|Zoq s x.Owner)with
   |true=>rw[d]at hz;exact hK z hz
   |false=>
    rw[d,cond_false,ZSW,ZSF]at hz;rcases hz with hz|rfl
    .exact hK z hz
    .exact ZpH h.prop.pa<|h.reg<|hl x<|ZSS ..
def Zqo(s:Sta)(h:ClS s)(p:Pt):Zg rE [0,3,5,13,14,15] c110L0b [(0,ldI s),(3,.iptr false [I p.X,I p.Y]),(5,.mp 0),(13,.isl false false 6<|s.Regions.map Region.enc),(14,I s.Regions.length),(15,.int .i64 0)] [.map [] []] =
 some (.exit 0,[(0,ldI s),(3,.iptr false [I p.X,I p.Y]),(5,.mp 0),(13,.isl false false 6<|s.Regions.map Region.enc),(14,I s.Regions.length),(15,I s.Regions.length)],[.map ((Zoy s p).map I)<|ZO (Zoy s p).length]):=by
 have hl:=h.E.sizes.regions;have hbl:=Zot s;have hb:∀(K:List Int)n,Zd n (K.map I)=true/\Zd n (ZO K.length)=true:=λK n=>⟨ZN _<|Zw (λt=>rfl) K,ZN _<|Ut _⟩
 have L:=Y8 (E:=rE) (live:=[0,3,5,13,14,15]) (b:=c110L0b) s.Regions.length (λi=>[(0,ldI s),(3,.iptr false [I p.X,I p.Y]),(5,.mp 0),(13,.isl false false 6<|s.Regions.map Region.enc),(14,I s.Regions.length),(15,I i)])
  (λi=>[.map (((s.Regions.take i).foldl (ZoF s p) []).map I)<|ZO ((s.Regions.take i).foldl (ZoF s p) []).length]) (λi=>rfl)
  (λi hi=>by
   obtain⟨x,hx⟩:∃x,s.Regions[i]?=some x:=⟨_,ZS5 hi⟩;have hm:=ZSd hx;have hg:=Z6 (f:=Region.enc) hx;have hi':=Zh hi;have hwr:=Zx (n:=i)<|by omega
   have hT:=ZpM x;have hW:=Zqn x.Ring.l x.Ring.ex (ZSz (h.E.regions x hm).2.1 (by omega)) p
   have hM:=h.mst (h.reg hm).1;rw[Us _ _ hx];generalize List.foldl (ZoF s p) [] (s.Regions.take i)=K at*;unfold ZoF;have hp:=λ(q:AObj)=>Ur (eq:=Vm) Wi K (Zoq s x.Owner) (h:=[.map (K.map I)<|ZO K.length,q]) (b:=0) rfl
   refine⟨[(0,ldI s),(3,.iptr false [I p.X,I p.Y]),(5,.mp 0),(13,.isl false false 6<|s.Regions.map Region.enc),(14,I s.Regions.length),(15,I (i+1:Nat))],?_,rfl⟩;simp only[Region.enc,NL.enc]at hT;cases c1:ZoG x with
   |false=>
    rw[c1]at hT;simp only[go_sem,c110L0b,hg,hi',hwr,hT,Region.enc,NL.enc,hb,hbl,ZSo,cond_false]
   |true=>
   rw[c1]at hT;cases c2:decide (ZoY x.Ring.l p>=0)with
   |false=>simp only[go_sem,c110L0b,hg,hi',hwr,hT,hW,c2,Region.enc,NL.enc,hb,hbl,ZSc,cond_false]
   |true=>simp only[go_sem,c110L0b,hg,hi',hwr,hT,hW,hM,hp,c2,Region.enc,NL.enc,hb,hbl,ZSc,cond_true])
  (e:=.exit 0) (fr:=[(0,ldI s),(3,.iptr false [I p.X,I p.Y]),(5,.mp 0),(13,.isl false false 6<|s.Regions.map Region.enc),(14,I s.Regions.length),(15,I s.Regions.length)]) (h:=[.map ((Zoy s p).map I)<|ZO (Zoy s p).length]) (by
   rw[ZSt];show Zb rE _ _ [.map ((Zoy s p).map I)<|ZO (Zoy s p).length]=_
   simp only[go_sem,c110L0b,ZG,hb,hbl]) (by simp)
 exact L
def Zqp(b:Nat)(h:Hp):fnV rE 192 [.mp b] h=some (.clo (.func 242) [] [.ptr h.length 0 0 1],h++[.row 1 [.mp b]]):=by
 rw[Q6 (f:=192) rfl rfl];simp only[go_sem,c192]
def Zqq(K:List Int)(vs:List AV)(hK:∀z∈K,0<=z/\z<=63)(hl:K.length<=1000000):fnV rE 191 [.clo (.func 242) [] [.ptr 1 0 0 1]] [.map (K.map I) vs,.row 1 [.mp 0]] =
 some (.sl 2 K.length 0 K.length false,[.map (K.map I) vs,.row 1 [.mp 0],.row 1<|(Zox K).map I]):=by
 have hi:(K.map I).all Zp2=true:=by
  rw[ZTq,ZSj];intro z hz;obtain⟨h1,h2⟩:=hK z hz;show(decide (-9223372036854775808<=z)&&decide (z<=9223372036854775807))=true
  rw[decide_eq_true (by omega),decide_eq_true<|by omega]
  rfl
 have hb:Nat.ble K.length 1000000=true:=ZT1 hl;have hs:Yk (K.map I)=(Zox K).map I:=Zpl K;rw[V8 (s:=ZoZ 242) rfl];unfold ZoZ;simp only[ZSI,ZSp,hi,hb,ZSB,hs,ZS4];rfl
def ZpO(s:Sta)(h:ClS s)(p:Pt):pfn rE 110 [ldI s,.agg [I p.X,I p.Y]]=some (.isl false false 1<|(ZoH s p).map I):=by
 have L:=Zqo s h p;have hR:∀z∈Zoy s p,0<=z/\z<=63:=ZpN h p s.Regions [] (λx hx=>hx)<|λz hz=>by cases hz
 have hlen:(Zoy s p).length<=1000000:=by
  have G:∀(l:List Region)(K:List Int),(l.foldl (ZoF s p) K).length<=K.length+l.length:=by
   intro l;induction l with
   |nil=>intro K;exact ZS6 _
   |cons x r ih=>
    intro K;rw[ZSy,ZSu];refine ZSz (ih _) ?_;have:(ZoF s p K x).length<=K.length+1:=by
     unfold ZoF Qi;cases ZoG x&&decide (ZoY x.Ring.l p>=0)with
     |false=>exact ZTb _
     |true=>
      rw[cond_true];cases K.any (Vm<|Zoq s x.Owner)with
      |true=>exact ZTb _
      |false=>rw[cond_false,ZSv];exact ZS6 _
    omega
  have:=G s.Regions [];have hl:=h.E.sizes.regions;unfold Zoy;simp only[ZSV]at this;omega
 have hk:=Zqp 0 [.map ((Zoy s p).map I)<|ZO (Zoy s p).length];have hs:=Zqq (Zoy s p) (ZO (Zoy s p).length) hR hlen;have hsl:(Zox<|Zoy s p).length=(Zoy s p).length:=(Zp3 _).length_eq;have hc:Z4 ((Zox<|Zoy s p).map I)=true:=Zw (λt=>rfl) _
 have htk:List.take (Zoy s p).length ((Zox<|Zoy s p).map I)=(Zox<|Zoy s p).map I:=ZSk<|by simp[hsl]
 have hb:∀(K:List Int)n,Zd n (K.map I)=true/\Zd n (ZO K.length)=true:=λK n=>⟨ZN _<|Zw (λt=>rfl) K,ZN _<|Ut _⟩
 have hbl:=Zot s;have hcl:=Zow s;unfold ZoH;rw[Z5 (f:=110) rfl rfl];simp only[ZSu,ZSV,ZS8,ZSa,ZSh]at hk;simp only[go_sem,c110,c110L0,L,hk,hs,hb,hbl,hc,hsl,ZS4,htk,ZSr,beq_self_eq_true]
def Zqr(l:List Str)(hl:l.length<=100000)(id:Str)(bw ex:Bool):pfn rE 188 [.isl bw ex 1<|l.map encS,.str id]=some (.bool<|l.any<|λx=>Z3 id x):=by
 have h:=Nz (f:=237) (enc:=encS) (p:=λx=>Z3 id x) (v:=.str id) rfl rfl l (by omega) (λx _=>rfl) rfl (λx _=>rfl) bw ex
 rw[Z5 (f:=188) rfl rfl,<-Vg];unfold WG;cases bw<;>simp only[go_sem,c188,h]
def ZoM(e:Event):List Pt:=
 bif !Q9 e then []else
 bif e.Kind==1||(e.Kind==2||e.Kind==5)then e.Path.l.take 1 else
 bif e.Kind==6||e.Kind==10 then [e.Point]else
 bif e.Kind==9 then e.Lst.l.map (·.Point)else []
def Zqs{e:Event}(h:Q9 e=true)(hk:(e.Kind==1||(e.Kind==2||e.Kind==5))=true):0<e.Path.l.length:=by
 have hn:=ZcV h;have hp:Vh e.Path.l=true\/Ul e.Path.l=true:=by
  rcases(by simpa using hk:e.Kind=1\/e.Kind=2\/e.Kind=5)with k|k|k
  .rw[ZcW k]at hn;have hn':(ZZ e.Id&&(ZD e.A 1 3&&Vh e.Path.l))=true:=hn;simp only[ZS3]at hn';exact Or.inl hn'.2.2
  .rw[ZcW k]at hn;have hn':(ZZ e.Id&&Ul e.Path.l)=true:=hn;simp only[ZS3]at hn';exact Or.inr hn'.2
  .rw[ZcW k]at hn;have hn':(ZZ e.Id&&Vh e.Path.l)=true:=hn;simp only[ZS3]at hn';exact Or.inl hn'.2
 rcases hp with hp|hp
 .unfold Vh at hp;rw[ZS3]at hp;have:=of_decide_eq_true hp.1;omega
 .unfold Ul at hp;simp only[ZS3]at hp;have:=of_decide_eq_true hp.2.1;omega
def Zqt(e:Event)(hl:e.Lst.l.length<=1000):Zg rE [3,28,29,30] c109L0b [(3,.sl 0 0 0 0 false),(28,.isl false e.Lst.ex 7<|e.Lst.l.map Ent.enc),(29,I e.Lst.l.length),(30,.int .i64 0)] [.row 2 []] =
 some (.exit 1,[(3,.sl 0 e.Lst.l.length 0 e.Lst.l.length false),(28,.isl false e.Lst.ex 7<|e.Lst.l.map Ent.enc),(29,I e.Lst.l.length),(30,I e.Lst.l.length)],[.row 2 ((e.Lst.l.map (·.Point)).map Pt.enc)]):=by
 have hbP:∀(D:List Pt)n,Zd n (D.map Pt.enc)=true:=λD n=>ZN _<|Zw (λt=>rfl) D
 have L:=Y8 (E:=rE) (live:=[3,28,29,30]) (b:=c109L0b) e.Lst.l.length (λi=>[(3,.sl 0 i 0 i false),(28,.isl false e.Lst.ex 7<|e.Lst.l.map Ent.enc),(29,I e.Lst.l.length),(30,I i)])
  (λi=>[.row 2 (((e.Lst.l.take i).map (·.Point)).map Pt.enc)]) (λi=>rfl)
  (λi hi=>by
   obtain⟨x,hx⟩:∃x,e.Lst.l[i]?=some x:=⟨_,ZS5 hi⟩;have hlen:(e.Lst.l.take i).length=i:=by rw[ZSD];omega
   have hg:=Z6 (f:=Ent.enc) hx;have hi':=Zh hi;have hwr:=Zx (n:=i)<|by omega
   have htk:(e.Lst.l.take<|i+1).map (·.Point)=(e.Lst.l.take i).map (·.Point)++[x.Point]:=by
    rw[ZT0,hx,ZSm];rfl
   have ha:=λ(q:AObj)=>XC (h:=[.row 2 (((e.Lst.l.take i).map (·.Point)).map Pt.enc),q]) (fz:=false) (b:=0) (g:=i) (sz:=2) (bytes:=16) (es:=((e.Lst.l.take i).map (·.Point)).map Pt.enc) (bw:=false) (ex:=false) (ys:=[.agg [I x.Point.X,I x.Point.Y]]) (by show(bif (((e.Lst.l.take i).map (·.Point)).map Pt.enc).length==i then _ else none)=_;rw[ZS4,ZS4,hlen,beq_self_eq_true];rfl) rfl rfl (by decide) (by decide) (by simp;omega)
   have hma:((e.Lst.l.take i).map (·.Point)++[x.Point]).map Pt.enc=((e.Lst.l.take i).map (·.Point)).map Pt.enc++[.agg [I x.Point.X,I x.Point.Y]]:=by rw[ZSm];rfl
   rw[htk,hma];have hb2:∀n,Zd n (((e.Lst.l.take i).map (·.Point)).map Pt.enc++[.agg [I x.Point.X,I x.Point.Y]])=true:=λn=>by rw[<-hma];exact hbP _ n
   generalize((e.Lst.l.take i).map (·.Point)).map Pt.enc=es at*;refine⟨[(3,.sl 0 (i+1) 0 (i+1) false),(28,.isl false e.Lst.ex 7<|e.Lst.l.map Ent.enc),(29,I e.Lst.l.length),(30,I (i+1:Nat))],?_,rfl⟩;simp only[go_sem,c109L0b,hg,hi',hwr,ha,hb2,Ent.enc])
  (e:=.exit 1) (fr:=[(3,.sl 0 e.Lst.l.length 0 e.Lst.l.length false),(28,.isl false e.Lst.ex 7<|e.Lst.l.map Ent.enc),(29,I e.Lst.l.length),(30,I e.Lst.l.length)]) (h:=[.row 2 ((e.Lst.l.map (·.Point)).map Pt.enc)]) (by
   rw[ZSt];simp only[go_sem,c109L0b,ZG,hbP]) (by simp)
 exact L
def Zqu(l:List Pt)(ex:Bool)(h0:0<l.length)(hl:l.length<=1000000):pfn rE 43 [.isl false ex 2<|l.map Pt.enc]=some (.isl false false 2<|l.map Pt.enc):=by
 have hfit:(l.map Pt.enc).all (fits 2)=true:=by
  rw[ZTq,ZSj];intro x _;rfl
 have hne:(l.map Pt.enc).isEmpty=false:=by
  cases l with
  |nil=>exact absurd h0<|Nat.not_lt_zero _
  |cons x r=>rfl
 have hble:Nat.ble l.length 1000000=true:=ZT1 hl;have hc:Z4 (l.map Pt.enc)=true:=Zw (λt=>rfl) _
 have htk:List.take l.length (l.map Pt.enc)=l.map Pt.enc:=ZSk<|by simp
 have h1:fnV rE 43 [.isl false ex 2<|l.map Pt.enc] []=some (.sl 0 l.length 0 l.length false,[.row 2<|l.map Pt.enc]):=by
  rw[V8 (s:=ZOf 2) rfl];simp only[ZOf,Q2,Qq,hfit,hne,ZS4,hble,beq_self_eq_true,ZSe,ZSB,ZSs,cond_true,ZSa,ZSV]
 unfold pfn;rw[h1,ZM];simp only[go_sem,hc,htk,ZS4,ZSr,beq_self_eq_true]
def Zqv(e:Event)(he:EvS e):pfn rE 109 [evA e]=some (.isl false false 2<|(ZoM e).map Pt.enc):=by
 have hF:=NH e he;have hL:=Zqt e (by have:=he.lst;omega)
 have hcP:∀D:List Pt,Z4 (D.map Pt.enc)=true:=λD=>Zw (λt=>rfl) _
 have htk:List.take e.Lst.l.length ((e.Lst.l.map (·.Point)).map Pt.enc)=(e.Lst.l.map (·.Point)).map Pt.enc:=ZSk<|by simp
 have hpos:=Zqs (e:=e);rw[Z5 (f:=109) rfl rfl];unfold ZoM;simp only[evA]at hF;cases c0:Q9 e with
 |false=>
  rw[c0]at hF;simp only[go_sem,c109,hF,ZSs,cond_true,ZSq]
 |true=>
 rw[c0]at hF;have hcl:(e.Kind==1||(e.Kind==2||e.Kind==5))=true->∀x,pfn rE 43 [.isl false x 2<|(e.Path.l.take 1).map Pt.enc]=some (.isl false false 2<|(e.Path.l.take 1).map Pt.enc):=λhk x=>Zqu _ _ (by have:=hpos c0 hk;rw[ZSD];omega)<|by rw[ZSD];omega
 have hp1:(e.Kind==1||(e.Kind==2||e.Kind==5))=true->bounds none (some<|I 1) none e.Path.l.length=some (0,1,none):=λhk=>by
  have h1:=hpos c0 hk;have h2:Nat.ble 1 e.Path.l.length=true:=ZT1 h1;simp[bounds,Vz,Wl,VA,numOf,VB,h2];rfl
 have hm:List.take 1 (e.Path.l.map Pt.enc)=(e.Path.l.take 1).map Pt.enc:=List.map_take.symm;cases k1:e.Kind==1 with
 |true=>
  rw[k1]at hcl hp1;have hcl:=hcl rfl;have hp1:=hp1 rfl;simp only[go_sem,c109,c109L0,hF,k1,hp1,hm,hcl,ZSn,cond_false,cond_true,ZSe,if_true]
 |false=>
 cases k2:e.Kind==2 with
 |true=>
  rw[k1,k2]at hcl hp1;have hcl:=hcl rfl;have hp1:=hp1 rfl;simp only[go_sem,c109,c109L0,hF,k1,k2,hp1,hm,hcl,ZSn,cond_false,cond_true,ZSe,ZSM,if_true]
 |false=>
 cases k5:e.Kind==5 with
 |true=>
  rw[k1,k2,k5]at hcl hp1;have hcl:=hcl rfl;have hp1:=hp1 rfl;simp only[go_sem,c109,c109L0,hF,k1,k2,k5,hp1,hm,hcl,ZSn,cond_false,cond_true,ZSM,if_true]
 |false=>
 cases k6:e.Kind==6 with
 |true=>simp only[go_sem,c109,c109L0,hF,k1,k2,k5,k6,ZSn,cond_false,cond_true,ZSe,ZSl,ZS9,ZSq,Pt.enc]
 |false=>
 cases k10:e.Kind==10 with
 |true=>simp only[go_sem,c109,c109L0,hF,k1,k2,k5,k6,k10,ZSn,cond_false,cond_true,ZSM,ZSl,ZS9,ZSq,Pt.enc]
 |false=>
 cases k9:e.Kind==9 with
 |true=>simp only[go_sem,c109,c109L0,hF,hL,k1,k2,k5,k6,k10,k9,ZSn,cond_false,cond_true,ZSl,hcP,htk,ZS4,ZSr,beq_self_eq_true]
 |false=>simp only[go_sem,c109,c109L0,hF,k1,k2,k5,k6,k10,k9,ZSn,cond_false,cond_true,ZSl,ZSq]
abbrev rqL(s:Sta)(e:Event)(a m:Int):List AV:=[ldI s,I e.Kind,I e.Day,I e.A,I e.B,I e.Office,.str e.Id,.str e.Other,.str e.Text,.isl false e.Ids.ex 1<|e.Ids.l.map encS,.isl false e.Names.ex 3<|e.Names.l.map Nm.enc,
 I e.Number.N,.str e.Number.Letter,I e.Number.Num,I e.Number.Den,I e.Point.X,I e.Point.Y,.isl false e.Path.ex 2<|e.Path.l.map Pt.enc,.isl false e.Lst.ex 7<|e.Lst.l.map Ent.enc,I a,I m]
abbrev rqI(s:Sta)(e:Event)(a m:Int):AV:=.iptr false<|rqL s e a m
structure RqS(s:Sta)(e:Event)(m:Int):Prop where
 c:ClS s
 ev:EvS e
 f:Q9 e=true
 m:0<=m/\m<=63
def Zp0(s:Sta)(e:Event)(a m:Int):Int:=bif (e.Kind==14&&a != 0)||(e.Kind==13&&Zoq s e.B != m)then 18 else 0
def Zqw(s:Sta)(e:Event)(a m:Int)(h:RqS s e m):pfn rE 66 [rqI s e a m]=some (I<|Zp0 s e a m):=by
 have hM:(e.Kind==13)=true->pfn rE 65 [ldI s,I e.B]=some (I<|Zoq s e.B):=λhk=>by
  have hn:=ZcV h.f;rw[ZcW (k:=13)<|by simpa using hk]at hn
  have hn':K5 e.A e.B=true:=hn;unfold K5 ZD at hn';simp only[ZS3,decide_eq_true_eq]at hn';exact h.c.mst<|by omega
 have hcl:=Zow s;have hbl:=Zot s;rw[Z5 (f:=66) rfl rfl];unfold Zp0;cases c1:e.Kind==14 with
 |true=>
  have c5003:(e.Kind==13)=false:=by
   rw[(by simpa using c1:e.Kind=14)]
   rfl
  cases c2:a != 0 with
  |true=>simp only[go_sem,c66,c1,c2,c5003,ZSc,ZSe,cond_true]
  |false=>simp only[go_sem,c66,c1,c2,c5003,ZSc,ZSo,ZSl,cond_false]
 |false=>
  cases c5003:e.Kind==13 with
  |false=>simp only[go_sem,c66,c1,c5003,ZSo,ZSl,cond_false]
  |true=>
   have hM:=hM c5003;cases c5004:Zoq s e.B != m<;>simp only[go_sem,c66,c1,c5003,c5004,hM,hcl,ZSc,ZSo,ZSl,cond_true,cond_false]
def Zp5(s:Sta)(e:Event)(m:Int):Int:=bif e.Kind==15&&!s.Regions.any (λx=>ZoG x&&Zoq s x.Owner==m)then 18 else 0
def Zqx(s:Sta)(e:Event)(a m:Int)(h:RqS s e m)(x:Region)(hx:x∈s.Regions):pfn rE 105 [x.enc,.iptr false [rqI s e a m]]=some (.bool<|ZoG x&&Zoq s x.Owner==m):=by
 have hT:=ZpM x;have hM:=h.c.mst (h.c.reg hx).1;have hcl:=Zow s;have hbl:=Zot s;simp only[Region.enc,NL.enc]at hT;rw[Z5 (f:=105) rfl rfl];cases c:ZoG x with
 |false=>
  rw[c]at hT;simp only[go_sem,c105,Region.enc,NL.enc,hT,ZSo]
 |true=>
  rw[c]at hT;simp only[go_sem,c105,Region.enc,NL.enc,hT,hM,ZSc]
def ZpP(l:List Region)(hl:l.length<=1000000)(p:Region->Bool)(g:Nat)(cap:List AV)(hc:Z4 cap=true)(hp:∀x∈l,pfn rE g (x.enc::cap)=some (.bool<|p x)):pfn rE 107 [.isl false false 6<|l.map Region.enc,.clo (.func g) [] cap]=some (.bool<|l.any p):=by
 have h:=WF (E:=rE) (f:=189) (sz:=6) (n:=some 6) (enc:=Region.enc) (p:=p) (g:=g) (cap:=cap) rfl rfl hc l (by omega) (λx _=>x.el) hp false false
 rw[Z5 (f:=107) rfl rfl,<-Vg];unfold WG;simp only[go_sem,c107,h,hc]
def Zqy(s:Sta)(e:Event)(a m:Int)(h:RqS s e m):pfn rE 68 [rqI s e a m]=some (I<|Zp5 s e m):=by
 have hcl:=Zow s;have hbl:=Zot s;have hc:Z4 [.iptr false [rqI s e a m]]=true:=by simp only[go_sem]
 have hA:=ZpP s.Regions (by have:=h.c.E.sizes.regions;omega) (λx=>ZoG x&&Zoq s x.Owner==m) 105 [.iptr false [rqI s e a m]] hc<|Zqx s e a m h
 rw[Z5 (f:=68) rfl rfl];unfold Zp5;cases c1:e.Kind==15 with
 |false=>simp only[go_sem,c68,c1,ZSo,cond_false]
 |true=>
  generalize s.Regions.any (λx=>ZoG x&&Zoq s x.Owner==m)=b at*
  cases b<;>simp only[go_sem,c68,c1,hA,ZSc,ZSn,ZSs,cond_true,cond_false]
end Go.AM
