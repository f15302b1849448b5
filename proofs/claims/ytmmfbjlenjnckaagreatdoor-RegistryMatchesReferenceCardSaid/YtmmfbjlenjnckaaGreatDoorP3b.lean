/- What the functions of the program compute, part 2, for RegistryMatchesReference. No condition. -/
import Derived.Test.YtmmfbjlenjnckaaGreatDoorP3a
set_option linter.unusedVariables false
set_option linter.defProp false
set_option linter.unusedSimpArgs false
set_option linter.unusedSectionVars false
open Nat renaming reduceAdd → qq, reduceSub → qx, reduceMul → qz, reduceLT → qv, reduceLeDiff → qk, reduceBEq → qy
namespace Go.AM
open Go
variable [REdz]
def Ye(V:List Bool):List AV:=V.map .bool
def Wi(x y:Int):Zz false [1] (I x) (I y)=some (x==y):=by simp only[go_sem]
def Z2W(K:List Int)(V:List Bool)(hl:V.length=K.length)(x:Int){h:Hp}{b:Nat}(hb:h[b]?=some (.map (K.map I)<|Ye V)):
 ∃c,W5 h false [1] false (.bool false) (.mp b) (I x)=some (.bool c):=by
 simp only[W5,hb,QW,Wi];rcases Uq (ag:=false) (kk:=[1]) (enc:=I) (eq:=λa b=>a==b) Wi x K 0 with⟨h1,h2⟩|⟨j,h1,h2,h3,h4⟩
 .rw[h1];exact⟨false,rfl⟩
 .have:(Ye V)[j]?=some (.bool<|V[j]'(by omega)):=by
   unfold Ye;rw[ZXJ,ZX5<|by omega];rfl
  rw[h1];simp only[this];exact⟨_,rfl⟩
def Z2X(K:List Int)(V:List Bool)(hl:V.length=K.length)(x:Int)(c:Bool){h:Hp}{b:Nat}(hb:h[b]?=some (.map (K.map I)<|Ye V)):
 ∃(K':List Int)(V':List Bool),V'.length=K'.length/\K'.length<=K.length+1/\YK h false [1] (.mp b) (I x) (.bool c)=some (.bot,setH h b<|.map (K'.map I)<|Ye V'):=by
 simp only[YK,hb,Yo,Wi];rcases Uq (ag:=false) (kk:=[1]) (enc:=I) (eq:=λa b=>a==b) Wi x K 0 with⟨h1,h2⟩|⟨j,h1,h2,h3,h4⟩
 .rw[h1];refine⟨K++[x],V++[c],by simp[hl],by simp,?_⟩
  simp[Ye,ZM,ZH]
 .rw[h1];refine⟨K,V.set j c,by simp[hl],by omega,?_⟩
  simp[Ye,ZM,ZH,ZX6]
def Vm(a b:Int):Bool:=a==b
def Y2(p:bf):Bool:=QM p.a 0 0&&(QM p.b 0 0&&!(p.a==p.b))
def QV(l:List bf)(i:Nat):List Int:=(l.take i).foldl (λK p=>Qi Vm K p.b) []
def UB(l:List bf):Bool:=Zu (λi p=>Y2 p&&!(QV l i).any (Vm p.b)) 0 l
def WJ:(0<=(0:Int)/\(0:Int)<((2:Nat):Int))=True:=by simp
def XL:(0<=(1:Int)/\(1:Int)<((2:Nat):Int))=True:=by simp
def Z2Y(a17 a1:AV)(ha17:∀n,bel n a17=true)(ha1:∀n,bel n a1=true)(l:List bf)(hl:l.length<=1000):
 ∃fr' h',Zg rE [1,3,4,17,18,19,24,25,26] c60L0b [(1,a1),(3,.mp 0),(4,.int .i64 0),(17,a17),(18,.int .i64 2),(19,.int .i64 0),(24,.isl false false 2<|l.map bf.enc),(25,I l.length),(26,.int .i64 0)] [.map [] []] =
  some (if UB l=true then .exit 2 else .ret,fr',h')/\
  (UB l=true->(get fr' 1=a1/\get fr' 2=.bot/\get fr' 3=.mp 0/\get fr' 17=a17/\get fr' 18=.int .i64 2/\get fr' 19=.int .i64 0)/\∃(K:List Int)(V:List Bool),V.length=K.length/\h'=[.map (K.map I)<|Ye V])/\(UB l=false->get fr' 2=.bool false/\get fr' 1=a1/\get fr' 3=.mp 0/\get fr' 17=a17/\get fr' 18=.int .i64 2/\get fr' 19=.int .i64 0):=by
 have hbA:∀n(K:List Int),Zd n (K.map I)=true:=λn K=>ZN _<|Zw (λt=>rfl) K
 have hbT:∀n k,Zd n (ZO k)=true:=λn k=>ZN _<|Ut k
 have n0:((0:Int)).toNat=0:=rfl;have n1:((1:Int)).toNat=1:=rfl;have z0:((0:Int)==0)=true:=rfl;have L:=Jk (E:=rE) (live:=[1,3,4,17,18,19,24,25,26]) (b:=c60L0b) l (λi p=>Y2 p&&!(QV l i).any (Vm p.b))
  (λi=>[(1,a1),(3,.mp 0),(4,.int .i64 0),(17,a17),(18,.int .i64 2),(19,.int .i64 0),(24,.isl false false 2<|l.map bf.enc),(25,I l.length),(26,I i)])
  (λi=>[.map ((QV l i).map I)<|ZO (QV l i).length]) 2
  (λfr h=>(get fr 1=a1/\get fr 2=.bot/\get fr 3=.mp 0/\get fr 17=a17/\get fr 18=.int .i64 2/\get fr 19=.int .i64 0)/\h=[.map ((QV l l.length).map I)<|ZO (QV l l.length).length])
  (λfr h=>get fr 2=.bool false/\get fr 1=a1/\get fr 3=.mp 0/\get fr 17=a17/\get fr 18=.int .i64 2/\get fr 19=.int .i64 0) (λi=>rfl)
  (λi x hx hP=>by
   have hg:=Z6 (f:=bf.enc) hx;have hi:=Zh<|Z7 hx;have hw:=Zx (n:=i) (by have:=Z7 hx;omega)
   have hf:QV l (i+1)=Qi Vm (QV l i) x.b:=Us _ [] hx;have hp:=λhh=>Ur (ag:=false) (kk:=[1]) (enc:=I) (eq:=Vm) Wi (QV l i) x.b (h:=.map ((QV l i).map I) (ZO (QV l i).length)::hh) (b:=0) rfl
   have hq:=λhh=>H5 (ag:=false) (kk:=[1]) (enc:=I) (eq:=Vm) Wi (QV l i) x.b (h:=.map ((QV l i).map I) (ZO (QV l i).length)::hh) (b:=0) rfl
   rw[hf];generalize QV l i=K at hp hq hP⊢;simp only[Y2,ZWT,ZXn]at hP;obtain⟨⟨h1,h2,h3⟩,h4⟩:=hP;refine⟨_,by simp only[go_sem,c60L0b,hg,hi,hw,bf.enc,WJ,XL,n0,n1,ZXA,if_true,Qc,h1,h2,h3,z0,hq,hp,h4,hbA,hbT,ha17,ha1];rfl,?_⟩
   simp only[go_sem])
  (λi x hx hP=>by
   have hg:=Z6 (f:=bf.enc) hx;have hi:=Zh<|Z7 hx;have hq:=λhh=>H5 (ag:=false) (kk:=[1]) (enc:=I) (eq:=Vm) Wi (QV l i) x.b (h:=.map ((QV l i).map I) (ZO (QV l i).length)::hh) (b:=0) rfl
   generalize QV l i=K at hq hP⊢;unfold Y2 at hP;cases h1:QM x.a 0 0 with
   |false=>
    refine⟨_,_,by simp only[go_sem,c60L0b,hg,hi,bf.enc,WJ,n0,ZXA,if_true,Qc,h1,hbA,hbT,ha17,ha1];rfl,?_⟩
    refine⟨?_,?_,?_,?_,?_,?_⟩<;>simp only[go_sem]
   |true=>
   cases h2:QM x.b 0 0 with
   |false=>
    refine⟨_,_,by simp only[go_sem,c60L0b,hg,hi,bf.enc,WJ,XL,n0,n1,ZXA,if_true,Qc,h1,h2,hbA,hbT,ha17,ha1];rfl,?_⟩
    refine⟨?_,?_,?_,?_,?_,?_⟩<;>simp only[go_sem]
   |true=>
   cases h3:x.a==x.b with
   |true=>
    refine⟨_,_,by simp only[go_sem,c60L0b,hg,hi,bf.enc,WJ,XL,n0,n1,ZXA,if_true,Qc,h1,h2,h3,hbA,hbT,ha17,ha1];rfl,?_⟩
    refine⟨?_,?_,?_,?_,?_,?_⟩<;>simp only[go_sem]
   |false=>
    have h4:K.any (Vm x.b)=true:=by simpa[h1,h2,h3]using hP
    refine⟨_,_,by simp only[go_sem,c60L0b,hg,hi,bf.enc,WJ,XL,n0,n1,ZXA,if_true,Qc,h1,h2,h3,z0,hq,h4,hbA,hbT,ha17,ha1];rfl,?_⟩
    refine⟨?_,?_,?_,?_,?_,?_⟩<;>simp only[go_sem])
  (⟨_,_,by simp only[go_sem,c60L0b,ZG];rfl,by refine⟨⟨?_,?_,?_,?_,?_,?_⟩,?_⟩<;>simp only[go_sem]⟩)
 obtain⟨fr',h',h1,h2,h3⟩:=L;refine⟨fr',h',h1,λh=>?_,h3⟩
 obtain⟨h4,h5⟩:=h2 h;refine⟨h4,QV l l.length,List.replicate (QV l l.length).length true,by simp,?_⟩
 rw[h5];simp[Ye,ZO]
def Z2Z(a17 a1:AV)(ha17:∀n,bel n a17=true)(ha1:∀n,bel n a1=true)(l:List bf)(hl:l.length<=1000)(K0:List Int)(V0:List Bool)(hK0:V0.length=K0.length):
 ∃fr' h',Zg rE [1,3,4,17,18,19,24,25,26] c60L0b [(1,a1),(3,.mp 0),(4,.int .i64 1),(17,a17),(18,.int .i64 2),(19,.int .i64 1),(24,.isl false false 2<|l.map bf.enc),(25,I l.length),(26,.int .i64 0)] [.map (K0.map I)<|Ye V0] =
  some (if l.all Y2=true then .exit 2 else .ret,fr',h')/\
  (l.all Y2=true->(get fr' 1=a1/\get fr' 2=.bot/\get fr' 3=.mp 0/\get fr' 17=a17/\get fr' 18=.int .i64 2/\get fr' 19=.int .i64 1)/\∃o,h'=[o]/\∀n,Zj n o=true)/\(l.all Y2=false->get fr' 2=.bool false/\get fr' 1=a1/\get fr' 3=.mp 0/\get fr' 17=a17/\get fr' 18=.int .i64 2/\get fr' 19=.int .i64 1):=by
 have hbA:∀n(K:List Int),Zd n (K.map I)=true:=λn K=>ZN _<|Zw (λt=>rfl) K
 have hbT:∀n(V:List Bool),Zd n (Ye V)=true:=λn V=>ZN _<|Zw (λt=>rfl) V
 have n0:((0:Int)).toNat=0:=rfl;have n1:((1:Int)).toNat=1:=rfl;have z0:((1:Int)==0)=false:=rfl
 suffices G:∀(post pre:List bf)(K:List Int)(V:List Bool),l=pre++post->V.length=K.length->
  ∃fr' h',Zg rE [1,3,4,17,18,19,24,25,26] c60L0b [(1,a1),(3,.mp 0),(4,.int .i64 1),(17,a17),(18,.int .i64 2),(19,.int .i64 1),(24,.isl false false 2<|l.map bf.enc),(25,I l.length),(26,I pre.length)] [.map (K.map I)<|Ye V] =
  some (if post.all Y2=true then .exit 2 else .ret,fr',h')/\
  (post.all Y2=true->(get fr' 1=a1/\get fr' 2=.bot/\get fr' 3=.mp 0/\get fr' 17=a17/\get fr' 18=.int .i64 2/\get fr' 19=.int .i64 1)/\∃o,h'=[o]/\∀n,Zj n o=true)/\(post.all Y2=false->get fr' 2=.bool false/\get fr' 1=a1/\get fr' 3=.mp 0/\get fr' 17=a17/\get fr' 18=.int .i64 2/\get fr' 19=.int .i64 1)from G l [] K0 V0 rfl hK0
 intro post;induction post with
 |nil=>
  intro pre K V hp hKV;have hlen:l.length=pre.length:=by rw[hp];simp
  have hf:decide ((pre.length:Int)<(l.length:Int))=false:=by rw[hlen];exact ZG _
  refine⟨_,_,Q7 rfl (by simp only[go_sem,c60L0b,hf];rfl) (by simp),λ_=>⟨?_,_,rfl,λn=>by simp only[go_sem,hbA,hbT]⟩,λh=>by simp at h⟩
  refine⟨?_,?_,?_,?_,?_,?_⟩<;>simp only[go_sem]
 |cons x post ih=>
  intro pre K V hp hKV;have hx:l[pre.length]?=some x:=by rw[hp];simp
  have hg:=Z6 (f:=bf.enc) hx;have hi:=Zh<|Z7 hx;have hlx:=Z7 hx;have hw:=Zx (n:=pre.length)<|by omega
  rw[ZXz];cases h1:QM x.a 0 0 with
  |false=>
   have hP:Y2 x=false:=by simp[Y2,h1]
   rw[hP,ZWV];refine⟨_,_,Q7 rfl (by simp only[go_sem,c60L0b,hg,hi,bf.enc,WJ,n0,ZXA,if_true,Qc,h1,hbA,hbT,ha17,ha1];rfl) (by simp),λh=>(by cases h),λ_=>?_⟩
   refine⟨?_,?_,?_,?_,?_,?_⟩<;>simp only[go_sem]
  |true=>
  cases h2:QM x.b 0 0 with
  |false=>
   have hP:Y2 x=false:=by simp[Y2,h2]
   rw[hP,ZWV];refine⟨_,_,Q7 rfl (by simp only[go_sem,c60L0b,hg,hi,bf.enc,WJ,XL,n0,n1,ZXA,if_true,Qc,h1,h2,hbA,hbT,ha17,ha1];rfl) (by simp),λh=>(by cases h),λ_=>?_⟩
   refine⟨?_,?_,?_,?_,?_,?_⟩<;>simp only[go_sem]
  |true=>
  cases h3:x.a==x.b with
  |true=>
   have hP:Y2 x=false:=by simp only[Y2,h3,ZWS,ZWX]
   rw[hP,ZWV];refine⟨_,_,Q7 rfl (by simp only[go_sem,c60L0b,hg,hi,bf.enc,WJ,XL,n0,n1,ZXA,if_true,Qc,h1,h2,h3,hbA,hbT,ha17,ha1];rfl) (by simp),λh=>(by cases h),λ_=>?_⟩
   refine⟨?_,?_,?_,?_,?_,?_⟩<;>simp only[go_sem]
  |false=>
   have hP:Y2 x=true:=by simp only[Y2,h1,h2,h3,ZWU,ZX8]
   rw[hP,ZWR];obtain⟨c,hq⟩:=Z2W K V hKV x.b (h:=[.map (K.map I)<|Ye V,.row 2 [.agg [I x.a,I x.b]]]) (b:=0) rfl;obtain⟨K',V',hKV',_,hput⟩:=Z2X K V hKV x.b c (h:=[.map (K.map I)<|Ye V,.row 2 [.agg [I x.a,I x.b]]]) (b:=0) rfl;obtain⟨fr',h',h4,h5⟩:=ih (pre++[x]) K' V' (by simp[hp]) hKV'
   refine⟨fr',h',?_,h5⟩;rw[<-h4];have hl1:((pre++[x]).length:Int)=((pre.length+1:Nat):Int):=by simp
   rw[hl1];cases c<;>exact(Yt rfl (by simp only[go_sem,c60L0b,hg,hi,hw,bf.enc,WJ,XL,n0,n1,ZXA,if_true,Qc,h1,h2,h3,z0,hq,hput,hbA,hbT,ha17,ha1];rfl)).trans (by simp only[go_sem])
def chN(s:Sta):Nat->Int->Bool
 |0,at'=>!decide (at'>=0)
 |k+1,at'=>bif decide (at'>=0)then chN s k (XJ s at')else true
def Fl(s:Sta)(hs:StS s)(a71 a72 a73:AV)(h:Hp):∀k n at',n+k=s.Gc.length+1->
 ∃fr',Zg rE [1,10,11,71,72,73] c60L2b [(1,.iptr false [.isl false false 6<|s.Fa.map Gk.enc,.isl false false 5<|s.Gm.map By.enc,.isl false false 4<|s.Bt.map Ev.enc,.isl false false 16<|s.Bc.map Ga.enc,.isl false false 6<|s.Nk.map be.enc,.isl false false 2<|s.Gc.map bf.enc,.isl false false 2<|s.ba.map bf.enc]),(10,I at'),(11,I (n:Nat)),(71,a71),(72,a72),(73,a73)] h =
  some (if chN s k at'=true then .exit 6 else .ret,fr',h)/\(chN s k at'=true->get fr' 2=.bot/\get fr' 1=.iptr false [.isl false false 6<|s.Fa.map Gk.enc,.isl false false 5<|s.Gm.map By.enc,.isl false false 4<|s.Bt.map Ev.enc,.isl false false 16<|s.Bc.map Ga.enc,.isl false false 6<|s.Nk.map be.enc,.isl false false 2<|s.Gc.map bf.enc,.isl false false 2<|s.ba.map bf.enc]/\get fr' 71=a71/\get fr' 72=a72/\get fr' 73=a73)/\(chN s k at'=false->get fr' 2=.bool false/\get fr' 1=.iptr false [.isl false false 6<|s.Fa.map Gk.enc,.isl false false 5<|s.Gm.map By.enc,.isl false false 4<|s.Bt.map Ev.enc,.isl false false 16<|s.Bc.map Ga.enc,.isl false false 6<|s.Nk.map be.enc,.isl false false 2<|s.Gc.map bf.enc,.isl false false 2<|s.ba.map bf.enc]/\get fr' 71=a71/\get fr' 72=a72/\get fr' 73=a73):=by
 intro k;induction k with
 |zero=>
  intro n at' hn;unfold chN;cases h1:decide (at'>=0)with
  |false=>
   refine⟨_,Q7 rfl (by simp only[go_sem,c60L2b,h1,GH];rfl) (by simp),λ_=>?_,λhh=>(by simp at hh)⟩
   refine⟨?_,?_,?_,?_,?_⟩<;>simp only[go_sem]
  |true=>
   have h2:decide ((n:Int)>(s.Gc.length:Int))=true:=decide_eq_true<|by omega
   refine⟨_,Q7 rfl (by simp only[go_sem,c60L2b,h1,h2,GH];rfl) (by simp),λhh=>(by simp at hh),λ_=>?_⟩
   refine⟨?_,?_,?_,?_,?_⟩<;>simp only[go_sem]
 |succ k ih=>
  intro n at' hn;unfold chN;cases h1:decide (at'>=0)with
  |false=>
   refine⟨_,Q7 rfl (by simp only[go_sem,c60L2b,h1,GH];rfl) (by simp),λ_=>?_,λhh=>(by simp at hh)⟩
   refine⟨?_,?_,?_,?_,?_⟩<;>simp only[go_sem]
  |true=>
   have h2:decide ((n:Int)>(s.Gc.length:Int))=false:=decide_eq_false<|by omega
   have hm:=hs.merged;have hw:=Zx (n:=n)<|by omega
   have ht:=NJ s hs at';obtain⟨fr',h3,h4⟩:=ih (n+1) (XJ s at')<|by omega
   rw[cond_true];refine⟨fr',?_,h4⟩;rw[<-h3];exact(Yt rfl (by simp only[go_sem,c60L2b,h1,h2,hw,ht,GH];rfl)).trans (by simp only[go_sem])
def WK(s:Sta):Bool:=UB s.Gc&&(s.ba.all Y2&&s.Gc.all (λp=>chN s (s.Gc.length+1) p.b))
def Z30(s:Sta)(hs:StS s)(o:AObj)(ho:∀n,Zj n o=true):
 ∃fr',Zg rE [1,71,72,73] c60L3b [(1,.iptr false [.isl false false 6<|s.Fa.map Gk.enc,.isl false false 5<|s.Gm.map By.enc,.isl false false 4<|s.Bt.map Ev.enc,.isl false false 16<|s.Bc.map Ga.enc,.isl false false 6<|s.Nk.map be.enc,.isl false false 2<|s.Gc.map bf.enc,.isl false false 2<|s.ba.map bf.enc]),(71,.isl false false 2<|s.Gc.map bf.enc),(72,I s.Gc.length),(73,.int .i64 0)] [o] =
  some (if s.Gc.all (λp=>chN s (s.Gc.length+1) p.b)=true then .exit 4 else .ret,fr',[o])/\(s.Gc.all (λp=>chN s (s.Gc.length+1) p.b)=false->get fr' 2=.bool false):=by
 have n1:((1:Int)).toNat=1:=rfl;generalize ha:AV.iptr false [.isl false false 6<|s.Fa.map Gk.enc,.isl false false 5<|s.Gm.map By.enc,.isl false false 4<|s.Bt.map Ev.enc,.isl false false 16<|s.Bc.map Ga.enc,.isl false false 6<|s.Nk.map be.enc,.isl false false 2<|s.Gc.map bf.enc,.isl false false 2<|s.ba.map bf.enc]=a;have hba:∀n,bel n a=true:=λn=>by rw[<-ha];rfl
 have L:=Uf (E:=rE) (live:=[1,71,72,73]) (b:=c60L3b) (h:=[o]) s.Gc (λ_ p=>chN s (s.Gc.length+1) p.b) (λi=>[(1,a),(71,.isl false false 2<|s.Gc.map bf.enc),(72,I s.Gc.length),(73,I i)]) 4 (λfr=>get fr 2=.bool false) (λi=>rfl)
  (λi x hx hP=>by
   have hg:=Z6 (f:=bf.enc) hx;have hi:=Zh<|Z7 hx;have hw:=Zx (n:=i) (by have:=Z7 hx;have:=hs.merged;omega)
   obtain⟨fr',h1,h2,_⟩:=Fl s hs (.isl false false 2<|s.Gc.map bf.enc) (I s.Gc.length) (I i) [o,.row 2 [.agg [I x.a,I x.b]]] (s.Gc.length+1) 0 x.b<|by omega
   rw[hP,if_pos rfl,ha]at h1;obtain⟨q2,q1,q71,q72,q73⟩:=h2 hP;rw[ha]at q1;have h1':Zg rE [1,10,11,71,72,73] c60L2b [(1,a),(10,I x.b),(11,.int .i64 0),(71,.isl false false 2<|s.Gc.map bf.enc),(72,I s.Gc.length),(73,I i)] [o,.row 2 [.agg [I x.a,I x.b]]]=_:=h1;refine⟨_,by simp only[go_sem,c60L3b,c60L2,hg,hi,hw,bf.enc,XL,n1,ZXA,if_true,h1',q1,q2,q71,q72,q73,ho,hba];rfl,?_⟩
   simp only[go_sem])
  (λi x hx hP=>by
   have hg:=Z6 (f:=bf.enc) hx;have hi:=Zh<|Z7 hx;obtain⟨fr',h1,_,h2⟩:=Fl s hs (.isl false false 2<|s.Gc.map bf.enc) (I s.Gc.length) (I i) [o,.row 2 [.agg [I x.a,I x.b]]] (s.Gc.length+1) 0 x.b<|by omega
   rw[hP,ha]at h1;obtain⟨q2,q1,q71,q72,q73⟩:=h2 hP;rw[ha]at q1;have h1':Zg rE [1,10,11,71,72,73] c60L2b [(1,a),(10,I x.b),(11,.int .i64 0),(71,.isl false false 2<|s.Gc.map bf.enc),(72,I s.Gc.length),(73,I i)] [o,.row 2 [.agg [I x.a,I x.b]]]=_:=h1;refine⟨_,by simp only[go_sem,c60L3b,c60L2,hg,hi,bf.enc,XL,n1,ZXA,if_true,h1',q1,q2,q71,q72,q73,ho,hba,ZX2];rfl,?_⟩
   simp only[go_sem])
  (⟨_,by simp only[go_sem,c60L3b,ZG];rfl⟩)
 rw[QE]at L;exact L
def Z31(s:Sta)(hs:StS s):pfn rE 60 [stA s]=some (.bool<|WK s):=by
 have hbA:∀n(K:List Int),Zd n (K.map I)=true:=λn K=>ZN _<|Zw (λt=>rfl) K
 have hbT:∀n(V:List Bool),Zd n (Ye V)=true:=λn V=>ZN _<|Zw (λt=>rfl) V
 have e0:ixG [AV.isl false false 2<|s.Gc.map bf.enc,.isl false false 2<|s.ba.map bf.enc] 0=some (.isl false false 2<|s.Gc.map bf.enc):=rfl;have e1:ixG [AV.isl false false 2<|s.Gc.map bf.enc,.isl false false 2<|s.ba.map bf.enc] 1=some (.isl false false 2<|s.ba.map bf.enc):=rfl;have d02:decide ((0:Int)<2)=true:=rfl;have d12:decide ((1:Int)<2)=true:=rfl;have d22:decide ((2:Int)<2)=false:=rfl;have w0:IntKind.i64.wrap ((0:Int)+1)=1:=rfl;have w1:IntKind.i64.wrap ((1:Int)+1)=2:=rfl;have c2:(((0+1+1:Nat):Nat):Int)=2:=rfl;have c2':((2:Nat):Int)=2:=rfl;obtain⟨f1,g1,hm1,hm2,hm3⟩:=Z2Y (.isl false false 1 [.isl false false 2<|s.Gc.map bf.enc,.isl false false 2<|s.ba.map bf.enc]) (.iptr false [.isl false false 6<|s.Fa.map Gk.enc,.isl false false 5<|s.Gm.map By.enc,.isl false false 4<|s.Bt.map Ev.enc,.isl false false 16<|s.Bc.map Ga.enc,.isl false false 6<|s.Nk.map be.enc,.isl false false 2<|s.Gc.map bf.enc,.isl false false 2<|s.ba.map bf.enc]) (λn=>rfl) (λn=>rfl) s.Gc hs.merged
 rw[Z5 (f:=60) rfl rfl];unfold WK;cases c1:UB s.Gc with
 |false=>
  rw[c1]at hm1;obtain⟨q2,q1,q3,q17,q18,q19⟩:=hm3 c1;have R:∃fr h,Zg rE [1,3,17,18,19] c60L1b [(1,.iptr false [.isl false false 6<|s.Fa.map Gk.enc,.isl false false 5<|s.Gm.map By.enc,.isl false false 4<|s.Bt.map Ev.enc,.isl false false 16<|s.Bc.map Ga.enc,.isl false false 6<|s.Nk.map be.enc,.isl false false 2<|s.Gc.map bf.enc,.isl false false 2<|s.ba.map bf.enc]),(3,.mp 0),(17,.isl false false 1 [.isl false false 2<|s.Gc.map bf.enc,.isl false false 2<|s.ba.map bf.enc]),(18,.int .i64 2),(19,.int .i64 0)] [.map [] []]=some (.ret,fr,h)/\get fr 2=.bool false:=by
   refine⟨_,_,Q7 rfl (by simp only[go_sem,c60L1b,c60L0,e0,d02,hm1,q1,q2,q3,q17,q18,q19,ZX2];rfl) (by simp),?_⟩
   simp only[go_sem]
  obtain⟨fr,h,hR,hq⟩:=R;simp only[go_sem,c60,c60L1,c2',hR,hq]
 |true=>
  rw[c1,if_pos rfl]at hm1;obtain⟨⟨q1,q2,q3,q17,q18,q19⟩,K,V,hKV,rfl⟩:=hm2 c1;obtain⟨f2,g2,hr1,hr2,hr3⟩:=Z2Z (.isl false false 1 [.isl false false 2<|s.Gc.map bf.enc,.isl false false 2<|s.ba.map bf.enc]) (.iptr false [.isl false false 6<|s.Fa.map Gk.enc,.isl false false 5<|s.Gm.map By.enc,.isl false false 4<|s.Bt.map Ev.enc,.isl false false 16<|s.Bc.map Ga.enc,.isl false false 6<|s.Nk.map be.enc,.isl false false 2<|s.Gc.map bf.enc,.isl false false 2<|s.ba.map bf.enc]) (λn=>rfl) (λn=>rfl) s.ba hs.rulings K V hKV
  have R1:=Yt (E:=rE) (live:=[1,3,17,18,19]) (b:=c60L1b) (fr:=[(1,.iptr false [.isl false false 6<|s.Fa.map Gk.enc,.isl false false 5<|s.Gm.map By.enc,.isl false false 4<|s.Bt.map Ev.enc,.isl false false 16<|s.Bc.map Ga.enc,.isl false false 6<|s.Nk.map be.enc,.isl false false 2<|s.Gc.map bf.enc,.isl false false 2<|s.ba.map bf.enc]),(3,.mp 0),(17,.isl false false 1 [.isl false false 2<|s.Gc.map bf.enc,.isl false false 2<|s.ba.map bf.enc]),(18,.int .i64 2),(19,.int .i64 0)]) (h:=[.map [] []]) rfl (by simp only[go_sem,c60L1b,c60L0,e0,d02,w0,hm1,q1,q2,q3,q17,q18,q19];rfl)
  simp only[go_sem]at R1;cases c5003:s.ba.all Y2 with
  |false=>
   rw[c5003]at hr1;obtain⟨p2,p1,p3,p17,p18,p19⟩:=hr3 c5003;have R:∃fr h,Zg rE [1,3,17,18,19] c60L1b [(1,.iptr false [.isl false false 6<|s.Fa.map Gk.enc,.isl false false 5<|s.Gm.map By.enc,.isl false false 4<|s.Bt.map Ev.enc,.isl false false 16<|s.Bc.map Ga.enc,.isl false false 6<|s.Nk.map be.enc,.isl false false 2<|s.Gc.map bf.enc,.isl false false 2<|s.ba.map bf.enc]),(3,.mp 0),(17,.isl false false 1 [.isl false false 2<|s.Gc.map bf.enc,.isl false false 2<|s.ba.map bf.enc]),(18,.int .i64 2),(19,.int .i64 1)] [.map (K.map I)<|Ye V]=some (.ret,fr,h)/\get fr 2=.bool false:=by
    refine⟨_,_,Q7 rfl (by simp only[go_sem,c60L1b,c60L0,e1,d12,hr1,p1,p2,p3,p17,p18,p19,ZX2];rfl) (by simp),?_⟩
    simp only[go_sem]
   obtain⟨fr,h,hR,hq⟩:=R;simp only[go_sem,c60,c60L1,c2',R1,hR,hq]
  |true=>
   rw[c5003,if_pos rfl]at hr1;obtain⟨⟨p1,p2,p3,p17,p18,p19⟩,o,rfl,ho⟩:=hr2 c5003;have R2:=Yt (E:=rE) (live:=[1,3,17,18,19]) (b:=c60L1b) (fr:=[(1,.iptr false [.isl false false 6<|s.Fa.map Gk.enc,.isl false false 5<|s.Gm.map By.enc,.isl false false 4<|s.Bt.map Ev.enc,.isl false false 16<|s.Bc.map Ga.enc,.isl false false 6<|s.Nk.map be.enc,.isl false false 2<|s.Gc.map bf.enc,.isl false false 2<|s.ba.map bf.enc]),(3,.mp 0),(17,.isl false false 1 [.isl false false 2<|s.Gc.map bf.enc,.isl false false 2<|s.ba.map bf.enc]),(18,.int .i64 2),(19,.int .i64 1)]) (h:=[.map (K.map I)<|Ye V]) rfl (by simp only[go_sem,c60L1b,c60L0,e1,d12,w1,hr1,p1,p2,p3,p17,p18,p19];rfl)
   simp only[go_sem]at R2;have R3:=Q7 (E:=rE) (live:=[1,3,17,18,19]) (b:=c60L1b) (fr:=[(1,.iptr false [.isl false false 6<|s.Fa.map Gk.enc,.isl false false 5<|s.Gm.map By.enc,.isl false false 4<|s.Bt.map Ev.enc,.isl false false 16<|s.Bc.map Ga.enc,.isl false false 6<|s.Nk.map be.enc,.isl false false 2<|s.Gc.map bf.enc,.isl false false 2<|s.ba.map bf.enc]),(3,.mp 0),(17,.isl false false 1 [.isl false false 2<|s.Gc.map bf.enc,.isl false false 2<|s.ba.map bf.enc]),(18,.int .i64 2),(19,.int .i64 2)]) (h:=[o]) rfl (by simp only[go_sem,c60L1b,d22];rfl) (by simp)
   obtain⟨f4,h4,h5⟩:=Z30 s hs o ho;cases c5004:s.Gc.all (λp=>chN s (s.Gc.length+1) p.b)with
   |true=>rw[c5004,if_pos rfl]at h4;simp only[go_sem,c60,c60L1,c60L3,c2',R1,R2,R3,h4]
   |false=>rw[c5004]at h4;simp only[go_sem,c60,c60L1,c60L3,c2',R1,R2,R3,h4,h5 c5004,ZX2]
def c58_eq:c58=.seq s58p0 (.seq s58p1<|.seq s58p2<|.seq s58p3<|.seq s58p4<|.seq s58p5<|.seq s58p6<|.seq s58p7<|.seq s58p8<|.seq s58p9<|.seq s58p10 .ret):=rfl
def Zo(d:Ga):AV:=.agg [.str d.Id,.str d.Ev,.str d.By,I d.bh,I d.An.N,.str d.An.bm,I d.An.Num,I d.An.Den,I d.bg.X,I d.bg.Y,I d.From,I d.Ld,.isl false d.After.ex 1<|d.After.l.map encS,I d.Why,I d.bv,.str d.Veil]
def exD(d:Ga):Bool:=d.Ld==-1
def K8(s:Sta)(i:Int)(d:Ga):Bool:=d.After.l.all λid=>!decide (Zn s id<=i)
def Yf(d:Ga):Int:=(d.After.l.length:Int)
def He(d:Ga):Bool:=
 bif d.Why==12 then Yf d==0 else bif d.Why==11 then Yf d==0&&Z3 d.Veil emp else bif d.Why==9 then ZD (Yf d) 2 8&&Z3 d.Veil emp else bif d.Why==10 then Yf d==1&&Z3 d.Veil emp else false
def UC(d:Ga):Bool:=(((!(exD d==(d.Why==0)))||(exD d&&decide (Yf d>0)))||(!exD d&&!He d))||!Jq d.After.l
def NM(d:Ga):Gt:=⟨0,0,0,0,d.bv,d.Id,emp,d.Veil,⟨false,[]⟩,⟨false,[]⟩,⟨0,emp,0,0⟩,⟨0,0⟩,⟨false,[]⟩,⟨false,[]⟩⟩
def Hf(d:Ga):Gt:=⟨0,0,0,0,0,d.Id,d.Ev,d.By,⟨false,[]⟩,⟨false,[]⟩,d.An,d.bg,⟨false,[]⟩,⟨false,[]⟩⟩
def NN(d:Ga):Bool:=Z3 d.Ev emp&&(Z3 d.By emp&&(QL d.An ⟨0,emp,0,0⟩&&(QK d.bg ⟨0,0⟩&&Q9 {NM d with bq:=15})))
def WL(s:Sta)(k:Int):Int:=match s.Bt[k.toNat]? with|some b=>b.Ld|none=>0
def QF(s:Sta)(k:Int):Int:=match s.Gm[k.toNat]? with|some b=>b.Ld|none=>0
def NO(s:Sta)(d:Ga):Bool:=((d.bv != 0||decide (Y1 s d.Ev<0))||decide (ZL s d.By<0))||(exD d&&(WL s (Y1 s d.Ev) != -1||QF s (ZL s d.By) != -1))
def Hg(s:Sta)(i:Int)(d:Ga):Bool:=
 K8 s i d&&(!UC d&&(bif Z3 d.Veil emp then !NO s d&&Q9 {Hf d with bq:=6}else NN d))
structure DoS(d:Ga):Prop where
 after:d.After.l.length<=100
 id:d.Id.size<=1000
 building:d.Ev.size<=1000
 street:d.By.size<=1000
 veil:d.Veil.size<=1000
abbrev stI(s:Sta):AV:=.iptr false [.isl false false 6<|s.Fa.map Gk.enc,.isl false false 5<|s.Gm.map By.enc,.isl false false 4<|s.Bt.map Ev.enc,.isl false false 16<|s.Bc.map Ga.enc,.isl false false 6<|s.Nk.map be.enc,.isl false false 2<|s.Gc.map bf.enc,.isl false false 2<|s.ba.map bf.enc]
def Z32(s:Sta)(hs:StS s)(i:Int)(d:Ga)(hd:DoS d):∃fr',Zg rE [1,2,5,6,22,23,24] c58L0b [(1,I i),(2,stI s),(5,.ptr 0 0 0 1),(6,.bool<|exD d),(22,.isl false d.After.ex 1<|d.After.l.map encS),(23,I d.After.l.length),(24,.int .i64 0)] [.row 16 [Zo d]] =
 some (if K8 s i d=true then .exit 0 else .ret,fr',[.row 16 [Zo d]])/\(K8 s i d=true->get fr' 2=stI s/\get fr' 4=.bot/\get fr' 5=.ptr 0 0 0 1/\get fr' 6=.bool (exD d))/\(K8 s i d=false->get fr' 4=.bool false):=by
 have L:=QT (E:=rE) (live:=[1,2,5,6,22,23,24]) (b:=c58L0b) (h:=[.row 16 [Zo d]]) d.After.l (λ_ id=>!decide (Zn s id<=i))
  (λj=>[(1,I i),(2,stI s),(5,.ptr 0 0 0 1),(6,.bool<|exD d),(22,.isl false d.After.ex 1<|d.After.l.map encS),(23,I d.After.l.length),(24,I j)]) 0
  (λfr=>get fr 2=stI s/\get fr 4=.bot/\get fr 5=.ptr 0 0 0 1/\get fr 6=.bool (exD d)) (λfr=>get fr 4=.bool false) (λj=>rfl)
  (λj x hx hP=>by
   have hg:=Z6 (f:=encS) hx;have hi:=Zh<|Z7 hx;have hw:=Zx (n:=j) (by have:=Z7 hx;have:=hd.after;omega)
   have hf:=find_ok s hs x;have hP':decide (Zn s x<=i)=false:=by simpa using hP
   refine⟨_,by simp only[go_sem,c58L0b,hg,hi,hw,encS,hf,hP'];rfl,?_⟩
   simp only[go_sem])
  (λj x hx hP=>by
   have hg:=Z6 (f:=encS) hx;have hi:=Zh<|Z7 hx;have hf:=find_ok s hs x;have hP':decide (Zn s x<=i)=true:=by simpa using hP
   refine⟨_,by simp only[go_sem,c58L0b,hg,hi,encS,hf,hP'];rfl,?_⟩
   simp only[go_sem])
  (⟨_,by simp only[go_sem,c58L0b,ZG];rfl,by refine⟨?_,?_,?_,?_⟩<;>simp only[go_sem]⟩)
 rw[QE]at L;exact L
def Fm(s:Sta)(hs:StS s)(i:Nat)(d:Ga)(hd:DoS d)(hx:s.Bc[i]?=some d)(rest:ACode):
 (K8 s i d=true->Zb rE (.seq s58p0<|.seq s58p1<|.seq s58p2<|.seq s58p3 rest) [(0,stA s),(1,I i)] []=Zb rE rest [(2,stI s),(4,.bot),(5,.ptr 0 0 0 1),(6,.bool<|exD d)] [.row 16 [Zo d]])/\
 (K8 s i d=false->∃fr h,Zb rE (.seq s58p0<|.seq s58p1<|.seq s58p2<|.seq s58p3 rest) [(0,stA s),(1,I i)] []=some (.ret,fr,h)/\get fr 4=.bool false):=by
 obtain⟨fr',h1,h2,h3⟩:=Z32 s hs i d hd;have hg:=Z6 (f:=Ga.enc) hx;have hex:(d.Ld==-1)=exD d:=rfl;unfold Zo at h1⊢;constructor
 .intro ha;rw[if_pos ha]at h1;obtain⟨q2,q4,q5,q6⟩:=h2 ha;simp only[go_sem,s58p0,s58p1,s58p2,s58p3,c58L0,hg,Ga.enc,NL.enc,hex,h1,q2,q4,q5,q6]
 .intro ha;rw[ha]at h1;have q4:=h3 ha;simp only[ZX2,if_false]at h1;refine⟨_,_,by simp only[go_sem,s58p0,s58p1,s58p2,s58p3,c58L0,hg,Ga.enc,NL.enc,hex,h1,q4];rfl,?_⟩
  simp only[go_sem]
def XM(d:Ga):AObj:=.map [.int .i64 12,.int .i64 11,.int .i64 9,.int .i64 10] [.bool<|Yf d==0,.bool<|Yf d==0&&Z3 d.Veil emp,.bool<|ZD (Yf d) 2 8&&Z3 d.Veil emp,.bool<|Yf d==1&&Z3 d.Veil emp]
def Z33(a1 a2:Bool)(r1 r2:List Nat)(w1 w2:Option Nat)(k v j u:AV):Kp ⟨a1,r1,w1,some (k,v)⟩ ⟨a2,r2,w2,some (j,u)⟩=YF k j:=(rfl)
def Fo(a b:Int):YF (.int .i64 a) (.int .i64 b)=(a != b):=by simp[YF]
def Z34(x:AObj)(ks vs:List AV)(k:Int)(v:AV)(hk:ZW false [1] (I k) ks 0=some none):YK [x,.map ks vs] false [1] (.mp 1) (I k) v=some (.bot,[x,.map (ks++[I k])<|vs++[v]]):=by
 simp only[YK,ZXS,ZXy,Yo,Wi,hk,ZM,ZH,GN,GM]
def Js(b:Nat)(v:AV):Bool:=match v with| .mp c=>c==b|_=>false
def Z35(b:Nat):Js b (.mp b)=true:=by simp[Js]
def Z36{b:Nat}{v:AV}(h:Js b v=true):v=.mp b:=by
 cases v with
 |mp c=>have:c=b:=by simpa[Js]using h
        rw[this]
 |_=>simp[Js]at h
def Z37(fr:Fr)(x:AObj)(ks vs:List AV)(k:Int)(t:Nat)(h37':Js 1 (get fr 37)=true)(hk:ZW false [1] (I k) ks 0=some none)(htn:t≠37):
 Za rE (.ins false [1] (.t 37) (.c<|.int .i64 k)<|.t t) fr [x,.map ks vs]=⟨false,[],some 1,some (I k,get fr t)⟩:=by
 have h37:=Z36 h37';obtain⟨v,ht⟩:∃v,get fr t=v:=⟨_,rfl⟩;rw[ht];have e37:get (Z2 (AOp.ins false [1] (.t 37) (.c<|.int .i64 k)<|.t t).slots fr) 37=.mp 1:=by
  simp[AOp.slots,Arg.slots,Z2,get,h37]
 have et:get (Z2 (AOp.ins false [1] (.t 37) (.c<|.int .i64 k)<|.t t).slots fr) t=v:=by
  have:(37==t)=false:=by rw[beq_eq_false_iff_ne];exact λh=>htn h.symm
  simp[AOp.slots,Arg.slots,Z2,get,this,ht]
 have hne:YF (I k) (I k)=false:=by rw[Fo];simp
 have hd:Za rE (.ins false [1] (.t 37) (.c<|.int .i64 k)<|.t t) fr [x,.map ks vs]=QG rE (Z2 (AOp.ins false [1] (.t 37) (.c<|.int .i64 k)<|.t t).slots fr) [x,.map ks vs] (.ins false [1] (.t 37) (.c<|.int .i64 k)<|.t t) (match Z8 rE (Z2 (AOp.ins false [1] (.t 37) (.c<|.int .i64 k)<|.t t).slots fr) [x,.map ks vs] ([x,.map ks vs]:Hp).length (.ins false [1] (.t 37) (.c<|.int .i64 k)<|.t t)with|some r=>r.2.2|none=>none):=rfl
 rw[hd];generalize Z2 (AOp.ins false [1] (.t 37) (.c<|.int .i64 k)<|.t t).slots fr=f at e37 et;have ho:Z8 rE f [x,.map ks vs] ([x,.map ks vs]:Hp).length (.ins false [1] (.t 37) (.c<|.int .i64 k)<|.t t)=some (.bot,[1],some (1,.map (ks++[I k])<|vs++[v])):=by
  simp only[Z8,ev,e37,et,ZXS,ZXy,Yo,Wi,hk]
 have hi:Wm rE f [x,.map ks vs] (.ins false [1] (.t 37) (.c<|.int .i64 k)<|.t t)=some (I k,v):=by
  simp only[Wm,ev,e37,et,ZXS,ZXy,hk,hne,cond_false]
 rw[ho];simp only[QG,hi,ZXo]
def Z38(s:Sta)(d:Ga)(rest:ACode):
 Zb rE (.seq s58p4<|.seq s58p5 rest) [(2,stI s),(4,.bot),(5,.ptr 0 0 0 1),(6,.bool<|exD d)] [.row 16 [Zo d]] =
  Zb rE rest [(2,stI s),(5,.ptr 0 0 0 1),(6,.bool<|exD d),(9,I<|Yf d),(10,.mp 1)] [.row 16 [Zo d],XM d]:=by
 have hn:((d.After.l.length:Nat):Int)=Yf d:=rfl;have f1:ZW false [1] (.int .i64 12) [] 0=some none:=rfl;have f2:ZW false [1] (.int .i64 11) [.int .i64 12] 0=some none:=rfl;have f3:ZW false [1] (.int .i64 9) [.int .i64 12,.int .i64 11] 0=some none:=rfl;have f4:ZW false [1] (.int .i64 10) [.int .i64 12,.int .i64 11,.int .i64 9] 0=some none:=rfl;have n1:((11:Int) != 12)=true:=rfl;have n2:((9:Int) != 12)=true:=rfl;have n3:((9:Int) != 11)=true:=rfl;have n4:((10:Int) != 12)=true:=rfl;have n5:((10:Int) != 11)=true:=rfl;have n6:((10:Int) != 9)=true:=rfl;have b1:∀x:AV,Zd 1 [x]=bel 1 x:=λx=>by simp[Zd]
 unfold XM Zo;cases c1:Yf d==0<;>cases c2:Yf d==1<;>cases c5003:ZD (Yf d) 2 8<;>cases c5004:Z3 d.Veil emp<;>
  simp only[go_sem,s58p4,s58p5,hn,c1,c2,c5003,c5004,DY,Z37,Z35,Z34,f1,f2,f3,f4,Z33,Fo,n1,n2,n3,n4,n5,n6,ne_eq,Nat.reduceEqDiff,not_false_eq_true]
def Z39(d:Ga)(x:AObj):W5 [x,XM d] false [1] false (.bool false) (.mp 1) (I d.Why)=some (.bool<|He d):=by
 unfold XM He;simp only[W5,ZXS,ZXy,QW,Wi,ZW];cases c1:d.Why==12<;>cases c2:d.Why==11<;>cases c5003:d.Why==9<;>cases c5004:d.Why==10<;>rfl
set_option maxHeartbeats 4000000 in
def Fp(s:Sta)(d:Ga)(hd:DoS d)(rest:ACode):
 (UC d=false->Zb rE (.seq s58p6 rest) [(2,stI s),(5,.ptr 0 0 0 1),(6,.bool<|exD d),(9,I<|Yf d),(10,.mp 1)] [.row 16 [Zo d],XM d]=Zb rE rest [(2,stI s),(5,.ptr 0 0 0 1),(6,.bool<|exD d),(90,.bool false)] [.row 16 [Zo d],XM d])/\
 (UC d=true->∃fr h,Zb rE (.seq s58p6 rest) [(2,stI s),(5,.ptr 0 0 0 1),(6,.bool<|exD d),(9,I<|Yf d),(10,.mp 1)] [.row 16 [Zo d],XM d]=some (.ret,fr,h)/\get fr 4=.bool false):=by
 have hg:=Z39 d;have hso:=Fj d.After.l d.After.ex (by have:=hd.after;omega)
 have t1:(true==true)=true:=rfl;have t2:(true==false)=false:=rfl;have t3:(false==true)=false:=rfl;have t4:(false==false)=true:=rfl;generalize XM d=m at hg⊢;unfold UC Zo;cases c1:exD d<;>cases c2:d.Why==0<;>cases c5003:decide (Yf d>0)<;>cases c5004:He d<;>cases c5005:Jq d.After.l<;>rw[c5004]at hg<;>rw[c5005]at hso<;>
  (constructor<;>intro hb<;>first|(exact absurd hb<|by decide)|skip)
 all_goals first
  |(simp only[go_sem,s58p6,c2,c5003,hg,hso,t1,t2,t3,t4];done)
  |(refine⟨_,_,by simp only[go_sem,s58p6,c2,c5003,hg,hso,t1,t2,t3,t4];rfl,?_⟩;simp only[go_sem])
def Z3a(d:Ga)(hd:DoS d):EvS (NM d):=⟨ZXb _,ZXb _,ZXb _,ZXb _,hd.id,ZXb _,hd.veil⟩
def Z3b(d:Ga)(hd:DoS d):EvS (Hf d):=⟨ZXb _,ZXb _,ZXb _,ZXb _,hd.id,hd.building,hd.street⟩
def Fq(s:Sta)(d:Ga)(hd:DoS d)(m:AObj)(rest:ACode):
 (Z3 d.Veil emp=true->Zb rE (.seq s58p7 rest) [(2,stI s),(5,.ptr 0 0 0 1),(6,.bool<|exD d),(90,.bool false)] [.row 16 [Zo d],m]=Zb rE rest [(2,stI s),(5,.ptr 0 0 0 1),(6,.bool<|exD d),(93,.bool false)] [.row 16 [Zo d],m])/\
 (Z3 d.Veil emp=false->∃fr h,Zb rE (.seq s58p7 rest) [(2,stI s),(5,.ptr 0 0 0 1),(6,.bool<|exD d),(90,.bool false)] [.row 16 [Zo d],m]=some (.ret,fr,h)/\get fr 4=.bool (NN d)):=by
 have hm:=Wg 15 (NM d)<|Z3a d hd;have hm':pfn rE 57 [I 15,.agg [I 0,I 0,I 0,I 0,I d.bv,.str d.Id,.str emp,.str d.Veil,.isl false false 1 [],.isl false false 3 [],I 0,.str emp,I 0,I 0,I 0,I 0,.isl false false 2 [],.isl false false 7 []]]=_:=hm;have hn4:(d.An.N==0&&(Z3 d.An.bm emp&&(d.An.Num==0&&d.An.Den==0)))=QL d.An ⟨0,emp,0,0⟩:=rfl;have hn5:(d.bg.X==0&&d.bg.Y==0)=QK d.bg ⟨0,0⟩:=rfl;unfold NN Zo;constructor
 .intro hv;simp only[go_sem,s58p7,hv]
 .intro hv;cases c1:Z3 d.Ev emp with
  |false=>refine⟨_,_,by simp only[go_sem,s58p7,hv,c1];rfl,?_⟩;simp only[go_sem]
  |true=>
  cases c2:Z3 d.By emp with
  |false=>refine⟨_,_,by simp only[go_sem,s58p7,hv,c1,c2];rfl,?_⟩;simp only[go_sem]
  |true=>
  cases c5003:QL d.An ⟨0,emp,0,0⟩with
  |false=>refine⟨_,_,by simp only[go_sem,s58p7,hv,c1,c2,hn4,c5003];rfl,?_⟩;simp only[go_sem]
  |true=>
  cases c5004:QK d.bg ⟨0,0⟩with
  |false=>refine⟨_,_,by simp only[go_sem,s58p7,hv,c1,c2,hn4,c5003,hn5,c5004];rfl,?_⟩;simp only[go_sem]
  |true=>refine⟨_,_,by simp only[go_sem,s58p7,hv,c1,c2,hn4,c5003,hn5,c5004,hm'];rfl,?_⟩;simp only[go_sem]
def QC{α:Type}{P:α->Bool}{l:List α}(h:decide (Zp P l 0<0)=false):∃(j:Nat)(x:α),Zp P l 0=(j:Int)/\l[j]?=some x:=by
 rcases UA P l 0 with⟨h1,_⟩|⟨j,x,h1,h2,_⟩
 .rw[h1]at h;simp at h
 .exact⟨j,x,by rw[h1];omega,h2⟩
def Z3c(s:Sta)(hs:StS s)(d:Ga)(hd:DoS d)(m:AObj):
 ∃fr h,Zb rE (.seq s58p8<|.seq s58p9<|.seq s58p10 .ret) [(2,stI s),(5,.ptr 0 0 0 1),(6,.bool<|exD d),(93,.bool false)] [.row 16 [Zo d],m]=some (.ret,fr,h)/\get fr 4=.bool (!NO s d&&Q9 {Hf d with bq:=6}):=by
 have hm:=Wg 6 (Hf d)<|Z3b d hd;have hm':pfn rE 57 [I 6,.agg [I 0,I 0,I 0,I 0,I 0,.str d.Id,.str d.Ev,.str d.By,.isl false false 1 [],.isl false false 3 [],I d.An.N,.str d.An.bm,I d.An.Num,I d.An.Den,I d.bg.X,I d.bg.Y,.isl false false 2 [],.isl false false 7 []]]=_:=hm;have hb:=Hb s hs d.Ev;have ht:=K7 s hs d.By;unfold NO Zo;cases c1:d.bv != 0 with
 |true=>refine⟨_,_,by simp only[go_sem,s58p8,s58p9,s58p10,hb,ht,c1];rfl,?_⟩;simp only[go_sem]
 |false=>
 cases c2:decide (Y1 s d.Ev<0)with
 |true=>refine⟨_,_,by simp only[go_sem,s58p8,s58p9,s58p10,hb,ht,c1,c2];rfl,?_⟩;simp only[go_sem]
 |false=>
 cases c5003:decide (ZL s d.By<0)with
 |true=>refine⟨_,_,by simp only[go_sem,s58p8,s58p9,s58p10,hb,ht,c1,c2,c5003];rfl,?_⟩;simp only[go_sem]
 |false=>
 obtain⟨j,x,hj,hx⟩:=QC c2;obtain⟨k,y,hk,hy⟩:=QC c5003;have hj':Y1 s d.Ev=(j:Int):=hj;have hk':ZL s d.By=(k:Int):=hk;have hbE:WL s (Y1 s d.Ev)=x.Ld:=by rw[hj'];simp[WL,hx]
 have hsE:QF s (ZL s d.By)=y.Ld:=by rw[hk'];simp[QF,hy]
 have gx:=Z6 (f:=Ev.enc) hx;have gy:=Z6 (f:=By.enc) hy;rw[hbE,hsE];rw[hj']at hb c2;rw[hk']at ht c5003;cases c5004:exD d with
 |false=>refine⟨_,_,by simp only[go_sem,s58p8,s58p9,s58p10,hb,ht,c1,c2,c5003,hm'];rfl,?_⟩;simp only[go_sem]
 |true=>
 cases c5005:x.Ld != -1 with
 |true=>refine⟨_,_,by simp only[go_sem,s58p8,s58p9,s58p10,hb,ht,c1,c2,c5003,gx,Ev.enc,NL.enc,c5005];rfl,?_⟩;simp only[go_sem]
 |false=>
 cases c5006:y.Ld != -1 with
 |true=>refine⟨_,_,by simp only[go_sem,s58p8,s58p9,s58p10,hb,ht,c1,c2,c5003,gx,gy,Ev.enc,By.enc,NL.enc,c5005,c5006];rfl,?_⟩;simp only[go_sem]
 |false=>refine⟨_,_,by simp only[go_sem,s58p8,s58p9,s58p10,hb,ht,c1,c2,c5003,gx,gy,Ev.enc,By.enc,NL.enc,c5005,c5006,hm'];rfl,?_⟩;simp only[go_sem]
def Fs(s:Sta)(hs:StS s)(i:Nat)(d:Ga)(hd:DoS d)(hx:s.Bc[i]?=some d):pfn rE 58 [stA s,I i]=some (.bool<|Hg s i d):=by
 rw[Z5 (f:=58) (c:=c58) rfl rfl,c58_eq];have e0:QP 0 [stA s,I i]=[(0,stA s),(1,I i)]:=rfl;rw[e0];unfold Hg;have fin:∀(fr:Fr)(h:Hp)(b:Bool),get fr 4=.bool b->frz (fnd [ResVar.tmp 4]<|some (.ret,fr,h))=some (.bool b):=by
  intro fr h b hg;simp only[go_sem,hg]
 cases c1:K8 s i d with
 |false=>
  obtain⟨fr,h,h1,h2⟩:=(Fm s hs i d hd hx _).2 c1;rw[h1];exact fin fr h false h2
 |true=>
  rw[(Fm s hs i d hd hx _).1 c1,Z38];cases c2:UC d with
  |true=>
   obtain⟨fr,h,h1,h2⟩:=(Fp s d hd _).2 c2;rw[h1];exact fin fr h false h2
  |false=>
   rw[(Fp s d hd _).1 c2];cases c5003:Z3 d.Veil emp with
   |false=>
    obtain⟨fr,h,h1,h2⟩:=(Fq s d hd (XM d) _).2 c5003;rw[h1];exact fin fr h _ h2
   |true=>
    rw[(Fq s d hd (XM d) _).1 c5003];obtain⟨fr,h,h1,h2⟩:=Z3c s hs d hd<|XM d;rw[h1];exact fin fr h _ h2
structure StE(s:Sta):Prop where
 sizes:StS s
 regions:∀x∈s.Fa,x.bk.l.length<=100/\x.Ring.l.length<=100/\x.Id.size<=1000
 streets:∀x∈s.Gm,x.bk.l.length<=100/\x.Line.l.length<=100/\x.Id.size<=1000
 buildings:∀x∈s.Bt,x.Ring.l.length<=100/\x.Id.size<=1000
 doors:∀x∈s.Bc,DoS x
 units:∀x∈s.Nk,x.Id.size<=1000/\x.Ga.size<=1000/\x.Text.size<=1000
def Jt(x:Gk):Gt:=⟨0,0,x.bq,0,0,x.Id,emp,emp,⟨false,[]⟩,⟨false,[]⟩,⟨0,emp,0,0⟩,⟨0,0⟩,x.Ring,⟨false,[]⟩⟩
def Ju(x:By):Gt:=⟨0,0,0,0,0,x.Id,emp,emp,⟨false,[]⟩,⟨false,[]⟩,⟨0,emp,0,0⟩,⟨0,0⟩,x.Line,⟨false,[]⟩⟩
def Jv(x:Ev):Gt:=⟨0,0,0,0,0,x.Id,emp,emp,⟨false,[]⟩,⟨false,[]⟩,⟨0,emp,0,0⟩,⟨0,0⟩,x.Ring,⟨false,[]⟩⟩
def Vn(x:be):Gt:=⟨0,0,0,0,0,x.Id,x.Ga,x.Text,⟨false,[]⟩,⟨false,[]⟩,⟨0,emp,0,0⟩,⟨0,0⟩,⟨false,[]⟩,⟨false,[]⟩⟩
def Vo(x:Gk):Bool:=QM x.bh x.Ld 0&&(Jp x.bk.l x.bk.ex&&Q9 {Jt x with bq:=1})
def Vp(x:By):Bool:=QM x.bh x.Ld 0&&(Jp x.bk.l x.bk.ex&&Q9 {Ju x with bq:=2})
def Vq(x:Ev):Bool:=QM x.bh x.Ld 0&&Q9 {Jv x with bq:=5}
def Vr(s:Sta)(i:Nat)(x:Ga):Bool:=QM x.bh x.Ld x.From&&Hg s i x
def QN(s:Sta)(k:Int):Int:=match s.Bc[k.toNat]? with|some d=>d.Ld|none=>0
def Jw(s:Sta)(x:be):Bool:=(x.Ld==-1&&(x.Why != 0||QN s (Zn s x.Ga) != -1))||((x.Ld != -1&&x.Why != 12)&&x.Why != 11)
def Vs(s:Sta)(x:be):Bool:=!decide (Zn s x.Ga<0)&&(QM 0 x.Ld x.From&&(Q9 {Vn x with bq:=7}&&!Jw s x))
def Jx(s:Sta):Bool:=s.Fa.all Vo&&(s.Gm.all Vp&&(s.Bt.all Vq&&(Zu (Vr s) 0 s.Bc&&(s.Nk.all (Vs s)&&(Jq (Qp s)&&(Wh s.Bc&&WK s))))))
def Z3d(s:Sta)(hs:StE s):∃fr',Zg rE [1,15,16,17] c9L0b [(1,stI s),(15,.isl false false 6<|s.Fa.map Gk.enc),(16,I s.Fa.length),(17,.int .i64 0)] [] =
 some (if Zu (λ_ x=>Vo x) 0 s.Fa=true then .exit 0 else .ret,fr',[])/\(Zu (λ_ x=>Vo x) 0 s.Fa=true->get fr' 1=stI s/\get fr' 2=.bot)/\(Zu (λ_ x=>Vo x) 0 s.Fa=false->get fr' 2=.bool false):=by
 have L:=QT (E:=rE) (live:=[1,15,16,17]) (b:=c9L0b) (h:=[]) s.Fa (λ_ x=>Vo x)
  (λi=>[(1,stI s),(15,.isl false false 6<|s.Fa.map Gk.enc),(16,I s.Fa.length),(17,I i)]) 0
  (λfr=>get fr 1=stI s/\get fr 2=.bot) (λfr=>get fr 2=.bool false) (λi=>rfl)
  (λi x hx hP=>by
   have hg:=Z6 (f:=Gk.enc) hx;have hi:=Zh<|Z7 hx;have hw:=Zx (n:=i) (by have:=Z7 hx;have:=hs.sizes.regions;omega)
   have hm:=ZXk hx;obtain⟨z1,z2,z3⟩:=hs.regions x hm;have hnm:=Hc x.bk.l x.bk.ex z1;have hmd:pfn rE 57 [I 1,.agg [I 0,I 0,I x.bq,I 0,I 0,.str x.Id,.str emp,.str emp,.isl false false 1 [],.isl false false 3 [],I 0,.str emp,I 0,I 0,I 0,I 0,.isl false x.Ring.ex 2<|x.Ring.l.map Pt.enc,.isl false false 7 []]]=some (.bool<|Q9 {Jt x with bq:=1}):=Wg 1 (Jt x) ⟨ZXb _,ZXb _,z2,ZXb _,z3,ZXb _,ZXb _⟩
   simp only[Vo,ZWT]at hP;obtain⟨p1,p2,p3⟩:=hP;refine⟨_,by simp only[go_sem,c9L0b,hg,hi,hw,Gk.enc,NL.enc,Qc,hnm,hmd,p1,p2,p3];rfl,?_⟩
   simp only[go_sem])
  (λi x hx hP=>by
   have hg:=Z6 (f:=Gk.enc) hx;have hi:=Zh<|Z7 hx;have hm:=ZXk hx;obtain⟨z1,z2,z3⟩:=hs.regions x hm;have hnm:=Hc x.bk.l x.bk.ex z1;have hmd:pfn rE 57 [I 1,.agg [I 0,I 0,I x.bq,I 0,I 0,.str x.Id,.str emp,.str emp,.isl false false 1 [],.isl false false 3 [],I 0,.str emp,I 0,I 0,I 0,I 0,.isl false x.Ring.ex 2<|x.Ring.l.map Pt.enc,.isl false false 7 []]]=some (.bool<|Q9 {Jt x with bq:=1}):=Wg 1 (Jt x) ⟨ZXb _,ZXb _,z2,ZXb _,z3,ZXb _,ZXb _⟩
   unfold Vo at hP;cases p1:QM x.bh x.Ld 0 with
   |false=>
    refine⟨_,by simp only[go_sem,c9L0b,hg,hi,Gk.enc,NL.enc,Qc,p1];rfl,?_⟩
    simp only[go_sem]
   |true=>
   cases p2:Jp x.bk.l x.bk.ex with
   |false=>
    refine⟨_,by simp only[go_sem,c9L0b,hg,hi,Gk.enc,NL.enc,Qc,hnm,p1,p2];rfl,?_⟩
    simp only[go_sem]
   |true=>
    have p3:Q9 {Jt x with bq:=1}=false:=by simpa[p1,p2]using hP
    refine⟨_,by simp only[go_sem,c9L0b,hg,hi,Gk.enc,NL.enc,Qc,hnm,hmd,p1,p2,p3];rfl,?_⟩
    simp only[go_sem])
  (⟨_,by simp only[go_sem,c9L0b,ZG];rfl,by refine⟨?_,?_⟩<;>simp only[go_sem]⟩)
 exact L
def Z3e(s:Sta)(hs:StE s):∃fr',Zg rE [1,46,47,48] c9L1b [(1,stI s),(46,.isl false false 5<|s.Gm.map By.enc),(47,I s.Gm.length),(48,.int .i64 0)] [] =
 some (if Zu (λ_ x=>Vp x) 0 s.Gm=true then .exit 2 else .ret,fr',[])/\(Zu (λ_ x=>Vp x) 0 s.Gm=true->get fr' 1=stI s/\get fr' 2=.bot)/\(Zu (λ_ x=>Vp x) 0 s.Gm=false->get fr' 2=.bool false):=by
 have L:=QT (E:=rE) (live:=[1,46,47,48]) (b:=c9L1b) (h:=[]) s.Gm (λ_ x=>Vp x)
  (λi=>[(1,stI s),(46,.isl false false 5<|s.Gm.map By.enc),(47,I s.Gm.length),(48,I i)]) 2
  (λfr=>get fr 1=stI s/\get fr 2=.bot) (λfr=>get fr 2=.bool false) (λi=>rfl)
  (λi x hx hP=>by
   have hg:=Z6 (f:=By.enc) hx;have hi:=Zh<|Z7 hx;have hw:=Zx (n:=i) (by have:=Z7 hx;have:=hs.sizes.streets;omega)
   have hm:=ZXk hx;obtain⟨z1,z2,z3⟩:=hs.streets x hm;have hnm:=Hc x.bk.l x.bk.ex z1;have hmd:pfn rE 57 [I 2,.agg [I 0,I 0,I 0,I 0,I 0,.str x.Id,.str emp,.str emp,.isl false false 1 [],.isl false false 3 [],I 0,.str emp,I 0,I 0,I 0,I 0,.isl false x.Line.ex 2<|x.Line.l.map Pt.enc,.isl false false 7 []]]=some (.bool<|Q9 {Ju x with bq:=2}):=Wg 2 (Ju x) ⟨ZXb _,ZXb _,z2,ZXb _,z3,ZXb _,ZXb _⟩
   simp only[Vp,ZWT]at hP;obtain⟨p1,p2,p3⟩:=hP;refine⟨_,by simp only[go_sem,c9L1b,hg,hi,hw,By.enc,NL.enc,Qc,hnm,hmd,p1,p2,p3];rfl,?_⟩
   simp only[go_sem])
  (λi x hx hP=>by
   have hg:=Z6 (f:=By.enc) hx;have hi:=Zh<|Z7 hx;have hm:=ZXk hx;obtain⟨z1,z2,z3⟩:=hs.streets x hm;have hnm:=Hc x.bk.l x.bk.ex z1;have hmd:pfn rE 57 [I 2,.agg [I 0,I 0,I 0,I 0,I 0,.str x.Id,.str emp,.str emp,.isl false false 1 [],.isl false false 3 [],I 0,.str emp,I 0,I 0,I 0,I 0,.isl false x.Line.ex 2<|x.Line.l.map Pt.enc,.isl false false 7 []]]=some (.bool<|Q9 {Ju x with bq:=2}):=Wg 2 (Ju x) ⟨ZXb _,ZXb _,z2,ZXb _,z3,ZXb _,ZXb _⟩
   unfold Vp at hP;cases p1:QM x.bh x.Ld 0 with
   |false=>
    refine⟨_,by simp only[go_sem,c9L1b,hg,hi,By.enc,NL.enc,Qc,p1];rfl,?_⟩
    simp only[go_sem]
   |true=>
   cases p2:Jp x.bk.l x.bk.ex with
   |false=>
    refine⟨_,by simp only[go_sem,c9L1b,hg,hi,By.enc,NL.enc,Qc,hnm,p1,p2];rfl,?_⟩
    simp only[go_sem]
   |true=>
    have p3:Q9 {Ju x with bq:=2}=false:=by simpa[p1,p2]using hP
    refine⟨_,by simp only[go_sem,c9L1b,hg,hi,By.enc,NL.enc,Qc,hnm,hmd,p1,p2,p3];rfl,?_⟩
    simp only[go_sem])
  (⟨_,by simp only[go_sem,c9L1b,ZG];rfl,by refine⟨?_,?_⟩<;>simp only[go_sem]⟩)
 exact L
def Z3f(s:Sta)(hs:StE s):∃fr',Zg rE [1,75,76,77] c9L2b [(1,stI s),(75,.isl false false 4<|s.Bt.map Ev.enc),(76,I s.Bt.length),(77,.int .i64 0)] [] =
 some (if Zu (λ_ x=>Vq x) 0 s.Bt=true then .exit 4 else .ret,fr',[])/\(Zu (λ_ x=>Vq x) 0 s.Bt=true->get fr' 1=stI s/\get fr' 2=.bot)/\(Zu (λ_ x=>Vq x) 0 s.Bt=false->get fr' 2=.bool false):=by
 have L:=QT (E:=rE) (live:=[1,75,76,77]) (b:=c9L2b) (h:=[]) s.Bt (λ_ x=>Vq x)
  (λi=>[(1,stI s),(75,.isl false false 4<|s.Bt.map Ev.enc),(76,I s.Bt.length),(77,I i)]) 4
  (λfr=>get fr 1=stI s/\get fr 2=.bot) (λfr=>get fr 2=.bool false) (λi=>rfl)
  (λi x hx hP=>by
   have hg:=Z6 (f:=Ev.enc) hx;have hi:=Zh<|Z7 hx;have hw:=Zx (n:=i) (by have:=Z7 hx;have:=hs.sizes.buildings;omega)
   have hm:=ZXk hx;obtain⟨z2,z3⟩:=hs.buildings x hm;have hmd:pfn rE 57 [I 5,.agg [I 0,I 0,I 0,I 0,I 0,.str x.Id,.str emp,.str emp,.isl false false 1 [],.isl false false 3 [],I 0,.str emp,I 0,I 0,I 0,I 0,.isl false x.Ring.ex 2<|x.Ring.l.map Pt.enc,.isl false false 7 []]]=some (.bool<|Q9 {Jv x with bq:=5}):=Wg 5 (Jv x) ⟨ZXb _,ZXb _,z2,ZXb _,z3,ZXb _,ZXb _⟩
   simp only[Vq,ZWT]at hP;obtain⟨p1,p3⟩:=hP;refine⟨_,by simp only[go_sem,c9L2b,hg,hi,hw,Ev.enc,NL.enc,Qc,hmd,p1,p3];rfl,?_⟩
   simp only[go_sem])
  (λi x hx hP=>by
   have hg:=Z6 (f:=Ev.enc) hx;have hi:=Zh<|Z7 hx;have hm:=ZXk hx;obtain⟨z2,z3⟩:=hs.buildings x hm;have hmd:pfn rE 57 [I 5,.agg [I 0,I 0,I 0,I 0,I 0,.str x.Id,.str emp,.str emp,.isl false false 1 [],.isl false false 3 [],I 0,.str emp,I 0,I 0,I 0,I 0,.isl false x.Ring.ex 2<|x.Ring.l.map Pt.enc,.isl false false 7 []]]=some (.bool<|Q9 {Jv x with bq:=5}):=Wg 5 (Jv x) ⟨ZXb _,ZXb _,z2,ZXb _,z3,ZXb _,ZXb _⟩
   unfold Vq at hP;cases p1:QM x.bh x.Ld 0 with
   |false=>
    refine⟨_,by simp only[go_sem,c9L2b,hg,hi,Ev.enc,NL.enc,Qc,p1];rfl,?_⟩
    simp only[go_sem]
   |true=>
    have p3:Q9 {Jv x with bq:=5}=false:=by simpa[p1]using hP
    refine⟨_,by simp only[go_sem,c9L2b,hg,hi,Ev.enc,NL.enc,Qc,hmd,p1,p3];rfl,?_⟩
    simp only[go_sem])
  (⟨_,by simp only[go_sem,c9L2b,ZG];rfl,by refine⟨?_,?_⟩<;>simp only[go_sem]⟩)
 exact L
def Z3g(s:Sta)(hs:StE s):∃fr',Zg rE [1,98,99,100] c9L3b [(1,stI s),(98,.isl false false 16<|s.Bc.map Ga.enc),(99,I s.Bc.length),(100,.int .i64 0)] [] =
 some (if Zu (Vr s) 0 s.Bc=true then .exit 6 else .ret,fr',[])/\(Zu (Vr s) 0 s.Bc=true->get fr' 1=stI s/\get fr' 2=.bot)/\(Zu (Vr s) 0 s.Bc=false->get fr' 2=.bool false):=by
 have L:=QT (E:=rE) (live:=[1,98,99,100]) (b:=c9L3b) (h:=[]) s.Bc (Vr s)
  (λi=>[(1,stI s),(98,.isl false false 16<|s.Bc.map Ga.enc),(99,I s.Bc.length),(100,I i)]) 6
  (λfr=>get fr 1=stI s/\get fr 2=.bot) (λfr=>get fr 2=.bool false) (λi=>rfl)
  (λi x hx hP=>by
   have hg:=Z6 (f:=Ga.enc) hx;have hi:=Zh<|Z7 hx;have hw:=Zx (n:=i) (by have:=Z7 hx;have:=hs.sizes.doors;omega)
   have hm:=ZXk hx;have hst:=Fs s hs.sizes i x (hs.doors x hm) hx;simp only[Vr,ZWT]at hP;obtain⟨p1,p3⟩:=hP;refine⟨_,by simp only[go_sem,c9L3b,hg,hi,hw,Ga.enc,NL.enc,Qc,hst,p1,p3];rfl,?_⟩
   simp only[go_sem])
  (λi x hx hP=>by
   have hg:=Z6 (f:=Ga.enc) hx;have hi:=Zh<|Z7 hx;have hm:=ZXk hx;have hst:=Fs s hs.sizes i x (hs.doors x hm) hx;unfold Vr at hP;cases p1:QM x.bh x.Ld x.From with
   |false=>
    refine⟨_,by simp only[go_sem,c9L3b,hg,hi,Ga.enc,NL.enc,Qc,p1];rfl,?_⟩
    simp only[go_sem]
   |true=>
    have p3:Hg s i x=false:=by simpa[p1]using hP
    refine⟨_,by simp only[go_sem,c9L3b,hg,hi,Ga.enc,NL.enc,Qc,hst,p1,p3];rfl,?_⟩
    simp only[go_sem])
  (⟨_,by simp only[go_sem,c9L3b,ZG];rfl,by refine⟨?_,?_⟩<;>simp only[go_sem]⟩)
 exact L
def Z3h(s:Sta)(hs:StE s):∃fr',Zg rE [1,121,122,123] c9L4b [(1,stI s),(121,.isl false false 6<|s.Nk.map be.enc),(122,I s.Nk.length),(123,.int .i64 0)] [] =
 some (if Zu (λ_ x=>Vs s x) 0 s.Nk=true then .exit 8 else .ret,fr',[])/\(Zu (λ_ x=>Vs s x) 0 s.Nk=true->get fr' 1=stI s/\get fr' 2=.bot)/\(Zu (λ_ x=>Vs s x) 0 s.Nk=false->get fr' 2=.bool false):=by
 have L:=QT (E:=rE) (live:=[1,121,122,123]) (b:=c9L4b) (h:=[]) s.Nk (λ_ x=>Vs s x)
  (λi=>[(1,stI s),(121,.isl false false 6<|s.Nk.map be.enc),(122,I s.Nk.length),(123,I i)]) 8
  (λfr=>get fr 1=stI s/\get fr 2=.bot) (λfr=>get fr 2=.bool false) (λi=>rfl)
  (λi x hx hP=>by
   have hg:=Z6 (f:=be.enc) hx;have hi:=Zh<|Z7 hx;have hw:=Zx (n:=i) (by have:=Z7 hx;have:=hs.sizes.units;omega)
   have hm:=ZXk hx;obtain⟨z1,z2,z3⟩:=hs.units x hm;have hf:=find_ok s hs.sizes x.Ga;have hmd:pfn rE 57 [I 7,.agg [I 0,I 0,I 0,I 0,I 0,.str x.Id,.str x.Ga,.str x.Text,.isl false false 1 [],.isl false false 3 [],I 0,.str emp,I 0,I 0,I 0,I 0,.isl false false 2 [],.isl false false 7 []]]=some (.bool<|Q9 {Vn x with bq:=7}):=Wg 7 (Vn x) ⟨ZXb _,ZXb _,ZXb _,ZXb _,z1,z2,z3⟩
   unfold Vs at hP;have p0:decide (Zn s x.Ga<0)=false:=by cases h:decide (Zn s x.Ga<0)<;>simp_all
   have p1:QM 0 x.Ld x.From=true:=by cases h:QM 0 x.Ld x.From<;>simp_all
   have p2:Q9 {Vn x with bq:=7}=true:=by cases h:Q9 {Vn x with bq:=7}<;>simp_all
   have p3:Jw s x=false:=by cases h:Jw s x<;>simp_all
   obtain⟨j,y,hj,hy⟩:=QC p0;have hj':Zn s x.Ga=(j:Int):=hj;have gy:=Z6 (f:=Ga.enc) hy;have hdE:QN s (Zn s x.Ga)=y.Ld:=by rw[hj'];simp[QN,hy]
   unfold Jw at p3;rw[hdE]at p3;rw[hj']at hf p0;have ne:(x.Ld != -1) = !(x.Ld==-1):=rfl;rw[ne]at p3;cases q1:x.Ld==-1 with
   |true=>
    have ne':(x.Ld != -1)=false:=by rw[ne,q1];rfl
    have q2:(x.Why != 0)=false:=by cases h:x.Why != 0<;>simp_all
    have q3:(y.Ld != -1)=false:=by cases h:y.Ld != -1<;>simp_all
    refine⟨_,by simp only[go_sem,c9L4b,hg,hi,hw,gy,be.enc,Ga.enc,NL.enc,Qc,hf,hmd,p0,p1,p2,q1,q2,q3,ne'];rfl,?_⟩
    simp only[go_sem]
   |false=>
    have ne':(x.Ld != -1)=true:=by rw[ne,q1];rfl
    cases q4:x.Why != 12 with
    |false=>
     refine⟨_,by simp only[go_sem,c9L4b,hg,hi,hw,be.enc,Qc,hf,hmd,p0,p1,p2,q1,ne',q4];rfl,?_⟩
     simp only[go_sem]
    |true=>
     have q5:(x.Why != 11)=false:=by cases h:x.Why != 11<;>simp_all
     refine⟨_,by simp only[go_sem,c9L4b,hg,hi,hw,be.enc,Qc,hf,hmd,p0,p1,p2,q1,ne',q4,q5];rfl,?_⟩
     simp only[go_sem])
  (λi x hx hP=>by
   have hg:=Z6 (f:=be.enc) hx;have hi:=Zh<|Z7 hx;have hm:=ZXk hx;obtain⟨z1,z2,z3⟩:=hs.units x hm;have hf:=find_ok s hs.sizes x.Ga;have hmd:pfn rE 57 [I 7,.agg [I 0,I 0,I 0,I 0,I 0,.str x.Id,.str x.Ga,.str x.Text,.isl false false 1 [],.isl false false 3 [],I 0,.str emp,I 0,I 0,I 0,I 0,.isl false false 2 [],.isl false false 7 []]]=some (.bool<|Q9 {Vn x with bq:=7}):=Wg 7 (Vn x) ⟨ZXb _,ZXb _,ZXb _,ZXb _,z1,z2,z3⟩
   unfold Vs at hP;cases p0:decide (Zn s x.Ga<0)with
   |true=>
    refine⟨_,by simp only[go_sem,c9L4b,hg,hi,be.enc,hf,p0];rfl,?_⟩
    simp only[go_sem]
   |false=>
   cases p1:QM 0 x.Ld x.From with
   |false=>
    refine⟨_,by simp only[go_sem,c9L4b,hg,hi,be.enc,hf,p0,Qc,p1];rfl,?_⟩
    simp only[go_sem]
   |true=>
   cases p2:Q9 {Vn x with bq:=7}with
   |false=>
    refine⟨_,by simp only[go_sem,c9L4b,hg,hi,be.enc,hf,p0,Qc,p1,hmd,p2];rfl,?_⟩
    simp only[go_sem]
   |true=>
   have p3:Jw s x=true:=by simpa[p0,p1,p2]using hP
   obtain⟨j,y,hj,hy⟩:=QC p0;have hj':Zn s x.Ga=(j:Int):=hj;have gy:=Z6 (f:=Ga.enc) hy;have hdE:QN s (Zn s x.Ga)=y.Ld:=by rw[hj'];simp[QN,hy]
   unfold Jw at p3;rw[hdE]at p3;rw[hj']at hf p0;have ne:(x.Ld != -1) = !(x.Ld==-1):=rfl;rw[ne]at p3;cases q1:x.Ld==-1 with
   |true=>
    have ne':(x.Ld != -1)=false:=by rw[ne,q1];rfl
    cases q2:x.Why != 0 with
    |true=>
     refine⟨_,by simp only[go_sem,c9L4b,hg,hi,be.enc,Qc,hf,hmd,p0,p1,p2,q1,q2];rfl,?_⟩
     simp only[go_sem]
    |false=>
     have q3:(y.Ld != -1)=true:=by simpa[q1,q2]using p3
     refine⟨_,by simp only[go_sem,c9L4b,hg,hi,gy,be.enc,Ga.enc,NL.enc,Qc,hf,hmd,p0,p1,p2,q1,q2,q3];rfl,?_⟩
     simp only[go_sem]
   |false=>
    have ne':(x.Ld != -1)=true:=by rw[ne,q1];rfl
    have q4:(x.Why != 12)=true:=by cases h:x.Why != 12<;>simp_all
    have q5:(x.Why != 11)=true:=by cases h:x.Why != 11<;>simp_all
    refine⟨_,by simp only[go_sem,c9L4b,hg,hi,be.enc,Qc,hf,hmd,p0,p1,p2,q1,ne',q4,q5];rfl,?_⟩
    simp only[go_sem])
  (⟨_,by simp only[go_sem,c9L4b,ZG];rfl,by refine⟨?_,?_⟩<;>simp only[go_sem]⟩)
 exact L
def Z3i(s:Sta)(hs:StE s):pfn rE 9 [stA s]=some (.bool<|Jx s):=by
 obtain⟨f0,a0,b0,d0⟩:=Z3d s hs;obtain⟨f1,a1,b1,d1⟩:=Z3e s hs;obtain⟨f2,a2,b2,d2⟩:=Z3f s hs;obtain⟨f3,a3,b3,d3⟩:=Z3g s hs;obtain⟨f4,a4,b4,d4⟩:=Z3h s hs;rw[QE]at a0 b0 d0 a1 b1 d1 a2 b2 d2 a4 b4 d4;have hi:=Fd s hs.sizes;have hso:=Fj (Qp s) false (by have h1:=hs.sizes.regions;have h2:=hs.sizes.streets;have h3:=hs.sizes.buildings;have h4:=hs.sizes.doors;have h5:=hs.sizes.units;simp[Qp];omega)
 have hn:=Fk s hs.sizes;have hp:=Z31 s hs.sizes;rw[Z5 (f:=9) rfl rfl];unfold Jx;cases c0:s.Fa.all Vo with
 |false=>rw[c0]at a0;simp only[go_sem,c9,c9L0,a0,d0 c0,ZX2]
 |true=>
 rw[c0,if_pos rfl]at a0;obtain⟨p0,q0⟩:=b0 c0;cases c1:s.Gm.all Vp with
 |false=>rw[c1]at a1;simp only[go_sem,c9,c9L0,c9L1,a0,p0,q0,a1,d1 c1,ZX2]
 |true=>
 rw[c1,if_pos rfl]at a1;obtain⟨p1,q1⟩:=b1 c1;cases c2:s.Bt.all Vq with
 |false=>rw[c2]at a2;simp only[go_sem,c9,c9L0,c9L1,c9L2,a0,p0,q0,a1,p1,q1,a2,d2 c2,ZX2]
 |true=>
 rw[c2,if_pos rfl]at a2;obtain⟨p2,q2⟩:=b2 c2;cases c5003:Zu (Vr s) 0 s.Bc with
 |false=>rw[c5003]at a3;simp only[go_sem,c9,c9L0,c9L1,c9L2,c9L3,a0,p0,q0,a1,p1,q1,a2,p2,q2,a3,d3 c5003,ZX2]
 |true=>
 rw[c5003,if_pos rfl]at a3;obtain⟨p3,q3⟩:=b3 c5003;cases c5004:s.Nk.all (Vs s)with
 |false=>rw[c5004]at a4;simp only[go_sem,c9,c9L0,c9L1,c9L2,c9L3,c9L4,a0,p0,q0,a1,p1,q1,a2,p2,q2,a3,p3,q3,a4,d4 c5004,ZX2]
 |true=>
 rw[c5004,if_pos rfl]at a4;obtain⟨p4,q4⟩:=b4 c5004;cases c5005:Jq (Qp s)<;>cases c5006:Wh s.Bc<;>rw[c5005]at hso<;>rw[c5006]at hn<;>
  simp only[go_sem,c9,c9L0,c9L1,c9L2,c9L3,c9L4,a0,p0,q0,a1,p1,q1,a2,p2,q2,a3,p3,q3,a4,p4,q4,hi,hso,hn,hp]
def Z3j(a0 a1 a2 a3:AObj)(b:Bool):trimB 4 [a0,a1,a2,a3] b=[a0,a1,a2,a3]:=by cases b<;>rfl
def Z3k(a0 a1 a2 a3 a4:AObj)(b:Bool):trimB 5 [a0,a1,a2,a3,a4] b=[a0,a1,a2,a3,a4]:=by cases b<;>rfl
def Z3l(a0 a1 a2 a3 a4 a5:AObj)(b:Bool):trimB 6 [a0,a1,a2,a3,a4,a5] b=[a0,a1,a2,a3,a4,a5]:=by cases b<;>rfl
def Z3m(a0 a1 a2 a3 a4 a5 a6:AObj)(b:Bool):trimB 7 [a0,a1,a2,a3,a4,a5,a6] b=[a0,a1,a2,a3,a4,a5,a6]:=by cases b<;>rfl
def Z3n(a0 a1 a2 a3 a4 a5 a6 a7:AObj)(b:Bool):trimB 8 [a0,a1,a2,a3,a4,a5,a6,a7] b=[a0,a1,a2,a3,a4,a5,a6,a7]:=by cases b<;>rfl
attribute [go_sem] Z3j Z3k Z3l Z3m Z3n
structure Wk where
 s:Sta
 owner:Int
 e:Gt
 kn:List Str
abbrev wkC(w:Wk):List AV:=[.isl false false 6<|w.s.Fa.map Gk.enc,.isl false false 5<|w.s.Gm.map By.enc,.isl false false 4<|w.s.Bt.map Ev.enc,.isl false false 16<|w.s.Bc.map Ga.enc,
 .isl false false 6 (w.s.Nk.map be.enc),.isl false false 2<|w.s.Gc.map bf.enc,.isl false false 2<|w.s.ba.map bf.enc,I w.owner,
 I w.e.bq,I w.e.Day,I w.e.A,I w.e.B,I w.e.bv,.str w.e.Id,.str w.e.br,.str w.e.Text,.isl false w.e.Ids.ex 1<|w.e.Ids.l.map encS,.isl false w.e.bk.ex 3<|w.e.bk.l.map Nm.enc,
 I w.e.An.N,.str w.e.An.bm,I w.e.An.Num,I w.e.An.Den,I w.e.bg.X,I w.e.bg.Y,.isl false w.e.Path.ex 2<|w.e.Path.l.map Pt.enc,.isl false w.e.Lst.ex 7<|w.e.Lst.l.map Ent.enc,
 .isl false false 1 (w.kn.map encS)]
abbrev wH(o0 o1:AObj)(w:Wk):Hp:=[o0,o1,.row 27 [.agg<|wkC w]]
structure WkS(w:Wk):Prop where
 s:StS w.s
 e:EvS w.e
 kn:w.kn.length<=100000
def Z3o(b i off g:Nat):Zy (.ptr b i off g)=false:=(rfl)
def Z3p(b g off len:Nat)(ex:Bool):Zy (.sl b g off len ex)=false:=(rfl)
def Z3q(b:Nat):Zy (.mp b)=false:=(rfl)
attribute [go_sem] Z3o Z3p Z3q
def Z3r(n:Nat):bounds none (some<|I n) (some<|I n) n=some (0,n,some n):=by
 simp[bounds,Vz,Wl,VA,numOf,VB,Ue]
def clC(sz:Nat):ACode:=
 .seq (.region [o 2<|.mv<|.c<|.isl false false sz []])<|
 .seq (.keep [2]<|.region [o 3<|.mv<|.t 0,o 4<|.mv<|.t 0,o 5<|.len 1<|.t 4,o 6<|.mv<|.t 0,o 7<|.len 1<|.t 6,o 8<|.slc sz (.t 3) none (some<|.t 5)<|some<|.t 7,o 2<|.mv<|.t 8])<|
 .ret
def Jy{sz f:Nat}(hs:rE.sum f=none)(hf:rE.fn f=some ⟨[.tmp 2],clC sz⟩)(ex:Bool)(es:List AV):pfn rE f [.isl false ex sz es]=some (.isl false true sz es):=by
 have hb:=Z3r es.length;have ht:List.take (es.length-0) es=es:=ZXp<|by omega
 have hm:(match some es.length with|none=>ex&&es.length==es.length|some m=>m==es.length)=true:=by simp
 rw[Z5 (f:=f) hs hf];simp only[go_sem,clC,hb,hm,ht]
def Z3s(es:List AV):pfn rE 100 [.isl false false 6 es]=some (.isl false true 6 es):=Jy rfl rfl false es
def Z3t(es:List AV):pfn rE 103 [.isl false false 5 es]=some (.isl false true 5 es):=Jy rfl rfl false es
def Z3u(es:List AV):pfn rE 110 [.isl false false 4 es]=some (.isl false true 4 es):=Jy rfl rfl false es
def Ft(es:List AV):pfn rE 203 [.isl false false 16 es]=some (.isl false true 16 es):=Jy rfl rfl false es
def Z3v(es:List AV):pfn rE 113 [.isl false false 6 es]=some (.isl false true 6 es):=Jy rfl rfl false es
def Fu(es:List AV):pfn rE 131 [.isl false false 2 es]=some (.isl false true 2 es):=Jy rfl rfl false es
def Vt{h:Hp}{aid sz bytes:Nat}{es ys:List AV}{bw bw2 ex:Bool}(hy:ys.isEmpty=false)(h0:0<sz)(h1:0<bytes)(h2:(es.length+ys.length)*bytes<=140737488355328)(hc:Z4 (es++ys)=true):
 Qt h aid true sz bytes (.isl bw true sz es) (.isl bw2 ex sz ys)=some (.isl false false sz<|es++ys,[],none):=by
 simp only[Qt,Q2,Qq,beq_self_eq_true,ZWY,h0,h1,h2,and_self,if_true,hy,cond_false,Yp,Zs,ZXe,cond_true,hc]
def chC(sz f:Nat):ACode:=
 .seq (.region [o 6<|.mv<|.c<|.isl false false sz []])<|
 .seq (.keep [1,2,7]<|.region [o 8<|.rel<|.t 0,o 9<|.call false f [(.t 8)],o 7<|.mv<|.t 9])<|
 .seq (.keep [7]<|.region [o 10<|.mv<|.t 2,o 11<|.mv<|.t 7,o 12<|.mv<|.t 1,o 13<|.iadr sz (.t 11)<|.t 12,o 14<|.callv false (.t 10) [(.t 13)]])<|
 .seq (.region [o 15<|.mv<|.t 7,o 6<|.mv<|.t 15])<|
 .ret
def Xj{α:Type}{f:α->AV}{sz:Nat}(h:∀x,fits sz (f x)=true)(l:List α):(l.map f).all (fits sz)=true:=by
 rw[ZYN,ZXl];intro x _;exact h x
def Xk{sz f g fc:Nat}(hs:rE.sum fc=none)(hf:rE.fn fc=some ⟨[.tmp 6],chC sz f⟩)(hcl:rE.sum f=some (YL sz))(es es' cap:List AV)(v:AV)(ex:Bool)(k:Nat)(hk:k<es.length)(hfit:es.all (fits sz)=true)(hle:es.length<=1000000)
 (h2:fnV rE g (.ptr 0 k 0 es.length::cap) [.row sz es]=some (v,[.row sz es'])) (hl:es'.length=es.length) (hc:Z4 es'=true):
 pfn rE fc [.isl false ex sz es,I k,.clo (.func g) [] cap]=some (.isl false false sz es'):=by
 have h1:fnV rE f [.isl false ex sz es] []=some (.sl 0 es.length 0 es.length false,[.row sz es]):=by
  have hble:Nat.ble es.length 1000000=true:=ZYo hle;have hne:es.isEmpty=false:=by cases es with|nil=>simp at hk|cons a r=>rfl
  rw[V8 hcl];simp only[YL,Q2,Qq,hfit,hble,hne,beq_self_eq_true,ZWY,ZWW,ZWU,cond_true,ZXm,ZXt]
 have hlt:(0<=(k:Int)/\(k:Int)<(es.length:Int)):=by omega
 have hia:iaP 0 es.length 0 sz (k:Int) es.length (some (sz,es))=some (.ptr 0 k 0 es.length):=by
  rw[VT _ _ _ _ _ _ _ hlt];simp
 have ht:List.take es.length es'=es':=ZXp<|by omega
 rw[Z5 (f:=fc) hs hf];simp only[go_sem,chC,h1,hia,RL,h2,beq_self_eq_true,hl,ht,hc]
def twB(w:Wk)(id:Str):Bool:=w.kn.any<|λx=>Z3 id x
def Wj(w:Wk)(hw:WkS w)(id:Str):pfn rE 99 [.iptr true<|wkC w,.str id]=some (.bool<|twB w id):=by
 have h:=Nz (f:=249) (enc:=encS) (p:=λx=>Z3 id x) (v:=.str id) rfl rfl w.kn (by have:=hw.kn;omega) (λx _=>rfl) rfl (λx _=>rfl) false false
 have h2:pfn rE 196 [.isl false false 1<|w.kn.map encS,.str id]=some (.bool<|w.kn.any<|λx=>Z3 id x):=by
  rw[Z5 (f:=196) rfl rfl,<-Vg];unfold WG;simp only[go_sem,c196,h]
 rw[Z5 (f:=99) rfl rfl];unfold twB;simp only[go_sem,c99,h2]
def NP(w:Wk):By:=⟨w.e.Id,w.owner,w.e.Path,⟨false,[]⟩,-1⟩
def NQ(w:Wk):Ev:=⟨w.e.Id,w.owner,w.e.Path,-1⟩
def Jz(w:Wk):Wk:={w with s:={w.s with Gm:=w.s.Gm++[NP w]}}
def JA(w:Wk):Wk:={w with s:={w.s with Bt:=w.s.Bt++[NQ w]}}
def Hh(w:Wk):Wk:={w with s:={w.s with ba:=w.s.ba++[⟨w.e.A,w.e.B⟩]}}
def Z3w(o0 o1:AObj)(w:Wk)(hw:WkS w):∃t,fnV rE 35 [.ptr 2 0 0 1] (wH o0 o1 w)=some (I<|bif twB w w.e.Id then 8 else 0,wH o0 o1 (bif twB w w.e.Id then w else Jz w)++t):=by
 have htw:=Wj w hw w.e.Id;have hcs:Z4 (w.s.Gm.map By.enc)=true:=Zw (λt=>rfl) _
 have ha:=λ(h:Hp)(aid:Nat)=>Vt (h:=h) (aid:=aid) (sz:=5) (bytes:=80) (es:=w.s.Gm.map By.enc) (ys:=[.agg [.str w.e.Id,I w.owner,.isl false w.e.Path.ex 2<|w.e.Path.l.map Pt.enc,.isl false false 3 [],I<|-1]]) (bw:=false) (bw2:=false) (ex:=false) rfl (by omega) (by omega) (by have:=hw.s.streets;simp;omega) (by simp only[XA,hcs];rfl)
 rw[Q6 (f:=35) rfl rfl];cases c:twB w w.e.Id with
 |true=>
  rw[c]at htw;refine⟨[],?_⟩;simp only[go_sem,c35,htw,ZXe]
 |false=>
  rw[c]at htw;refine⟨[],?_⟩;simp only[go_sem,c35,htw,Z3t,wrB,appW,ha,ZM,ZH,Jz,NP,ZX4,wH,wkC,By.enc,NL.enc,ZXe]
def Z3x(o0 o1:AObj)(w:Wk)(hw:WkS w):∃t,fnV rE 38 [.ptr 2 0 0 1] (wH o0 o1 w)=some (I<|bif twB w w.e.Id then 8 else 0,wH o0 o1 (bif twB w w.e.Id then w else JA w)++t):=by
 have htw:=Wj w hw w.e.Id;have hcs:Z4 (w.s.Bt.map Ev.enc)=true:=Zw (λt=>rfl) _
 have ha:=λ(h:Hp)(aid:Nat)=>Vt (h:=h) (aid:=aid) (sz:=4) (bytes:=56) (es:=w.s.Bt.map Ev.enc) (ys:=[.agg [.str w.e.Id,I w.owner,.isl false w.e.Path.ex 2<|w.e.Path.l.map Pt.enc,I<|-1]]) (bw:=false) (bw2:=false) (ex:=false) rfl (by omega) (by omega) (by have:=hw.s.buildings;simp;omega) (by simp only[XA,hcs];rfl)
 rw[Q6 (f:=38) rfl rfl];cases c:twB w w.e.Id with
 |true=>
  rw[c]at htw;refine⟨[],?_⟩;simp only[go_sem,c38,htw,ZXe]
 |false=>
  rw[c]at htw;refine⟨[],?_⟩;simp only[go_sem,c38,htw,Z3u,wrB,appW,ha,ZM,ZH,JA,NQ,ZX4,wH,wkC,Ev.enc,NL.enc,ZXe]
def Z3y(o0 o1:AObj)(w:Wk)(hw:WkS w):∃t,fnV rE 47 [.ptr 2 0 0 1] (wH o0 o1 w)=some (I 0,wH o0 o1 (Hh w)++t):=by
 have hcs:Z4 (w.s.ba.map bf.enc)=true:=Zw (λt=>rfl) _
 have ha:=λ(h:Hp)(aid:Nat)=>Vt (h:=h) (aid:=aid) (sz:=2) (bytes:=16) (es:=w.s.ba.map bf.enc) (ys:=[.agg [I w.e.A,I w.e.B]]) (bw:=false) (bw2:=false) (ex:=false) rfl (by omega) (by omega) (by have:=hw.s.rulings;simp;omega) (by simp only[XA,hcs];rfl)
 rw[Q6 (f:=47) rfl rfl];refine⟨[],?_⟩;simp only[go_sem,c47,Fu,wrB,appW,ha,ZM,ZH,Hh,ZX4,wH,wkC,bf.enc,ZXe]
def NR(w:Wk):be:=⟨w.e.Id,w.e.br,w.e.Text,w.e.Day,-1,0⟩
def JB(w:Wk):Int:=bif twB w w.e.Id then 8 else bif decide (Zn w.s w.e.br<0)then 10 else bif QN w.s (Zn w.s w.e.br) != -1 then 11 else 0
def JC(w:Wk):Wk:={w with s:={w.s with Nk:=w.s.Nk++[NR w]}}
def Z3z(o0 o1:AObj)(w:Wk)(hw:WkS w):∃t,fnV rE 40 [.ptr 2 0 0 1] (wH o0 o1 w)=some (I<|JB w,wH o0 o1 (bif JB w==0 then JC w else w)++t):=by
 have htw:=Wj w hw w.e.Id;have hf:=find_ok w.s hw.s w.e.br;have hcs:Z4 (w.s.Nk.map be.enc)=true:=Zw (λt=>rfl) _
 have ha:=λ(h:Hp)(aid:Nat)=>Vt (h:=h) (aid:=aid) (sz:=6) (bytes:=72) (es:=w.s.Nk.map be.enc) (ys:=[.agg [.str w.e.Id,.str w.e.br,.str w.e.Text,I w.e.Day,I<|-1,I 0]]) (bw:=false) (bw2:=false) (ex:=false) rfl (by omega) (by omega) (by have:=hw.s.units;simp;omega) (by simp only[XA,hcs];rfl)
 have z8:((8:Int)==0)=false:=rfl;have z10:((10:Int)==0)=false:=rfl;have z11:((11:Int)==0)=false:=rfl;have z0:((0:Int)==0)=true:=rfl;rw[Q6 (f:=40) rfl rfl];unfold JB;refine⟨[],?_⟩;cases c:twB w w.e.Id with
 |true=>
  rw[c]at htw;simp only[go_sem,c40,htw,hf,z8,ZXe]
 |false=>
 rw[c]at htw;cases c1:decide (Zn w.s w.e.br<0)with
 |true=>simp only[go_sem,c40,htw,hf,c1,z10,ZXe]
 |false=>
 obtain⟨j,y,hj,hy⟩:=QC c1;have hj':Zn w.s w.e.br=(j:Int):=hj;have gy:=Z6 (f:=Ga.enc) hy;have hdE:QN w.s (Zn w.s w.e.br)=y.Ld:=by rw[hj'];simp[QN,hy]
 rw[hdE];rw[hj']at hf c1;cases c2:y.Ld != -1 with
 |true=>simp only[go_sem,c40,htw,hf,c1,gy,Ga.enc,NL.enc,c2,z11,ZXe]
 |false=>simp only[go_sem,c40,htw,hf,c1,gy,Ga.enc,NL.enc,c2,z0,Z3v,wrB,appW,ha,ZM,ZH,JC,NR,ZX4,wH,wkC,be.enc,ZXe]
def Xl(w:Wk)(d:Ga):Ga:={d with bh:=w.owner,From:=w.e.Day,Ld:=-1}
def Qw(w:Wk)(d:Ga):Wk:={w with s:={w.s with Bc:=w.s.Bc++[Xl w d]}}
def Fv(o0 o1:AObj)(w:Wk)(hw:WkS w)(d:Ga)(t:Hp)(ht:t=[]\/(∃x,t=[x])\/(∃x y,t=[x,y])\/∃x y z,t=[x,y,z]):
 ∃q,fnV rE 112 [.ptr 2 0 0 1,Zo d] (wH o0 o1 w++t)=some (.tup [],wH o0 o1 (Qw w d)++t++[q])/\∀n,Zj n q=true:=by
 have hcs:Z4 (w.s.Bc.map Ga.enc)=true:=Zw (λt=>rfl) _
 have ha:=λ(h:Hp)(aid:Nat)=>Vt (h:=h) (aid:=aid) (sz:=16) (bytes:=184) (es:=w.s.Bc.map Ga.enc) (ys:=[Zo<|Xl w d]) (bw:=false) (bw2:=false) (ex:=false) rfl (by omega) (by omega) (by have:=hw.s.doors;simp;omega) (by simp only[XA,hcs];rfl)
 refine⟨.row 16 [Zo<|Xl w d],?_,λn=>rfl⟩
 unfold Zo Xl at ha⊢;simp only at ha⊢;rw[Q6 (f:=112) rfl rfl];rcases ht with rfl|⟨x,rfl⟩|⟨x,y,rfl⟩|⟨x,y,z,rfl⟩<;>
  simp only[go_sem,c112,Ft,wrB,appW,ha,ZM,ZH,Qw,Xl,ZX4,wH,wkC,Ga.enc,NL.enc,ZXe]
def UD(w:Wk):Ga:=⟨w.e.Id,emp,emp,0,⟨0,emp,0,0⟩,⟨0,0⟩,0,0,⟨false,[]⟩,0,w.e.bv,w.e.Text⟩
def UE(w:Wk):Ga:=⟨w.e.Id,w.e.br,w.e.Text,0,w.e.An,w.e.bg,0,0,⟨false,[]⟩,0,0,emp⟩
def Z3A(o0 o1:AObj)(h0:∀n,Zj n o0=true)(h1:∀n,Zj n o1=true)(w:Wk)(hw:WkS w):∃t,fnV rE 48 [.ptr 2 0 0 1] (wH o0 o1 w)=some (I<|bif twB w w.e.Id then 8 else 0,wH o0 o1 (bif twB w w.e.Id then w else Qw w<|UD w)++t):=by
 have htw:=Wj w hw w.e.Id;obtain⟨q,ho,hq⟩:=Fv o0 o1 w hw (UD w) []<|Or.inl rfl;rw[ZXe,ZXe]at ho;have ho':fnV rE 112 [.ptr 2 0 0 1,.agg [.str w.e.Id,.str emp,.str emp,I 0,I 0,.str emp,I 0,I 0,I 0,I 0,I 0,I 0,.isl false false 1 [],I 0,I w.e.bv,.str w.e.Text]] (wH o0 o1 w)=_:=ho;rw[Q6 (f:=48) rfl rfl];refine⟨[],?_⟩;cases c:twB w w.e.Id with
 |true=>
  rw[c]at htw;simp only[go_sem,c48,htw,ZXe]
 |false=>
  rw[c]at htw;simp only[go_sem,c48,htw,ho',wH,h0,h1,ZXe]
def JD(w:Wk):Int:=bif twB w w.e.Id then 8 else bif decide (Y1 w.s w.e.br<0)||decide (ZL w.s w.e.Text<0)then 10 else bif WL w.s (Y1 w.s w.e.br) != -1||QF w.s (ZL w.s w.e.Text) != -1 then 11 else 0
def Z3B(o0 o1:AObj)(h0:∀n,Zj n o0=true)(h1:∀n,Zj n o1=true)(w:Wk)(hw:WkS w):∃t,fnV rE 39 [.ptr 2 0 0 1] (wH o0 o1 w)=some (I<|JD w,wH o0 o1 (bif JD w==0 then Qw w (UE w)else w)++t):=by
 have htw:=Wj w hw w.e.Id;have hb:=Hb w.s hw.s w.e.br;have ht:=K7 w.s hw.s w.e.Text;obtain⟨q,ho,hq⟩:=Fv o0 o1 w hw (UE w) []<|Or.inl rfl;rw[ZXe,ZXe]at ho;have ho':fnV rE 112 [.ptr 2 0 0 1,.agg [.str w.e.Id,.str w.e.br,.str w.e.Text,I 0,I w.e.An.N,.str w.e.An.bm,I w.e.An.Num,I w.e.An.Den,I w.e.bg.X,I w.e.bg.Y,I 0,I 0,.isl false false 1 [],I 0,I 0,.str emp]] (wH o0 o1 w)=_:=ho;have z8:((8:Int)==0)=false:=rfl;have z10:((10:Int)==0)=false:=rfl;have z11:((11:Int)==0)=false:=rfl;have z0:((0:Int)==0)=true:=rfl;rw[Q6 (f:=39) rfl rfl];unfold JD;refine⟨[],?_⟩;cases c:twB w w.e.Id with
 |true=>rw[c]at htw;simp only[go_sem,c39,htw,hb,ht,z8,ZXe]
 |false=>
 rw[c]at htw;cases c1:decide (Y1 w.s w.e.br<0)with
 |true=>simp only[go_sem,c39,htw,hb,ht,c1,z10,ZXe]
 |false=>
 cases c2:decide (ZL w.s w.e.Text<0)with
 |true=>simp only[go_sem,c39,htw,hb,ht,c1,c2,z10,ZXe]
 |false=>
 obtain⟨j,x,hj,hx⟩:=QC c1;obtain⟨k,y,hk,hy⟩:=QC c2;have hj':Y1 w.s w.e.br=(j:Int):=hj;have hk':ZL w.s w.e.Text=(k:Int):=hk;have hbE:WL w.s (Y1 w.s w.e.br)=x.Ld:=by rw[hj'];simp[WL,hx]
 have hsE:QF w.s (ZL w.s w.e.Text)=y.Ld:=by rw[hk'];simp[QF,hy]
 have gx:=Z6 (f:=Ev.enc) hx;have gy:=Z6 (f:=By.enc) hy;rw[hbE,hsE];rw[hj']at hb c1;rw[hk']at ht c2;cases c5003:x.Ld != -1 with
 |true=>simp only[go_sem,c39,htw,hb,ht,c1,c2,gx,Ev.enc,NL.enc,c5003,z11,ZXe]
 |false=>
 cases c5004:y.Ld != -1 with
 |true=>simp only[go_sem,c39,htw,hb,ht,c1,c2,gx,gy,Ev.enc,By.enc,NL.enc,c5003,c5004,z11,ZXe]
 |false=>simp only[go_sem,c39,htw,hb,ht,c1,c2,gx,gy,Ev.enc,By.enc,NL.enc,c5003,c5004,z0,ho',h0,h1,ZXe]
def ZK{α:Type}(l:List α)(k:Nat)(f:α->α):List α:=match l[k]? with|some x=>l.set k (f x)|none=>l
def YA{α:Type}{l:List α}{k:Nat}{x:α}(h:l[k]?=some x)(f:α->α):ZK l k f=l.set k (f x):=by simp[ZK,h]
def NS(p:NL Pt)(x:Gk):Gk:={x with Ring:=p}
def NT(p:NL Nm)(x:Gk):Gk:={x with bk:=p}
def XN(p:NL Nm)(x:By):By:={x with bk:=p}
def Z3C(w:Wk)(l:List Gk)(k:Nat)(x:Gk)(hx:l[k]?=some x)(hle:l.length<=1000000):pfn rE 101 [.isl false false 6<|l.map Gk.enc,I k,.clo (.func 102) [] [.iptr true [.iptr true<|wkC w]]]=some (.isl false false 6<|(ZK l k<|NS w.e.Path).map Gk.enc):=by
 have hk:=Z7 hx;have hg:=Z6 (f:=Gk.enc) hx;rw[YA hx,ZX6];refine Xk (sz:=6) (f:=197) rfl rfl rfl _ _ _ (.tup []) false k (by simpa using hk) (Xj (λ_=>rfl) _) (by simpa using hle) ?_ (by simp) ?_
 .rw[Q6 (f:=102) rfl rfl];simp only[go_sem,c102,beq_self_eq_true,hg,Gk.enc,NL.enc,NS]
 .rw[<-ZX6];exact Zw (λt=>rfl) _
def Z3D(w:Wk)(l:List Gk)(k:Nat)(x:Gk)(hx:l[k]?=some x)(hle:l.length<=1000000):pfn rE 101 [.isl false false 6<|l.map Gk.enc,I k,.clo (.func 105) [] [.iptr true [.iptr true<|wkC w]]]=some (.isl false false 6<|(ZK l k<|NT w.e.bk).map Gk.enc):=by
 have hk:=Z7 hx;have hg:=Z6 (f:=Gk.enc) hx;rw[YA hx,ZX6];refine Xk (sz:=6) (f:=197) rfl rfl rfl _ _ _ (.tup []) false k (by simpa using hk) (Xj (λ_=>rfl) _) (by simpa using hle) ?_ (by simp) ?_
 .rw[Q6 (f:=105) rfl rfl];simp only[go_sem,c105,beq_self_eq_true,hg,Gk.enc,NL.enc,NT]
 .rw[<-ZX6];exact Zw (λt=>rfl) _
def Z3E(w:Wk)(l:List By)(k:Nat)(x:By)(hx:l[k]?=some x)(hle:l.length<=1000000):pfn rE 106 [.isl false false 5<|l.map By.enc,I k,.clo (.func 107) [] [.iptr true [.iptr true<|wkC w]]]=some (.isl false false 5<|(ZK l k<|XN w.e.bk).map By.enc):=by
 have hk:=Z7 hx;have hg:=Z6 (f:=By.enc) hx;rw[YA hx,ZX6];refine Xk (sz:=5) (f:=200) rfl rfl rfl _ _ _ (.tup []) false k (by simpa using hk) (Xj (λ_=>rfl) _) (by simpa using hle) ?_ (by simp) ?_
 .rw[Q6 (f:=107) rfl rfl];simp only[go_sem,c107,beq_self_eq_true,hg,By.enc,NL.enc,XN]
 .rw[<-ZX6];exact Zw (λt=>rfl) _
def Z3F(p:NL Nm)(l:List By)(k:Nat)(x:By)(hx:l[k]?=some x)(hle:l.length<=1000000):pfn rE 106 [.isl false false 5<|l.map By.enc,I k,.clo (.func 108) [] [.iptr true [.isl false p.ex 3<|p.l.map Nm.enc]]]=some (.isl false false 5<|(ZK l k<|XN p).map By.enc):=by
 have hk:=Z7 hx;have hg:=Z6 (f:=By.enc) hx;rw[YA hx,ZX6];refine Xk (sz:=5) (f:=200) rfl rfl rfl _ _ _ (.tup []) false k (by simpa using hk) (Xj (λ_=>rfl) _) (by simpa using hle) ?_ (by simp) ?_
 .rw[Q6 (f:=108) rfl rfl];simp only[go_sem,c108,beq_self_eq_true,hg,By.enc,NL.enc,XN]
 .rw[<-ZX6];exact Zw (λt=>rfl) _
def Z3G(p:NL Nm)(l:List By)(k:Nat)(x:By)(hx:l[k]?=some x)(hle:l.length<=1000000):pfn rE 106 [.isl false false 5<|l.map By.enc,I k,.clo (.func 109) [] [.iptr true [.isl false p.ex 3<|p.l.map Nm.enc]]]=some (.isl false false 5<|(ZK l k<|XN p).map By.enc):=by
 have hk:=Z7 hx;have hg:=Z6 (f:=By.enc) hx;rw[YA hx,ZX6];refine Xk (sz:=5) (f:=200) rfl rfl rfl _ _ _ (.tup []) false k (by simpa using hk) (Xj (λ_=>rfl) _) (by simpa using hle) ?_ (by simp) ?_
 .rw[Q6 (f:=109) rfl rfl];simp only[go_sem,c109,beq_self_eq_true,hg,By.enc,NL.enc,XN]
 .rw[<-ZX6];exact Zw (λt=>rfl) _
def Fw(w:Wk):Gk:=⟨w.e.Id,w.e.A,w.owner,w.e.Path,⟨false,[]⟩,-1⟩
def WM(s:Sta)(k:Int):Int:=match s.Fa[k.toNat]? with|some b=>b.Ld|none=>0
def NU(s:Sta)(k:Int):Int:=match s.Fa[k.toNat]? with|some b=>b.bq|none=>0
def Hi(w:Wk):Int:=bif decide (Qo w.s w.e.Id<0)then(bif twB w w.e.Id then 8 else 0)else bif WM w.s (Qo w.s w.e.Id) != -1||NU w.s (Qo w.s w.e.Id) != w.e.A then 11 else 0
def Hj(w:Wk):Wk:={w with s:={w.s with Fa:=bif decide (Qo w.s w.e.Id<0)then w.s.Fa++[Fw w]else ZK w.s.Fa (Qo w.s w.e.Id).toNat (NS w.e.Path)}}
def Z3H(o0 o1:AObj)(h0:∀n,Zj n o0=true)(h1:∀n,Zj n o1=true)(w:Wk)(hw:WkS w):∃t,fnV rE 34 [.ptr 2 0 0 1] (wH o0 o1 w)=some (I<|Hi w,wH o0 o1 (bif Hi w==0 then Hj w else w)++t):=by
 have htw:=Wj w hw w.e.Id;have hr:=NI w.s hw.s w.e.Id;have hcs:Z4 (w.s.Fa.map Gk.enc)=true:=Zw (λt=>rfl) _
 have ha:=λ(h:Hp)(aid:Nat)=>Vt (h:=h) (aid:=aid) (sz:=6) (bytes:=88) (es:=w.s.Fa.map Gk.enc) (ys:=[.agg [.str w.e.Id,I w.e.A,I w.owner,.isl false w.e.Path.ex 2<|w.e.Path.l.map Pt.enc,.isl false false 3 [],I<|-1]]) (bw:=false) (bw2:=false) (ex:=false) rfl (by omega) (by omega) (by have:=hw.s.regions;simp;omega) (by simp only[XA,hcs];rfl)
 have z8:((8:Int)==0)=false:=rfl;have z11:((11:Int)==0)=false:=rfl;have z0:((0:Int)==0)=true:=rfl;rw[Q6 (f:=34) rfl rfl];unfold Hi Hj;refine⟨[.row 1 [.ptr 2 0 0 1]],?_⟩;cases c1:decide (Qo w.s w.e.Id<0)with
 |true=>
  cases c:twB w w.e.Id with
  |true=>rw[c]at htw;simp only[go_sem,c34,wH,htw,hr,c1,z8]
  |false=>
   rw[c]at htw;simp only[go_sem,c34,htw,hr,c1,z0,Z3s,wrB,appW,ha,ZM,ZH,Fw,ZX4,wH,wkC,Gk.enc,NL.enc]
 |false=>
  obtain⟨j,x,hj,hx⟩:=QC c1;have hj':Qo w.s w.e.Id=(j:Int):=hj;have gx:=Z6 (f:=Gk.enc) hx;have hE:WM w.s (j:Int)=x.Ld:=by simp[WM,hx]
  have hK:NU w.s (j:Int)=x.bq:=by simp[NU,hx]
  have hn:((j:Int)).toNat=j:=rfl;have hch:=Z3C w w.s.Fa j x hx (by have:=hw.s.regions;omega)
  rw[hj']at hr c1⊢;rw[hE,hK,hn];cases c5003:x.Ld != -1 with
  |true=>simp only[go_sem,c34,wH,hr,c1,gx,Gk.enc,NL.enc,c5003,z11]
  |false=>
  cases c5004:x.bq != w.e.A with
  |true=>simp only[go_sem,c34,wH,hr,c1,gx,Gk.enc,NL.enc,c5003,c5004,z11]
  |false=>simp only[go_sem,c34,wH,hr,c1,gx,Gk.enc,NL.enc,c5003,c5004,z0,hch]
def Hk(w:Wk):Int:=
 bif decide (Qo w.s w.e.Id<0)&&decide (ZL w.s w.e.Id<0)then 10
 else bif (decide (Qo w.s w.e.Id>=0)&&WM w.s (Qo w.s w.e.Id) != -1)||(decide (ZL w.s w.e.Id>=0)&&QF w.s (ZL w.s w.e.Id) != -1)then 11 else 0
def Hl(w:Wk):Wk:=
 bif decide (Qo w.s w.e.Id>=0)then {w with s:={w.s with Fa:=ZK w.s.Fa (Qo w.s w.e.Id).toNat (NT w.e.bk)}}
 else {w with s:={w.s with Gm:=ZK w.s.Gm (ZL w.s w.e.Id).toNat (XN w.e.bk)}}
def K9{n:Int}(h:decide (n<0)=false):decide (n>=0)=true:=decide_eq_true (by have:=of_decide_eq_false h;omega)
def JE{n:Int}(h:decide (n<0)=true):decide (n>=0)=false:=decide_eq_false (by have:=of_decide_eq_true h;omega)
def Z3I(o0 o1:AObj)(h0:∀n,Zj n o0=true)(h1:∀n,Zj n o1=true)(w:Wk)(hw:WkS w):∃t,fnV rE 36 [.ptr 2 0 0 1] (wH o0 o1 w)=some (I<|Hk w,wH o0 o1 (bif Hk w==0 then Hl w else w)++t):=by
 have hr:=NI w.s hw.s w.e.Id;have ht:=K7 w.s hw.s w.e.Id;have z10:((10:Int)==0)=false:=rfl;have z11:((11:Int)==0)=false:=rfl;have z0:((0:Int)==0)=true:=rfl;rw[Q6 (f:=36) rfl rfl];unfold Hk Hl;refine⟨[.row 1 [.ptr 2 0 0 1]],?_⟩;cases c1:decide (Qo w.s w.e.Id<0)with
 |true=>
  have d1:=JE c1;cases c2:decide (ZL w.s w.e.Id<0)with
  |true=>simp only[go_sem,c36,wH,hr,ht,c1,c2,z10]
  |false=>
   have d2:=K9 c2;obtain⟨k,y,hk,hy⟩:=QC c2;have hk':ZL w.s w.e.Id=(k:Int):=hk;have gy:=Z6 (f:=By.enc) hy;have hsE:QF w.s (k:Int)=y.Ld:=by simp[QF,hy]
   have hn:((k:Int)).toNat=k:=rfl;have hch:=Z3E w w.s.Gm k y hy (by have:=hw.s.streets;omega)
   rw[hk']at ht c2 d2⊢;rw[hsE,hn];cases c5003:y.Ld != -1 with
   |true=>simp only[go_sem,c36,wH,hr,ht,c1,c2,d1,d2,gy,By.enc,NL.enc,c5003,z11]
   |false=>simp only[go_sem,c36,wH,hr,ht,c1,c2,d1,d2,gy,By.enc,NL.enc,c5003,z0,hch]
 |false=>
  have d1:=K9 c1;obtain⟨j,x,hj,hx⟩:=QC c1;have hj':Qo w.s w.e.Id=(j:Int):=hj;have gx:=Z6 (f:=Gk.enc) hx;have hrE:WM w.s (j:Int)=x.Ld:=by simp[WM,hx]
  have hnj:((j:Int)).toNat=j:=rfl;have hch:=Z3D w w.s.Fa j x hx (by have:=hw.s.regions;omega)
  rw[hj']at hr c1 d1⊢;rw[hrE,hnj];cases c5003:x.Ld != -1 with
  |true=>simp only[go_sem,c36,wH,hr,ht,c1,d1,gx,Gk.enc,NL.enc,c5003,z11]
  |false=>
  cases c2:decide (ZL w.s w.e.Id<0)with
  |true=>
   have d2:=JE c2;simp only[go_sem,c36,wH,hr,ht,c1,d1,d2,gx,Gk.enc,NL.enc,c5003,z0,hch]
  |false=>
   have d2:=K9 c2;obtain⟨k,y,hk,hy⟩:=QC c2;have hk':ZL w.s w.e.Id=(k:Int):=hk;have gy:=Z6 (f:=By.enc) hy;have hsE:QF w.s (k:Int)=y.Ld:=by simp[QF,hy]
   rw[hk']at ht c2 d2⊢;rw[hsE];cases c5004:y.Ld != -1 with
   |true=>simp only[go_sem,c36,wH,hr,ht,c1,d1,d2,gx,gy,Gk.enc,By.enc,NL.enc,c5003,c5004,z11]
   |false=>simp only[go_sem,c36,wH,hr,ht,c1,d1,d2,gx,gy,Gk.enc,By.enc,NL.enc,c5003,c5004,z0,hch]
def Hm(w:Wk):Int:=
 bif decide (ZL w.s w.e.Id<0)||decide (ZL w.s w.e.br<0)then 10 else bif QF w.s (ZL w.s w.e.Id) != -1||QF w.s (ZL w.s w.e.br) != -1 then 11 else 0
def JF(s:Sta)(k:Nat):NL Nm:=match s.Gm[k]? with|some x=>x.bk|none=>⟨false,[]⟩
def exW(w:Wk):Wk:={w with s:={w.s with Gm:=ZK (ZK w.s.Gm (ZL w.s w.e.Id).toNat<|XN<|JF w.s (ZL w.s w.e.br).toNat) (ZL w.s w.e.br).toNat (XN<|JF w.s (ZL w.s w.e.Id).toNat)}}
def Xm{α:Type}(l:List α)(k:Nat)(f:α->α):(ZK l k f).length=l.length:=by
 unfold ZK;cases l[k]?<;>simp
def Z3J(o0 o1:AObj)(h0:∀n,Zj n o0=true)(h1:∀n,Zj n o1=true)(w:Wk)(hw:WkS w):∃t,fnV rE 37 [.ptr 2 0 0 1] (wH o0 o1 w)=some (I<|Hm w,wH o0 o1 (bif Hm w==0 then exW w else w)++t):=by
 have hr:=K7 w.s hw.s w.e.Id;have ht:=K7 w.s hw.s w.e.br;have z10:((10:Int)==0)=false:=rfl;have z11:((11:Int)==0)=false:=rfl;have z0:((0:Int)==0)=true:=rfl;rw[Q6 (f:=37) rfl rfl];unfold Hm exW;cases c1:decide (ZL w.s w.e.Id<0)with
 |true=>refine⟨[],?_⟩;simp only[go_sem,c37,wH,hr,ht,c1,z10,ZXe]
 |false=>
 cases c2:decide (ZL w.s w.e.br<0)with
 |true=>refine⟨[],?_⟩;simp only[go_sem,c37,wH,hr,ht,c1,c2,z10,ZXe]
 |false=>
 obtain⟨j,x,hj,hx⟩:=QC c1;obtain⟨k,y,hk,hy⟩:=QC c2;have hj':ZL w.s w.e.Id=(j:Int):=hj;have hk':ZL w.s w.e.br=(k:Int):=hk;have gx:=Z6 (f:=By.enc) hx;have gy:=Z6 (f:=By.enc) hy;have hxE:QF w.s (j:Int)=x.Ld:=by simp[QF,hx]
 have hyE:QF w.s (k:Int)=y.Ld:=by simp[QF,hy]
 have hnj:((j:Int)).toNat=j:=rfl;have hnk:((k:Int)).toNat=k:=rfl;have hxN:JF w.s j=x.bk:=by simp[JF,hx]
 have hyN:JF w.s k=y.bk:=by simp[JF,hy]
 rw[hj']at hr c1⊢;rw[hk']at ht c2⊢;rw[hxE,hyE,hnj,hnk,hxN,hyN];cases c5003:x.Ld != -1 with
 |true=>refine⟨[],?_⟩;simp only[go_sem,c37,wH,hr,ht,c1,c2,gx,By.enc,NL.enc,c5003,z11,ZXe]
 |false=>
 cases c5004:y.Ld != -1 with
 |true=>refine⟨[],?_⟩;simp only[go_sem,c37,wH,hr,ht,c1,c2,gx,gy,By.enc,NL.enc,c5003,c5004,z11,ZXe]
 |false=>
  have hch:=Z3F y.bk w.s.Gm j x hx (by have:=hw.s.streets;omega)
  obtain⟨y',hy'⟩:∃y',(ZK w.s.Gm j<|XN y.bk)[k]?=some y':=⟨_,ZX5<|by rw[Xm];exact Z7 hy⟩
  have hch2:=Z3G x.bk (ZK w.s.Gm j<|XN y.bk) k y' hy' (by have:=hw.s.streets;rw[Xm];omega)
  refine⟨[.row 1 [.isl false x.bk.ex 3<|x.bk.l.map Nm.enc],.row 1 [.isl false y.bk.ex 3<|y.bk.l.map Nm.enc]],?_⟩;simp only[go_sem,c37,wH,hr,ht,c1,c2,gx,gy,By.enc,NL.enc,c5003,c5004,z0,hch,hch2,h0,h1]
def WN(s:Sta)(b:Int):Nat->Int->Bool
 |0,_=>false
 |k+1,at'=>bif decide (at'>=0)then(bif at'==b then true else WN s b k<|XJ s at')else false
def Hn(w:Wk):Int:=bif decide (XJ w.s w.e.B>=0)then 11 else bif WN w.s w.e.B (w.s.Gc.length+2) w.e.A then 12 else 0
def Ho(w:Wk):Wk:={w with s:={w.s with Gc:=w.s.Gc++[⟨w.e.A,w.e.B⟩]}}
def Z3K(o0 o1:AObj)(w:Wk)(hw:WkS w):∀k at',chN w.s k at'=true->
 ∃fr',Zg rE [0,3] c46L0b [(0,.ptr 2 0 0 1),(3,I at')] (wH o0 o1 w)=some (if WN w.s w.e.B (k+1) at'=true then .ret else .exit 0,fr',wH o0 o1 w)/\
  (WN w.s w.e.B (k+1) at'=true->get fr' 2=.int .i64 12)/\(WN w.s w.e.B (k+1) at'=false->get fr' 0=.ptr 2 0 0 1/\get fr' 2=.bot):=by
 intro k;induction k with
 |zero=>
  intro at' hc;have h1:decide (at'>=0)=false:=by simpa[chN]using hc
  have h2:WN w.s w.e.B (0+1) at'=false:=by rw[WN,h1];rfl
  rw[h2];refine⟨_,Q7 rfl (by simp only[go_sem,c46L0b,h1];rfl) (by simp),λh=>(by cases h),λ_=>⟨?_,?_⟩⟩<;>simp only[go_sem]
 |succ k ih=>
  intro at' hc;rw[WN];cases h1:decide (at'>=0)with
  |false=>
   rw[cond_false];refine⟨_,Q7 rfl (by simp only[go_sem,c46L0b,h1];rfl) (by simp),λh=>(by cases h),λ_=>⟨?_,?_⟩⟩<;>simp only[go_sem]
  |true=>
   rw[cond_true];cases h2:at'==w.e.B with
   |true=>
    rw[cond_true];refine⟨_,Q7 rfl (by simp only[go_sem,c46L0b,h1,h2];rfl) (by simp),λ_=>?_,λh=>(by cases h)⟩
    simp only[go_sem]
   |false=>
    rw[cond_false];have hc':chN w.s k (XJ w.s at')=true:=by
     rw[chN,h1,cond_true]at hc;exact hc
    have ht:=NJ w.s hw.s at';obtain⟨fr',h3,h4⟩:=ih (XJ w.s at') hc';refine⟨fr',?_,h4⟩;rw[<-h3];exact(Yt rfl (by simp only[go_sem,c46L0b,h1,h2,ht];rfl)).trans (by simp only[go_sem])
def Z3L(s:Sta)(hp:WK s=true)(a:Int):chN s (s.Gc.length+1) a=true:=by
 simp only[WK,ZWT]at hp;obtain⟨_,_,h3⟩:=hp;rw[ZXl]at h3;cases hf:s.Gc.find? (λp=>p.b==a)with
 |some p=>
  have h1:=ZYD hf;have h2:=h3 p<|ZYM hf;have:p.b=a:=by simpa using h1
  rw[<-this];exact h2
 |none=>
  have ht:XJ s a=-1:=by unfold XJ;rw[hf]
  rw[chN];cases decide (a>=0)with
  |false=>rfl
  |true=>
   rw[cond_true,ht];cases s.Gc.length<;>rfl
def Z3M(o0 o1:AObj)(w:Wk)(hw:WkS w)(hp:WK w.s=true):∃t,fnV rE 46 [.ptr 2 0 0 1] (wH o0 o1 w)=some (I<|Hn w,wH o0 o1 (bif Hn w==0 then Ho w else w)++t):=by
 have ht:=NJ w.s hw.s w.e.B;have hcs:Z4 (w.s.Gc.map bf.enc)=true:=Zw (λt=>rfl) _
 have ha:=λ(h:Hp)(aid:Nat)=>Vt (h:=h) (aid:=aid) (sz:=2) (bytes:=16) (es:=w.s.Gc.map bf.enc) (ys:=[.agg [I w.e.A,I w.e.B]]) (bw:=false) (bw2:=false) (ex:=false) rfl (by omega) (by omega) (by have:=hw.s.merged;simp;omega) (by simp only[XA,hcs];rfl)
 have z12:((12:Int)==0)=false:=rfl;have z11:((11:Int)==0)=false:=rfl;have z0:((0:Int)==0)=true:=rfl;obtain⟨fr',h1,h2,h3⟩:=Z3K o0 o1 w hw (w.s.Gc.length+1) w.e.A<|Z3L w.s hp w.e.A;rw[Q6 (f:=46) rfl rfl];unfold Hn;refine⟨[],?_⟩;cases c1:decide (XJ w.s w.e.B>=0)with
 |true=>simp only[go_sem,c46,ht,c1,z11,ZXe]
 |false=>
 have e:w.s.Gc.length+2=w.s.Gc.length+1+1:=rfl;rw[e];cases c2:WN w.s w.e.B (w.s.Gc.length+1+1) w.e.A with
 |true=>
  rw[c2,if_pos rfl]at h1;simp only[go_sem,c46,c46L0,ht,c1,h1,h2 c2,z12,ZXe]
 |false=>
  rw[c2]at h1;obtain⟨q0,q2⟩:=h3 c2;simp only[go_sem,c46,c46L0,ht,c1,h1,q0,q2,z0,ZX2,Fu,wrB,appW,ha,ZM,ZH,Ho,ZX4,wH,wkC,bf.enc,ZXe]
def UF(e:Gt)(a:NL Str)(d:Ga):Ga:={d with Ld:=e.Day,Why:=e.bq,After:=a}
def UG(e:Gt)(a:NL Str)(u:be):be:=
 match a.l with
 |x::_=>{u with Ga:=x}
 |[]=>{u with Ld:=e.Day,Why:=e.bq}
def Z3N(w:Wk)(a:NL Str)(l:List Ga)(k:Nat)(x:Ga)(hx:l[k]?=some x)(hle:l.length<=1000000):pfn rE 117 [.isl false false 16<|l.map Ga.enc,I k,.clo (.func 206) [] [.iptr true [.iptr true<|wkC w],.iptr false [.isl false a.ex 1<|a.l.map encS]]]=some (.isl false false 16<|(ZK l k<|UF w.e a).map Ga.enc):=by
 have hk:=Z7 hx;have hg:=Z6 (f:=Ga.enc) hx;have hs:∀v,((l.map Ga.enc).set k v)[k]?=some v:=λv=>by simp[hk]
 rw[YA hx,ZX6];refine Xk (sz:=16) (f:=205) rfl rfl rfl _ _ _ (.tup []) false k (by simpa using hk) (Xj (λ_=>rfl) _) (by simpa using hle) ?_ (by simp) ?_
 .rw[Q6 (f:=206) rfl rfl];simp only[go_sem,c206,beq_self_eq_true,hg,hs,ZXY,ZXc,ZWQ,Ga.enc,NL.enc,UF]
 .rw[<-ZX6];exact Zw (λt=>rfl) _
def Z3O(w:Wk)(a:NL Str)(l:List be)(k:Nat)(x:be)(hx:l[k]?=some x)(hle:l.length<=1000000):pfn rE 128 [.isl false false 6<|l.map be.enc,I k,.clo (.func 207) [] [.iptr false [.isl false a.ex 1<|a.l.map encS],.iptr true [.iptr true<|wkC w]]]=some (.isl false false 6<|(ZK l k<|UG w.e a).map be.enc):=by
 have hk:=Z7 hx;have hg:=Z6 (f:=be.enc) hx;have hs:∀v,((l.map be.enc).set k v)[k]?=some v:=λv=>by simp[hk]
 rw[YA hx,ZX6];refine Xk (sz:=6) (f:=212) rfl rfl rfl _ _ _ (.tup []) false k (by simpa using hk) (Xj (λ_=>rfl) _) (by simpa using hle) ?_ (by simp) ?_
 .rw[Q6 (f:=207) rfl rfl];unfold UG;cases ha:a.l with
  |nil=>
   have d:decide (((0:Nat):Int)>0)=false:=rfl;simp only[go_sem,c207,beq_self_eq_true,hg,hs,ZXY,ZXc,ZWQ,be.enc,ZX1,ZXt,d]
  |cons y r=>
   have d:decide (((r.length+1:Nat):Int)>0)=true:=decide_eq_true<|by omega
   have hix:ixG (.str y::r.map encS) 0=some (.str y):=rfl;simp only[go_sem,c207,beq_self_eq_true,hg,ZWQ,be.enc,ZX3,ZXr,ZWQ,d,hix,encS]
 .rw[<-ZX6];exact Zw (λt=>rfl) _
def Z3P(id:Str)(u:be):Bool:=Z3 u.Ga id&&!(u.Ld != -1)
def XO(e:Gt)(id:Str)(a:NL Str)(u:be):be:=bif Z3P id u then UG e a u else u
def UH(e:Gt)(id:Str)(a:NL Str)(l:List be):List be:=l.map<|XO e id a
def Ym(w:Wk)(l:List Ga):Wk:={w with s:={w.s with Bc:=l}}
def Qx(w:Wk)(l:List be):Wk:={w with s:={w.s with Nk:=l}}
def Qf(w:Wk)(k:Nat)(a:NL Str):Wk:=
 match w.s.Bc[k]? with
 |some x=>Qx (Ym w<|ZK w.s.Bc k<|UF w.e a)<|UH w.e x.Id a w.s.Nk
 |none=>w
def Y3{α:Type}(f:α->α)(l:List α)(i:Nat):List α:=(l.take i).map f++l.drop i
def Z3Q{α:Type}(f:α->α)(l:List α):Y3 f l 0=l:=by simp[Y3]
def Z3R{α:Type}(f:α->α)(l:List α):Y3 f l l.length=l.map f:=by simp[Y3]
def Z3S{α:Type}(f:α->α)(l:List α)(i:Nat):(Y3 f l i).length=l.length:=by
 unfold Y3;simp;omega
def UI{α:Type}(f:α->α){l:List α}{i:Nat}{x:α}(h:l[i]?=some x):(Y3 f l i)[i]?=some x:=by
 have hi:=Z7 h;unfold Y3;rw[ZY0<|by simp;omega]
 have:i-(List.map f<|List.take i l).length=0:=by simp;omega
 rw[this,ZYd];simpa using h
def Fx{α:Type}(f:α->α){l:List α}{i:Nat}{x:α}(h:l[i]?=some x):Y3 f l (i+1)=(Y3 f l i).set i (f x):=by
 have hi:=Z7 h;have hx:l[i]=x:=by rw[ZX5 hi]at h;exact Option.some.inj h
 unfold Y3;rw[ZYY hi,hx,ZX4,ZXx,List.set_append_right _ _<|by simp;omega]
 have:i-(List.map f<|List.take i l).length=0:=by simp;omega
 rw[this,ZY4 hi];rfl
def Fy{α:Type}(f:α->α){l:List α}{i:Nat}{x:α}(h:l[i]?=some x)(hf:f x=x):Y3 f l (i+1)=Y3 f l i:=by
 rw[Fx f h,hf];have h2:=UI f h;have hi:=Z7 h2;rw[ZX5 hi]at h2;have:=Option.some.inj h2;rw[<-this,ZZk]
def Z3T(o0 o1:AObj)(h0:∀n,Zj n o0=true)(h1:∀n,Zj n o1=true)(id:Str)(a:NL Str)(w:Wk)(hu:w.s.Nk.length<=1000)(t:Hp)
 (ht:(∃x,t=[x]/\∀n,3<=n->Zj n x=true)\/∃x y,t=[x,y]/\(∀n,3<=n->Zj n x=true)/\∀n,3<=n->Zj n y=true):
 ∃fr',Zg rE [3,5,6,34,35,36] c119L0b [(3,.ptr (3+t.length) 0 0 1),(5,.iptr false [.isl false a.ex 1<|a.l.map encS]),(6,.str id),(34,.isl false false 6<|w.s.Nk.map be.enc),(35,I w.s.Nk.length),(36,.int .i64 0)] (wH o0 o1 w++t++[.row 1 [.ptr 2 0 0 1]]) =
  some (.exit 0,fr',wH o0 o1 (Qx w<|UH w.e id a w.s.Nk)++t++[.row 1 [.ptr 2 0 0 1]]):=by
 have L:=Y8 (E:=rE) (live:=[3,5,6,34,35,36]) (b:=c119L0b) w.s.Nk.length
  (λi=>[(3,.ptr (3+t.length) 0 0 1),(5,.iptr false [.isl false a.ex 1<|a.l.map encS]),(6,.str id),(34,.isl false false 6<|w.s.Nk.map be.enc),(35,I w.s.Nk.length),(36,I i)])
  (λi=>wH o0 o1 (Qx w<|Y3 (XO w.e id a) w.s.Nk i)++t++[.row 1 [.ptr 2 0 0 1]]) (λi=>rfl)
  (λi hi=>by
   obtain⟨x,hx⟩:∃x,w.s.Nk[i]?=some x:=⟨_,ZX5 hi⟩;have hg:=Z6 (f:=be.enc) hx;have hi':=Zh hi;have hw:=Zx (n:=i)<|by omega
   have hch:=Z3O (Qx w<|Y3 (XO w.e id a) w.s.Nk i) a (Y3 (XO w.e id a) w.s.Nk i) i x (UI _ hx)<|by rw[Z3S];omega
   have hf:XO w.e id a x=bif Z3 x.Ga id&&!(x.Ld != -1)then UG w.e a x else x:=rfl;have hm:Z3 x.Ga id=true->(x.Ld != -1)=false->ZK (Y3 (XO w.e id a) w.s.Nk i) i (UG w.e a)=Y3 (XO w.e id a) w.s.Nk (i+1):=λc1 c2=>by
    rw[Fx _ hx,YA<|UI _ hx,hf,c1,c2];rfl
   rw[YA<|UI _ hx]at hch;refine⟨[(3,.ptr (3+t.length) 0 0 1),(5,.iptr false [.isl false a.ex 1<|a.l.map encS]),(6,.str id),(34,.isl false false 6<|w.s.Nk.map be.enc),(35,I w.s.Nk.length),(36,I (i+1:Nat))],?_,rfl⟩;cases c1:Z3 x.Ga id with
   |false=>
    have hs:=Fy (XO w.e id a) hx<|by rw[hf,c1];rfl
    rw[hs];rcases ht with⟨x0,rfl,b0⟩|⟨x0,y0,rfl,b0,b1⟩
    .simp only[go_sem,c119L0b,wH,Qx,hg,hi',hw,be.enc,c1,h0,h1,b0]
    .simp only[go_sem,c119L0b,wH,Qx,hg,hi',hw,be.enc,c1,h0,h1,b0,b1]
   |true=>
   cases c2:x.Ld != -1 with
   |true=>
    have hs:=Fy (XO w.e id a) hx<|by rw[hf,c1,c2];rfl
    rw[hs];rcases ht with⟨x0,rfl,b0⟩|⟨x0,y0,rfl,b0,b1⟩
    .simp only[go_sem,c119L0b,wH,Qx,hg,hi',hw,be.enc,c1,c2,h0,h1,b0]
    .simp only[go_sem,c119L0b,wH,Qx,hg,hi',hw,be.enc,c1,c2,h0,h1,b0,b1]
   |false=>
    have hm':=hm c1 c2;rw[YA<|UI _ hx]at hm';have e0:(Qx w<|Y3 (XO w.e id a) w.s.Nk i).e=w.e:=rfl;rw[e0,hm']at hch;simp only[Qx]at hch;rcases ht with⟨x0,rfl,b0⟩|⟨x0,y0,rfl,b0,b1⟩
    .simp only[go_sem,c119L0b,wH,Qx,hg,hi',hw,be.enc,c1,c2,h0,h1,b0,hch]
    .simp only[go_sem,c119L0b,wH,Qx,hg,hi',hw,be.enc,c1,c2,h0,h1,b0,b1,hch])
  (e:=.exit 0) (fr:=[(3,.ptr (3+t.length) 0 0 1),(5,.iptr false [.isl false a.ex 1<|a.l.map encS]),(6,.str id),(34,.isl false false 6<|w.s.Nk.map be.enc),(35,I w.s.Nk.length),(36,I w.s.Nk.length)]) (h:=wH o0 o1 (Qx w<|Y3 (XO w.e id a) w.s.Nk w.s.Nk.length)++t++[.row 1 [.ptr 2 0 0 1]]) (by
   rcases ht with⟨x0,rfl,b0⟩|⟨x0,y0,rfl,b0,b1⟩
   .simp only[go_sem,c119L0b,ZG,wH,Qx,h0,h1]
   .simp only[go_sem,c119L0b,ZG,wH,Qx,h0,h1]) (by simp)
 simp only[Z3Q,Z3R]at L;exact⟨_,L⟩
def Hq(o0 o1:AObj)(h0:∀n,Zj n o0=true)(h1:∀n,Zj n o1=true)(a:NL Str)(w:Wk)(hu:w.s.Nk.length<=1000)(hdl:w.s.Bc.length<=1000000)(k:Nat)(x:Ga)(hx:w.s.Bc[k]?=some x)(t:Hp)
 (ht:(∃x,t=[x]/\∀n,3<=n->Zj n x=true)\/∃x y,t=[x,y]/\(∀n,3<=n->Zj n x=true)/\∀n,3<=n->Zj n y=true):
 fnV rE 119 [.ptr 2 0 0 1,I k,.isl false a.ex 1<|a.l.map encS] (wH o0 o1 w++t)=some (.tup [],wH o0 o1 (Qf w k a)++t++[.row 1 [.ptr 2 0 0 1]]):=by
 have hg:=Z6 (f:=Ga.enc) hx;have hch:=Z3N w a w.s.Bc k x hx hdl;obtain⟨fr',hL⟩:=Z3T o0 o1 h0 h1 x.Id a (Ym w<|ZK w.s.Bc k<|UF w.e a) hu t ht;have e:Qf w k a=Qx (Ym w<|ZK w.s.Bc k<|UF w.e a) (UH w.e x.Id a w.s.Nk):=by unfold Qf;rw[hx]
 rw[e,Q6 (f:=119) rfl rfl];rcases ht with⟨x0,rfl,b0⟩|⟨x0,y0,rfl,b0,b1⟩
 .simp only[wH,Ym,Qx,ZXj,ZXm,ZXr,ZXt,Nat.reduceAdd]at hL⊢;simp only[go_sem,c119,c119L0,hg,hch,Ga.enc,NL.enc,h0,h1,b0,hL]
 .simp only[wH,Ym,Qx,ZXj,ZXm,ZXr,ZXt,Nat.reduceAdd]at hL⊢;simp only[go_sem,c119,c119L0,hg,hch,Ga.enc,NL.enc,h0,h1,b0,b1,hL]
def Fz(o0 o1:AObj)(w:Wk)(hd:w.s.Bc.length<=100000)(d:Ga)(t:Hp)(ht:t=[]\/(∃x,t=[x])\/(∃x y,t=[x,y])\/∃x y z,t=[x,y,z]):
 ∃q,fnV rE 112 [.ptr 2 0 0 1,Zo d] (wH o0 o1 w++t)=some (.tup [],wH o0 o1 (Qw w d)++t++[q])/\∀n,Zj n q=true:=by
 have hcs:Z4 (w.s.Bc.map Ga.enc)=true:=Zw (λt=>rfl) _
 have ha:=λ(h:Hp)(aid:Nat)=>Vt (h:=h) (aid:=aid) (sz:=16) (bytes:=184) (es:=w.s.Bc.map Ga.enc) (ys:=[Zo<|Xl w d]) (bw:=false) (bw2:=false) (ex:=false) rfl (by omega) (by omega) (by simp;omega) (by simp only[XA,hcs];rfl)
 refine⟨.row 16 [Zo<|Xl w d],?_,λn=>rfl⟩
 unfold Zo Xl at ha⊢;simp only at ha⊢;rw[Q6 (f:=112) rfl rfl];rcases ht with rfl|⟨x,rfl⟩|⟨x,y,rfl⟩|⟨x,y,z,rfl⟩<;>
  simp only[go_sem,c112,Ft,wrB,appW,ha,ZM,ZH,Qw,Xl,ZX4,wH,wkC,Ga.enc,NL.enc,ZXe]
def Hr(d:Ga)(x:Ent):Ga:=⟨x.Id,d.Ev,d.By,0,x.An,x.bg,0,0,⟨false,[]⟩,0,0,emp⟩
def Y5(w:Wk)(d:Ga)(l:List Ent):Wk:={w with s:={w.s with Bc:=w.s.Bc++l.map (λx=>Xl w<|Hr d x)}}
def Z3U(w:Wk)(d:Ga){l:List Ent}{i:Nat}{x:Ent}(h:l[i]?=some x):Y5 w d (l.take<|i+1)=Qw (Y5 w d<|l.take i) (Hr d x):=by
 unfold Y5 Qw;rw[YW _ h,ZXx];rfl
def WO(w:Wk)(l:List Ent):Bool:=Zu (λ_ x=>!twB w x.Id) 0 l
def Z3V(o0 o1:AObj)(h0:∀n,Zj n o0=true)(h1:∀n,Zj n o1=true)(w:Wk)(hw:WkS w):
 ∃fr' h',Zg rE [0,3,14,15,16] c42L0b [(0,.ptr 2 0 0 1),(3,.sl 3 0 0 0 false),(14,.isl false w.e.Lst.ex 7<|w.e.Lst.l.map Ent.enc),(15,I w.e.Lst.l.length),(16,.int .i64 0)] (wH o0 o1 w++[.row 1 []]) =
  some (if WO w w.e.Lst.l=true then .exit 0 else .ret,fr',h')/\
  (WO w w.e.Lst.l=true->(get fr' 0=.ptr 2 0 0 1/\get fr' 2=.bot/\get fr' 3=.sl 3 w.e.Lst.l.length 0 w.e.Lst.l.length false)/\h'=wH o0 o1 w++[.row 1 ((w.e.Lst.l.map (·.Id)).map encS)])/\
  (WO w w.e.Lst.l=false->get fr' 2=.int .i64 8/\∃K,h'=wH o0 o1 w++[.row 1 K]):=by
 have hbS:∀n(K:List Str),Zd n (K.map encS)=true:=λn K=>ZN _<|Zw (λt=>rfl) K
 have hl:=hw.e.lst;have L:=Jk (E:=rE) (live:=[0,3,14,15,16]) (b:=c42L0b) w.e.Lst.l (λ_ x=>!twB w x.Id)
  (λi=>[(0,.ptr 2 0 0 1),(3,.sl 3 i 0 i false),(14,.isl false w.e.Lst.ex 7<|w.e.Lst.l.map Ent.enc),(15,I w.e.Lst.l.length),(16,I i)])
  (λi=>wH o0 o1 w++[.row 1 (((w.e.Lst.l.take i).map (·.Id)).map encS)]) 0
  (λfr' h'=>(get fr' 0=.ptr 2 0 0 1/\get fr' 2=.bot/\get fr' 3=.sl 3 w.e.Lst.l.length 0 w.e.Lst.l.length false)/\h'=wH o0 o1 w++[.row 1 ((w.e.Lst.l.map (·.Id)).map encS)])
  (λfr' h'=>get fr' 2=.int .i64 8/\∃K,h'=wH o0 o1 w++[.row 1 K])
  (λi=>rfl)
  (λi x hx hp=>by
   have hi:=Z7 hx;have hg:=Z6 (f:=Ent.enc) hx;have hi':=Zh hi;have hwr:=Zx (n:=i)<|by omega
   have ht:=YW (λx:Ent=>x.Id) hx
   have hn:((w.e.Lst.l.take i).map (·.Id)).length=i:=by rw[ZWQ,take_len hx]
   have e1:((w.e.Lst.l.take<|i+1).map (·.Id)).map encS=((w.e.Lst.l.take i).map (·.Id)).map encS++[.str x.Id]:=by
    rw[ht,ZX4];rfl
   have htw:=Wj w hw x.Id;have hp':twB w x.Id=false:=by simpa using hp
   rw[hp']at htw;rw[e1];generalize(w.e.Lst.l.take i).map (·.Id)=KS at hn⊢;have ha:=λp0 p1 p2 q=>XC (h:=[p0,p1,p2,.row 1<|KS.map encS,q]) (fz:=false) (b:=3) (g:=i) (sz:=1) (es:=KS.map encS) (bw:=false) (ex:=false) (ys:=[.str x.Id]) (bytes:=16) (by simp[rowAt,hn]) rfl (by simp[Qq];rfl) (by omega) (by omega) (by simp;omega)
   refine⟨[(0,.ptr 2 0 0 1),(2,.bot),(3,.sl 3 (i+1) 0 (i+1) false),(14,.isl false w.e.Lst.ex 7<|w.e.Lst.l.map Ent.enc),(15,I w.e.Lst.l.length),(16,I (i+1:Nat))],?_,rfl⟩;simp only[go_sem,c42L0b,wH,hg,hi',hwr,Ent.enc,htw,ha,beq_self_eq_true,hbS,h0,h1])
  (λi x hx hp=>by
   have hi:=Z7 hx;have hg:=Z6 (f:=Ent.enc) hx;have hi':=Zh hi;have htw:=Wj w hw x.Id;have hp':twB w x.Id=true:=by simpa using hp
   rw[hp']at htw;refine⟨_,_,by simp only[go_sem,c42L0b,wH,hg,hi',Ent.enc,htw,beq_self_eq_true,hbS,h0,h1];rfl,?_,_,rfl⟩
   simp only[go_sem])
  ⟨_,_,by simp only[go_sem,c42L0b,wH,ZG,ZXu,hbS,h0,h1];rfl,⟨by simp only[go_sem],by simp only[go_sem],by simp only[go_sem]⟩,rfl⟩
 simp only[ZYZ,ZX1]at L;exact L
def Z3W(o0 o1:AObj)(h0:∀n,Zj n o0=true)(h1:∀n,Zj n o1=true)(w:Wk)(hd:w.s.Bc.length<=1000)(hl:w.e.Lst.l.length<=100)(k:Int)(n:Nat)(K:List Str)(d:Ga):
 ∃fr',Zg rE [0,3,6,7,78,79,80] c42L1b [(0,.ptr 2 0 0 1),(3,.sl 3 n 0 n false),(6,I k),(7,.ptr 4 0 0 1),(78,.isl false w.e.Lst.ex 7<|w.e.Lst.l.map Ent.enc),(79,I w.e.Lst.l.length),(80,.int .i64 0)] (wH o0 o1 w++[.row 1<|K.map encS,.row 16 [Zo d]]) =
  some (.exit 3,fr',wH o0 o1 (Y5 w d w.e.Lst.l)++[.row 1<|K.map encS,.row 16 [Zo d]])/\get fr' 0=.ptr 2 0 0 1/\get fr' 3=.sl 3 n 0 n false/\get fr' 6=I k:=by
 have hbS:∀n(K:List Str),Zd n (K.map encS)=true:=λn K=>ZN _<|Zw (λt=>rfl) K
 have L:=Y8 (E:=rE) (live:=[0,3,6,7,78,79,80]) (b:=c42L1b) w.e.Lst.l.length
  (λi=>[(0,.ptr 2 0 0 1),(3,.sl 3 n 0 n false),(6,I k),(7,.ptr 4 0 0 1),(78,.isl false w.e.Lst.ex 7<|w.e.Lst.l.map Ent.enc),(79,I w.e.Lst.l.length),(80,I i)])
  (λi=>wH o0 o1 (Y5 w d<|w.e.Lst.l.take i)++[.row 1<|K.map encS,.row 16 [Zo d]]) (λi=>rfl)
  (λi hi=>by
   obtain⟨x,hx⟩:∃x,w.e.Lst.l[i]?=some x:=⟨_,ZX5 hi⟩;have hg:=Z6 (f:=Ent.enc) hx;have hi':=Zh hi;have hwr:=Zx (n:=i)<|by omega
   obtain⟨q,ho,hq⟩:=Fz o0 o1 (Y5 w d<|w.e.Lst.l.take i) (by simp[Y5];omega) (Hr d x) [.row 1<|K.map encS,.row 16 [Zo d],.row 7 [x.enc]]<|Or.inr<|Or.inr<|Or.inr ⟨_,_,_,rfl⟩
   rw[Z3U w d hx];refine⟨[(0,.ptr 2 0 0 1),(3,.sl 3 n 0 n false),(6,I k),(7,.ptr 4 0 0 1),(78,.isl false w.e.Lst.ex 7<|w.e.Lst.l.map Ent.enc),(79,I w.e.Lst.l.length),(80,I (i+1:Nat))],?_,rfl⟩;generalize Y5 w d (w.e.Lst.l.take i)=W at ho⊢;unfold Hr Zo at ho⊢;simp only[wH,ZXj,ZXm,ZX1,Ent.enc]at ho⊢;simp only[go_sem,c42L1b,hg,hi',hwr,Ent.enc,ho,beq_self_eq_true,hbS,h0,h1])
  (e:=.exit 3) (fr:=[(0,.ptr 2 0 0 1),(3,.sl 3 n 0 n false),(6,I k),(7,.ptr 4 0 0 1),(78,.isl false w.e.Lst.ex 7<|w.e.Lst.l.map Ent.enc),(79,I w.e.Lst.l.length),(80,I w.e.Lst.l.length)]) (h:=wH o0 o1 (Y5 w d<|w.e.Lst.l.take w.e.Lst.l.length)++[.row 1<|K.map encS,.row 16 [Zo d]])
  (by simp only[go_sem,c42L1b,ZG,wH,hbS,h0,h1,Zo]) (by simp)
 have e0:Y5 w d (w.e.Lst.l.take 0)=w:=by simp[Y5]
 rw[e0,ZXu]at L;exact⟨_,L,by simp only[go_sem],by simp only[go_sem],by simp only[go_sem]⟩
def Vu(s:Sta)(k:Int):Str:=match s.Bc[k.toNat]? with|some d=>d.Veil|none=>emp
def Ka(w:Wk):Int:=
 bif !WO w w.e.Lst.l then 8 else bif decide (Zn w.s w.e.Id<0)then 10
 else bif QN w.s (Zn w.s w.e.Id) != -1||!Z3 (Vu w.s<|Zn w.s w.e.Id) emp then 11 else 0
def Kb(w:Wk):Wk:=
 match w.s.Bc[(Zn w.s w.e.Id).toNat]? with
 |some d=>Qf (Y5 w d w.e.Lst.l) (Zn w.s w.e.Id).toNat ⟨false,w.e.Lst.l.map (·.Id)⟩
 |none=>w
def Z3X(o0 o1:AObj)(h0:∀n,Zj n o0=true)(h1:∀n,Zj n o1=true)(w:Wk)(hw:WkS w):∃t,fnV rE 42 [.ptr 2 0 0 1] (wH o0 o1 w)=some (I<|Ka w,wH o0 o1 (bif Ka w==0 then Kb w else w)++t):=by
 have hbS:∀n(K:List Str),Zd n (K.map encS)=true:=λn K=>ZN _<|Zw (λt=>rfl) K
 have hcS:∀K:List Str,Z4 (K.map encS)=true:=λK=>Zw (λt=>rfl) K
 have hf:=find_ok w.s hw.s w.e.Id;have z8:((8:Int)==0)=false:=rfl;have z10:((10:Int)==0)=false:=rfl;have z11:((11:Int)==0)=false:=rfl;have z0:((0:Int)==0)=true:=rfl;obtain⟨f0,g0,l0,a0,b0⟩:=Z3V o0 o1 h0 h1 w hw;rw[Q6 (f:=42) rfl rfl];unfold Ka;cases c0:WO w w.e.Lst.l with
 |false=>
  rw[c0]at l0;obtain⟨q2,K,rfl⟩:=b0 c0;simp only[wH,ZXj,ZXm,ZX2,if_false]at l0;refine⟨[.row 1 K],?_⟩;simp only[go_sem,c42,c42L0,wH,l0,q2,z8]
 |true=>
 rw[c0,if_pos rfl]at l0;obtain⟨⟨q0,q2,q3⟩,rfl⟩:=a0 c0;simp only[wH,ZXj,ZXm]at l0;cases c1:decide (Zn w.s w.e.Id<0)with
 |true=>
  refine⟨[.row 1 ((w.e.Lst.l.map (·.Id)).map encS)],?_⟩;simp only[go_sem,c42,c42L0,wH,l0,q0,q2,q3,hbS,h0,h1,hf,c1,z10]
 |false=>
 obtain⟨j,y,hj,hy⟩:=QC c1;have hj':Zn w.s w.e.Id=(j:Int):=hj;have gy:=Z6 (f:=Ga.enc) hy;have hdE:QN w.s (j:Int)=y.Ld:=by simp[QN,hy]
 have hdV:Vu w.s (j:Int)=y.Veil:=by simp[Vu,hy]
 have hn:((j:Int)).toNat=j:=rfl;rw[hj']at hf c1⊢;rw[hdE,hdV];cases c2:y.Ld != -1 with
 |true=>
  refine⟨[.row 1 ((w.e.Lst.l.map (·.Id)).map encS)],?_⟩;simp only[go_sem,c42,c42L0,wH,l0,q0,q2,q3,hbS,h0,h1,hf,c1,gy,Ga.enc,NL.enc,c2,z11]
 |false=>
 cases c5003:Z3 y.Veil emp with
 |false=>
  refine⟨[.row 1 ((w.e.Lst.l.map (·.Id)).map encS)],?_⟩;simp only[go_sem,c42,c42L0,wH,l0,q0,q2,q3,hbS,h0,h1,hf,c1,gy,Ga.enc,NL.enc,c2,c5003,z11]
 |true=>
  obtain⟨f1,l1,p0,p3,p6⟩:=Z3W o0 o1 h0 h1 w hw.s.doors hw.e.lst j w.e.Lst.l.length (w.e.Lst.l.map (·.Id)) y;have he:=Hq o0 o1 h0 h1 ⟨false,w.e.Lst.l.map (·.Id)⟩ (Y5 w y w.e.Lst.l) hw.s.units (by have:=hw.s.doors;have:=hw.e.lst;simp[Y5];omega) j y (by
   have:=Z7 hy;unfold Y5;rw[ZXK this,hy]) [.gone,.row 16 [Zo y]] (Or.inr ⟨_,_,rfl,λn _=>rfl,λn _=>rfl⟩)
  have hs:Kb w=Qf (Y5 w y w.e.Lst.l) j ⟨false,w.e.Lst.l.map (·.Id)⟩:=by unfold Kb;rw[hj',hn,hy]
  rw[hs];generalize Qf (Y5 w y w.e.Lst.l) j ⟨false,w.e.Lst.l.map (·.Id)⟩=W2 at he⊢;unfold Zo at l1 he;simp only[wH,ZXj,ZXm]at l1 he;refine⟨[.gone,.row 16 [Zo y]],?_⟩;have hz:List.take w.e.Lst.l.length ((w.e.Lst.l.map (·.Id)).map encS)=(w.e.Lst.l.map (·.Id)).map encS:=ZXp<|by simp
  simp only[go_sem,c42,c42L0,c42L1,wH,l0,q0,q2,q3,hbS,hcS,h0,h1,hf,c1,gy,Ga.enc,NL.enc,c2,c5003,z0,l1,p0,p3,p6,he,beq_self_eq_true,hz,Zo]
def FA(w:Wk)(k:Nat)(a:NL Str):(Qf w k a).e=w.e:=by unfold Qf;split<;>rfl
def FB(w:Wk)(k:Nat)(a:NL Str):(Qf w k a).s.Bc.length=w.s.Bc.length:=by
 unfold Qf;split
 .simp[Qx,Ym,Xm]
 .rfl
def FC(w:Wk)(k:Nat)(a:NL Str):(Qf w k a).s.Nk.length=w.s.Nk.length:=by
 unfold Qf;split
 .simp[Qx,Ym,UH]
 .rfl
def Yg(w:Wk)(l:List Int)(a:NL Str):Wk:=l.foldl (λw k=>Qf w k.toNat a) w
def UJ(w:Wk)(k:Int)(l:List Int)(a:NL Str):Yg w (k::l) a=Yg (Qf w k.toNat a) l a:=rfl
def Z3Y(w:Wk){l:List Int}{i:Nat}{x:Int}(h:l[i]?=some x)(a:NL Str):Yg w (l.take<|i+1) a=Qf (Yg w (l.take i) a) x.toNat a:=by
 have hi:=Z7 h;have hx:l[i]=x:=by rw[ZX5 hi]at h;exact Option.some.inj h
 unfold Yg;rw[ZYY hi,hx,ZZj];rfl
def Z3Z(l:List Int)(a:NL Str):∀w:Wk,(Yg w l a).e=w.e:=by
 induction l with
 |nil=>intro w;rfl
 |cons x r ih=>intro w;rw[UJ,ih,FA]
def Z40(l:List Int)(a:NL Str):∀w:Wk,(Yg w l a).s.Bc.length=w.s.Bc.length:=by
 induction l with
 |nil=>intro w;rfl
 |cons x r ih=>intro w;rw[UJ,ih,FB]
def Z41(l:List Int)(a:NL Str):∀w:Wk,(Yg w l a).s.Nk.length=w.s.Nk.length:=by
 induction l with
 |nil=>intro w;rfl
 |cons x r ih=>intro w;rw[UJ,ih,FC]
def Z42(l:List Int)(ex:Bool)(v:Int)(hl:l.length<=1000000):pfn rE 120 [.isl true ex 1<|l.map I,I v]=some (.bool<|l.any<|λx=>v==x):=by
 have h:=Nz (f:=208) (enc:=I) (p:=λx=>v==x) (v:=I v) rfl rfl l (by omega) (λx _=>rfl) rfl (λx _=>rfl) true ex
 rw[Z5 (f:=120) rfl rfl,<-Vg];unfold WG;simp only[go_sem,c120,h]
def Zf(w:Wk):List Int:=w.e.Ids.l.map<|λid=>Zn w.s id
def XP(s:Sta)(k:Int):Str:=match s.Bc[k.toNat]? with|some d=>d.By|none=>emp
def JG(s:Sta)(st:Str)(k:Int):Bool:=!((QN s k != -1||!Z3 (Vu s k) emp)||!Z3 (XP s k) st)
def Kc(w:Wk):Int:=
 bif twB w w.e.Id then 8 else bif (Zf w).any (λx=>-1==x)then 10
 else bif Zu (λ_ k=>JG w.s (XP w.s<|(Zf w).headD 0) k) 0 (Zf w)then 0 else 11
def WP(w:Wk)(d:Ga):Ga:=⟨w.e.Id,d.Ev,d.By,0,w.e.An,w.e.bg,0,0,⟨false,[]⟩,0,0,emp⟩
def Kd(w:Wk):Wk:=
 match w.s.Bc[((Zf w).headD 0).toNat]? with
 |some d=>Yg (Qw w<|WP w d) (Zf w) ⟨false,[w.e.Id]⟩
 |none=>w
def Z43(o0 o1:AObj)(h0:∀n,Zj n o0=true)(h1:∀n,Zj n o1=true)(w:Wk)(hw:WkS w):
 ∃fr',Zg rE [0,3,23,24,25] c43L0b [(0,.ptr 2 0 0 1),(3,.sl 3 0 0 0 false),(23,.isl false w.e.Ids.ex 1<|w.e.Ids.l.map encS),(24,I w.e.Ids.l.length),(25,.int .i64 0)] (wH o0 o1 w++[.row 1 []]) =
  some (.exit 0,fr',wH o0 o1 w++[.row 1<|(Zf w).map I])/\get fr' 0=.ptr 2 0 0 1/\get fr' 3=.sl 3 (Zf w).length 0 (Zf w).length false:=by
 have hbS:∀n(K:List Int),Zd n (K.map I)=true:=λn K=>ZN _<|Zw (λt=>rfl) K
 have hl:=hw.e.ids;have L:=Y8 (E:=rE) (live:=[0,3,23,24,25]) (b:=c43L0b) w.e.Ids.l.length
  (λi=>[(0,.ptr 2 0 0 1),(3,.sl 3 i 0 i false),(23,.isl false w.e.Ids.ex 1<|w.e.Ids.l.map encS),(24,I w.e.Ids.l.length),(25,I i)])
  (λi=>wH o0 o1 w++[.row 1<|((w.e.Ids.l.take i).map (λid=>Zn w.s id)).map I]) (λi=>rfl)
  (λi hi=>by
   obtain⟨x,hx⟩:∃x,w.e.Ids.l[i]?=some x:=⟨_,ZX5 hi⟩;have hg:=Z6 (f:=encS) hx;have hi':=Zh hi;have hwr:=Zx (n:=i)<|by omega
   have ht:=YW (λid=>Zn w.s id) hx
   have hn:((w.e.Ids.l.take i).map (λid=>Zn w.s id)).length=i:=by rw[ZWQ,take_len hx]
   have e1:((w.e.Ids.l.take<|i+1).map (λid=>Zn w.s id)).map I=((w.e.Ids.l.take i).map (λid=>Zn w.s id)).map I++[I<|Zn w.s x]:=by
    rw[ht,ZX4];rfl
   have hf:=find_ok w.s hw.s x;rw[e1];generalize(w.e.Ids.l.take i).map (λid=>Zn w.s id)=KS at hn⊢
   have ha:=λp0 p1 p2=>XC (h:=[p0,p1,p2,.row 1<|KS.map I]) (fz:=false) (b:=3) (g:=i) (sz:=1) (es:=KS.map I) (bw:=false) (ex:=false) (ys:=[I<|Zn w.s x]) (bytes:=8) (by simp[rowAt,hn]) rfl (by simp[Qq];rfl) (by omega) (by omega) (by simp;omega)
   refine⟨[(0,.ptr 2 0 0 1),(3,.sl 3 (i+1) 0 (i+1) false),(23,.isl false w.e.Ids.ex 1<|w.e.Ids.l.map encS),(24,I w.e.Ids.l.length),(25,I (i+1:Nat))],?_,rfl⟩;simp only[go_sem,c43L0b,wH,hg,hi',hwr,encS,hf,ha,beq_self_eq_true,hbS,h0,h1])
  (e:=.exit 0) (fr:=[(0,.ptr 2 0 0 1),(3,.sl 3 w.e.Ids.l.length 0 w.e.Ids.l.length false),(23,.isl false w.e.Ids.ex 1<|w.e.Ids.l.map encS),(24,I w.e.Ids.l.length),(25,I w.e.Ids.l.length)]) (h:=wH o0 o1 w++[.row 1<|((w.e.Ids.l.take w.e.Ids.l.length).map (λid=>Zn w.s id)).map I])
  (by simp only[go_sem,c43L0b,ZG,wH,hbS,h0,h1]) (by simp)
 rw[ZXu]at L;have e2:(Zf w).length=w.e.Ids.l.length:=by simp[Zf]
 rw[e2];exact⟨_,L,by simp only[go_sem],by simp only[go_sem]⟩
def Z44{l:List Int}(h:l.any (λx=>-1==x)=false){i:Nat}{k:Int}(hk:l[i]?=some k):k≠-1:=by
 intro e;rw[ZYG]at h;exact h k (ZXk hk)<|by rw[e];rfl
def UK(w:Wk)(h:(Zf w).any (λx=>-1==x)=false){i:Nat}{k:Int}(hk:(Zf w)[i]?=some k):∃(j:Nat)(d:Ga),k=(j:Int)/\w.s.Bc[j]?=some d:=by
 have hne:=Z44 h hk;unfold Zf at hk;rw[ZXJ]at hk;cases hx:w.e.Ids.l[i]? with
 |none=>rw[hx]at hk;cases hk
 |some id=>
  rw[hx]at hk;have hk':Zn w.s id=k:=Option.some.inj hk;have hc:decide (Zn w.s id<0)=false:=by
   rcases UA (λx:Ga=>Z3 x.Id id) w.s.Bc 0 with⟨h1,_⟩|⟨j,x,h1,h2,_⟩
   .exact absurd (show k=-1 by rw[<-hk'];exact h1) hne
   .have:Zn w.s id=0+(j:Int):=h1;rw[this];exact decide_eq_false<|by omega
  obtain⟨j,d,h1,h2⟩:=QC hc;exact⟨j,d,by rw[<-hk'];exact h1,h2⟩
def Z45(o0 o1:AObj)(h0:∀n,Zj n o0=true)(h1:∀n,Zj n o1=true)(w:Wk)(hw:WkS w)(hn:(Zf w).any (λx=>-1==x)=false)(d:Ga):
 ∃fr' h',Zg rE [0,3,6,51,52,53] c43L1b [(0,.ptr 2 0 0 1),(3,.sl 3 (Zf w).length 0 (Zf w).length false),(6,.ptr 4 0 0 1),(51,.sl 3 (Zf w).length 0 (Zf w).length false),(52,I (Zf w).length),(53,.int .i64 0)] (wH o0 o1 w++[.row 1<|(Zf w).map I,.row 16 [Zo d]]) =
  some (if Zu (λ_ k=>JG w.s d.By k) 0 (Zf w)=true then .exit 2 else .ret,fr',h')/\
  (Zu (λ_ k=>JG w.s d.By k) 0 (Zf w)=true->(get fr' 0=.ptr 2 0 0 1/\get fr' 2=.bot/\get fr' 3=.sl 3 (Zf w).length 0 (Zf w).length false/\get fr' 6=.ptr 4 0 0 1)/\h'=wH o0 o1 w++[.row 1<|(Zf w).map I,.row 16 [Zo d]])/\
  (Zu (λ_ k=>JG w.s d.By k) 0 (Zf w)=false->(get fr' 0=.ptr 2 0 0 1/\get fr' 2=.int .i64 11/\get fr' 3=.sl 3 (Zf w).length 0 (Zf w).length false/\get fr' 6=.ptr 4 0 0 1)/\h'=wH o0 o1 w++[.row 1<|(Zf w).map I,.row 16 [Zo d]]):=by
 have hbS:∀n(K:List Int),Zd n (K.map I)=true:=λn K=>ZN _<|Zw (λt=>rfl) K
 have hlen:(Zf w).length<=100:=by simp[Zf];exact hw.e.ids
 have L:=Jk (E:=rE) (live:=[0,3,6,51,52,53]) (b:=c43L1b) (Zf w) (λ_ k=>JG w.s d.By k)
  (λi=>[(0,.ptr 2 0 0 1),(3,.sl 3 (Zf w).length 0 (Zf w).length false),(6,.ptr 4 0 0 1),(51,.sl 3 (Zf w).length 0 (Zf w).length false),(52,I (Zf w).length),(53,I i)])
  (λi=>wH o0 o1 w++[.row 1<|(Zf w).map I,.row 16 [Zo d]]) 2
  (λfr' h'=>(get fr' 0=.ptr 2 0 0 1/\get fr' 2=.bot/\get fr' 3=.sl 3 (Zf w).length 0 (Zf w).length false/\get fr' 6=.ptr 4 0 0 1)/\h'=wH o0 o1 w++[.row 1<|(Zf w).map I,.row 16 [Zo d]])
  (λfr' h'=>(get fr' 0=.ptr 2 0 0 1/\get fr' 2=.int .i64 11/\get fr' 3=.sl 3 (Zf w).length 0 (Zf w).length false/\get fr' 6=.ptr 4 0 0 1)/\h'=wH o0 o1 w++[.row 1<|(Zf w).map I,.row 16 [Zo d]])
  (λi=>rfl)
  (λi k hk hp=>by
   have hi:=Z7 hk;obtain⟨j,y,rfl,hy⟩:=UK w hn hk;have hg:=Z6 (f:=I) hk;have gy:=Z6 (f:=Ga.enc) hy;have hi':=Zh hi;have hwr:=Zx (n:=i)<|by omega
   have hdE:QN w.s (j:Int)=y.Ld:=by simp[QN,hy]
   have hdV:Vu w.s (j:Int)=y.Veil:=by simp[Vu,hy]
   have hdS:XP w.s (j:Int)=y.By:=by simp[XP,hy]
   have hp':(!((y.Ld != -1||!Z3 y.Veil emp)||!Z3 y.By d.By))=true:=by rw[<-hdE,<-hdV,<-hdS];exact hp
   have c1:(y.Ld != -1)=false:=by revert hp';cases(y.Ld != -1)<;>simp
   have c2:Z3 y.Veil emp=true:=by revert hp';rw[c1];cases Z3 y.Veil emp<;>simp
   have c5003:Z3 y.By d.By=true:=by revert hp';rw[c1,c2];cases Z3 y.By d.By<;>simp
   have hlt:((i:Int)<((Zf w).length:Int)):=by omega
   refine⟨[(0,.ptr 2 0 0 1),(2,.bot),(3,.sl 3 (Zf w).length 0 (Zf w).length false),(6,.ptr 4 0 0 1),(51,.sl 3 (Zf w).length 0 (Zf w).length false),(52,I (Zf w).length),(53,I (i+1:Nat))],?_,rfl⟩;have hia:iaP 3 (Zf w).length 0 1 (i:Int) (Zf w).length (some (1,(Zf w).map I))=some (.ptr 3 i 0 (Zf w).length):=by
    rw[VT _ _ _ _ _ _ _ ⟨by omega,hlt⟩];simp
   simp only[go_sem,c43L1b,wH,Zo,hg,gy,hi',hwr,hia,Ga.enc,NL.enc,c1,c2,c5003,beq_self_eq_true,hbS,h0,h1])
  (λi k hk hp=>by
   have hi:=Z7 hk;obtain⟨j,y,rfl,hy⟩:=UK w hn hk;have hg:=Z6 (f:=I) hk;have gy:=Z6 (f:=Ga.enc) hy;have hi':=Zh hi;have hdE:QN w.s (j:Int)=y.Ld:=by simp[QN,hy]
   have hdV:Vu w.s (j:Int)=y.Veil:=by simp[Vu,hy]
   have hdS:XP w.s (j:Int)=y.By:=by simp[XP,hy]
   have hp':(!((y.Ld != -1||!Z3 y.Veil emp)||!Z3 y.By d.By))=false:=by rw[<-hdE,<-hdV,<-hdS];exact hp
   have hlt:((i:Int)<((Zf w).length:Int)):=by omega
   have hia:iaP 3 (Zf w).length 0 1 (i:Int) (Zf w).length (some (1,(Zf w).map I))=some (.ptr 3 i 0 (Zf w).length):=by
    rw[VT _ _ _ _ _ _ _ ⟨by omega,hlt⟩];simp
   cases c1:(y.Ld != -1)with
   |true=>exact⟨_,_,by simp only[go_sem,c43L1b,wH,Zo,hg,gy,hi',hia,Ga.enc,NL.enc,c1,beq_self_eq_true,hbS,h0,h1];rfl,⟨by simp only[go_sem],by simp only[go_sem],by simp only[go_sem],by simp only[go_sem]⟩,rfl⟩
   |false=>
   cases c2:Z3 y.Veil emp with
   |false=>exact⟨_,_,by simp only[go_sem,c43L1b,wH,Zo,hg,gy,hi',hia,Ga.enc,NL.enc,c1,c2,beq_self_eq_true,hbS,h0,h1];rfl,⟨by simp only[go_sem],by simp only[go_sem],by simp only[go_sem],by simp only[go_sem]⟩,rfl⟩
   |true=>
   cases c5003:Z3 y.By d.By with
   |true=>rw[c1,c2,c5003]at hp';cases hp'
   |false=>exact⟨_,_,by simp only[go_sem,c43L1b,wH,Zo,hg,gy,hi',hia,Ga.enc,NL.enc,c1,c2,c5003,beq_self_eq_true,hbS,h0,h1];rfl,⟨by simp only[go_sem],by simp only[go_sem],by simp only[go_sem],by simp only[go_sem]⟩,rfl⟩)
  ⟨_,_,by simp only[go_sem,c43L1b,wH,Zo,ZG,hbS,h0,h1];rfl,⟨by simp only[go_sem],by simp only[go_sem],by simp only[go_sem],by simp only[go_sem]⟩,rfl⟩
 exact L
def Z46(o0 o1:AObj)(h0:∀n,Zj n o0=true)(h1:∀n,Zj n o1=true)(l:List Int)(hlen:l.length<=100)(w:Wk)(hu:w.s.Nk.length<=1000)(hdd:w.s.Bc.length<=1000000)(hok:∀(i:Nat)(k:Int),l[i]?=some k->∃j:Nat,k=(j:Int)/\j<w.s.Bc.length)(d:Ga):
 ∃fr',Zg rE [0,103,104,105] c43L2b [(0,.ptr 2 0 0 1),(103,.sl 3 l.length 0 l.length false),(104,I l.length),(105,.int .i64 0)] (wH o0 o1 w++[.row 1<|l.map I,.row 16 [Zo d]]) =
  some (.exit 4,fr',wH o0 o1 (Yg w l ⟨false,[w.e.Id]⟩)++[.row 1<|l.map I,.row 16 [Zo d]]):=by
 have hbS:∀n(K:List Int),Zd n (K.map I)=true:=λn K=>ZN _<|Zw (λt=>rfl) K
 have L:=Y8 (E:=rE) (live:=[0,103,104,105]) (b:=c43L2b) l.length
  (λi=>[(0,.ptr 2 0 0 1),(103,.sl 3 l.length 0 l.length false),(104,I l.length),(105,I i)])
  (λi=>wH o0 o1 (Yg w (l.take i) ⟨false,[w.e.Id]⟩)++[.row 1<|l.map I,.row 16 [Zo d]]) (λi=>rfl)
  (λi hi=>by
   obtain⟨k,hk⟩:∃k,l[i]?=some k:=⟨_,ZX5 hi⟩;obtain⟨j,rfl,hj⟩:=hok i k hk;have hg:=Z6 (f:=I) hk;have hi':=Zh hi;have hwr:=Zx (n:=i)<|by omega
   have hlt:((i:Int)<(l.length:Int)):=by omega
   have hia:iaP 3 l.length 0 1 (i:Int) l.length (some (1,l.map I))=some (.ptr 3 i 0 l.length):=by
    rw[VT _ _ _ _ _ _ _ ⟨by omega,hlt⟩];simp
   rw[Z3Y w hk];have he:=Z3Z (l.take i) ⟨false,[w.e.Id]⟩ w;have hdl:=Z40 (l.take i) ⟨false,[w.e.Id]⟩ w;have hul:=Z41 (l.take i) ⟨false,[w.e.Id]⟩ w;generalize Yg w (l.take i) ⟨false,[w.e.Id]⟩=W at he hdl hul⊢;obtain⟨y,hy⟩:∃y,W.s.Bc[j]?=some y:=⟨_,ZX5<|by rw[hdl];exact hj⟩
   have hE:=Hq o0 o1 h0 h1 ⟨false,[w.e.Id]⟩ W (by rw[hul];exact hu) (by rw[hdl];exact hdd) j y hy [.row 1<|l.map I,.row 16 [Zo d]]<|Or.inr ⟨_,_,rfl,λn _=>by simp only[go_sem,hbS],λn _=>rfl⟩
   have hn:((j:Int)).toNat=j:=rfl;rw[hn];generalize Qf W j ⟨false,[w.e.Id]⟩=W2 at hE⊢;refine⟨[(0,.ptr 2 0 0 1),(103,.sl 3 l.length 0 l.length false),(104,I l.length),(105,I (i+1:Nat))],?_,rfl⟩;simp only[wH,Zo,encS,ZXj,ZXm,ZX3,ZX1]at hE⊢;simp only[go_sem,c43L2b,hg,hi',hwr,hia,he,hE,beq_self_eq_true,hbS,h0,h1])
  (e:=.exit 4) (fr:=[(0,.ptr 2 0 0 1),(103,.sl 3 l.length 0 l.length false),(104,I l.length),(105,I l.length)]) (h:=wH o0 o1 (Yg w (l.take l.length) ⟨false,[w.e.Id]⟩)++[.row 1<|l.map I,.row 16 [Zo d]])
  (by simp only[go_sem,c43L2b,Zo,ZG,wH,hbS,h0,h1]) (by simp)
 rw[ZXu]at L;exact⟨_,L⟩
def FD{l:List Int}(h:0<l.length):l[0]?=some (l.headD 0):=by
 cases l with
 |nil=>simp at h
 |cons x r=>rfl
def Z47(o0 o1:AObj)(h0:∀n,Zj n o0=true)(h1:∀n,Zj n o1=true)(w:Wk)(hw:WkS w)(hne:0<w.e.Ids.l.length):∃t,fnV rE 43 [.ptr 2 0 0 1] (wH o0 o1 w)=some (I<|Kc w,wH o0 o1 (bif Kc w==0 then Kd w else w)++t):=by
 have hbS:∀n(K:List Int),Zd n (K.map I)=true:=λn K=>ZN _<|Zw (λt=>rfl) K
 have hcS:∀K:List Int,Z4 (K.map I)=true:=λK=>Zw (λt=>rfl) K
 have htw:=Wj w hw w.e.Id;have z8:((8:Int)==0)=false:=rfl;have z10:((10:Int)==0)=false:=rfl;have z11:((11:Int)==0)=false:=rfl;have z0:((0:Int)==0)=true:=rfl;have hlen:(Zf w).length=w.e.Ids.l.length:=by simp[Zf]
 have hl:=hw.e.ids;obtain⟨f0,l0,q0,q3⟩:=Z43 o0 o1 h0 h1 w hw;simp only[wH,ZXj,ZXm]at l0;have hz:List.take (Zf w).length ((Zf w).map I)=(Zf w).map I:=ZXp<|by simp
 have hh:=Z42 (Zf w) false (-1)<|by omega
 rw[Q6 (f:=43) rfl rfl];unfold Kc;cases c0:twB w w.e.Id with
 |true=>
  rw[c0]at htw;refine⟨[],?_⟩;simp only[go_sem,c43,wH,htw,z8,ZXe]
 |false=>
 rw[c0]at htw;cases c1:(Zf w).any (λx=>-1==x)with
 |true=>
  rw[c1]at hh;refine⟨[.row 1<|(Zf w).map I],?_⟩;simp only[go_sem,c43,c43L0,wH,htw,l0,q0,q3,hh,hz,hcS,hbS,h0,h1,z10,beq_self_eq_true]
 |false=>
 rw[c1]at hh;have hk0:=FD (l:=Zf w)<|by omega
 obtain⟨j,d,hj,hd⟩:=UK w c1 hk0;have hg:=Z6 (f:=I) hk0;have gd:=Z6 (f:=Ga.enc) hd;have hlt:((0:Int)<((Zf w).length:Int)):=by omega
 have hia:iaP 3 (Zf w).length 0 1 (0:Int) (Zf w).length (some (1,(Zf w).map I))=some (.ptr 3 0 0 (Zf w).length):=by
  rw[VT _ _ _ _ _ _ _ ⟨by omega,hlt⟩];simp
 rw[hj]at hg;have hdS:XP w.s (j:Int)=d.By:=by simp[XP,hd]
 rw[hj,hdS];obtain⟨f1,g1,l1,a1,b1⟩:=Z45 o0 o1 h0 h1 w hw c1 d;cases c2:Zu (λ_ k=>JG w.s d.By k) 0 (Zf w)with
 |false=>
  rw[c2]at l1;obtain⟨⟨p0,p2,p3,p6⟩,rfl⟩:=b1 c2;simp only[wH,Zo,ZXj,ZXm,ZX2,if_false]at l1;refine⟨[.row 1<|(Zf w).map I,.row 16 [Zo d]],?_⟩;simp only[go_sem,c43,c43L0,c43L1,wH,htw,l0,q0,q3,hh,hz,hcS,hbS,h0,h1,z11,beq_self_eq_true,hg,gd,hia,Ga.enc,NL.enc,Zo,l1,p0,p2,p3,p6]
 |true=>
  rw[c2,if_pos rfl]at l1;obtain⟨⟨p0,p2,p3,p6⟩,rfl⟩:=a1 c2;simp only[wH,Zo,ZXj,ZXm]at l1;have hdb:=hw.s.doors;obtain⟨q,ho,hq⟩:=Fz o0 o1 w (by omega) (WP w d) [.row 1<|(Zf w).map I,.row 16 [Zo d]]<|Or.inr<|Or.inr<|Or.inl ⟨_,_,rfl⟩
  obtain⟨f2,l2⟩:=Z46 o0 o1 h0 h1 (Zf w) (by omega) (Qw w<|WP w d) hw.s.units (by simp[Qw];omega) (λ(i:Nat)(k:Int)(hk:(Zf w)[i]?=some k)=>by
   obtain⟨j',d',e1,e2⟩:=UK w c1 hk;exact⟨j',e1,by have:=Z7 e2;simp[Qw];omega⟩) d
  have hs:Kd w=Yg (Qw w<|WP w d) (Zf w) ⟨false,[w.e.Id]⟩:=by
   have hn:((j:Int)).toNat=j:=rfl;unfold Kd;rw[hj,hn,hd]
  have hid:(Qw w<|WP w d).e.Id=w.e.Id:=rfl;rw[hid]at l2;rw[hs];generalize Yg (Qw w<|WP w d) (Zf w) ⟨false,[w.e.Id]⟩=W2 at l2⊢;generalize Qw w (WP w d)=W1 at l2 ho;unfold WP Zo at ho;simp only[wH,Zo,ZXj,ZXm,ZX1]at l2 ho;refine⟨[.row 1<|(Zf w).map I,.row 16 [Zo d]],?_⟩;simp only[go_sem,c43,c43L0,c43L1,c43L2,wH,htw,l0,q0,q3,hh,hz,hcS,hbS,h0,h1,z0,beq_self_eq_true,hg,gd,hia,Ga.enc,NL.enc,l1,p0,p2,p3,p6,ho,l2,Zo]
def FE(n:Nat)(h:3<=n):Zj n (.row 1 [.ptr 2 0 0 1])=true:=by
 have:decide (2<n)=true:=decide_eq_true<|by omega
 simp[Zj,Zd,bel];omega
def Ke(e:Gt)(x:Ev):Ev:={x with Ld:=e.Day}
def Z48(w:Wk)(l:List Ev)(k:Nat)(x:Ev)(hx:l[k]?=some x)(hle:l.length<=1000000):pfn rE 121 [.isl false false 4<|l.map Ev.enc,I k,.clo (.func 122) [] [.iptr true [.iptr true<|wkC w]]]=some (.isl false false 4<|(ZK l k<|Ke w.e).map Ev.enc):=by
 have hk:=Z7 hx;have hg:=Z6 (f:=Ev.enc) hx;rw[YA hx,ZX6];refine Xk (sz:=4) (f:=209) rfl rfl rfl _ _ _ (.tup []) false k (by simpa using hk) (Xj (λ_=>rfl) _) (by simpa using hle) ?_ (by simp) ?_
 .rw[Q6 (f:=122) rfl rfl];simp only[go_sem,c122,beq_self_eq_true,hg,Ev.enc,NL.enc,Ke]
 .rw[<-ZX6];exact Zw (λt=>rfl) _
def NV(id:Str)(x:Ga):Bool:=Z3 x.Ev id&&x.Ld==-1
def Y6(w:Wk)(l:List Ga):Nat->Wk
 |0=>w
 |i+1=>match l[i]? with
  |some x=>bif NV w.e.Id x then Qf (Y6 w l i) i ⟨false,[]⟩else Y6 w l i
  |none=>Y6 w l i
def FF(w:Wk)(l:List Ga):∀i,(Y6 w l i).e=w.e/\(Y6 w l i).s.Bc.length=w.s.Bc.length/\(Y6 w l i).s.Nk.length=w.s.Nk.length
 |0=>⟨rfl,rfl,rfl⟩
 |i+1=>by
  have ih:=FF w l i;rw[Y6];cases l[i]? with
  |none=>exact ih
  |some x=>
   dsimp only;cases NV w.e.Id x with
   |false=>exact ih
   |true=>
    rw[cond_true,FA,FB,FC];exact ih
def JH(w:Wk)(l:List Ev):Wk:={w with s:={w.s with Bt:=l}}
def Z49(o0 o1:AObj)(h0:∀n,Zj n o0=true)(h1:∀n,Zj n o1=true)(w:Wk)(hu:w.s.Nk.length<=1000)(hd:w.s.Bc.length<=1000):
 ∃fr',Zg rE [1,46,47,48] c44L0b [(1,.ptr 3 0 0 1),(46,.isl false false 16<|w.s.Bc.map Ga.enc),(47,I w.s.Bc.length),(48,.int .i64 0)] (wH o0 o1 w++[.row 1 [.ptr 2 0 0 1]]) =
  some (.exit 1,fr',wH o0 o1 (Y6 w w.s.Bc w.s.Bc.length)++[.row 1 [.ptr 2 0 0 1]]):=by
 have L:=Y8 (E:=rE) (live:=[1,46,47,48]) (b:=c44L0b) w.s.Bc.length
  (λi=>[(1,.ptr 3 0 0 1),(46,.isl false false 16<|w.s.Bc.map Ga.enc),(47,I w.s.Bc.length),(48,I i)])
  (λi=>wH o0 o1 (Y6 w w.s.Bc i)++[.row 1 [.ptr 2 0 0 1]]) (λi=>rfl)
  (λi hi=>by
   obtain⟨x,hx⟩:∃x,w.s.Bc[i]?=some x:=⟨_,ZX5 hi⟩;have hg:=Z6 (f:=Ga.enc) hx;have hi':=Zh hi;have hwr:=Zx (n:=i)<|by omega
   obtain⟨he,hdl,hul⟩:=FF w w.s.Bc i;have hS:Y6 w w.s.Bc (i+1)=bif Z3 x.Ev w.e.Id&&x.Ld==-1 then Qf (Y6 w w.s.Bc i) i ⟨false,[]⟩else Y6 w w.s.Bc i:=by
    rw[Y6,hx];rfl
   rw[hS];generalize Y6 w w.s.Bc i=W at he hdl hul⊢;obtain⟨y,hy⟩:∃y,W.s.Bc[i]?=some y:=⟨_,ZX5<|by rw[hdl];exact hi⟩
   have hE:=Hq o0 o1 h0 h1 ⟨false,[]⟩ W (by rw[hul];exact hu) (by rw[hdl];omega) i y hy [.row 1 [.ptr 2 0 0 1],.row 16 [x.enc]]<|Or.inr ⟨_,_,rfl,FE,λn _=>rfl⟩
   generalize Qf W i ⟨false,[]⟩=W2 at hE⊢;refine⟨[(1,.ptr 3 0 0 1),(46,.isl false false 16<|w.s.Bc.map Ga.enc),(47,I w.s.Bc.length),(48,I (i+1:Nat))],?_,rfl⟩;simp only[wH,ZXj,ZXm,ZX1,Ga.enc,NL.enc]at hE⊢;cases c1:Z3 x.Ev w.e.Id with
   |false=>simp only[go_sem,c44L0b,hg,hi',hwr,he,c1,Ga.enc,NL.enc,h0,h1]
   |true=>
   cases c2:x.Ld==-1 with
   |false=>simp only[go_sem,c44L0b,hg,hi',hwr,he,c1,c2,Ga.enc,NL.enc,h0,h1]
   |true=>simp only[go_sem,c44L0b,hg,hi',hwr,he,c1,c2,Ga.enc,NL.enc,h0,h1,hE])
  (e:=.exit 1) (fr:=[(1,.ptr 3 0 0 1),(46,.isl false false 16<|w.s.Bc.map Ga.enc),(47,I w.s.Bc.length),(48,I w.s.Bc.length)]) (h:=wH o0 o1 (Y6 w w.s.Bc w.s.Bc.length)++[.row 1 [.ptr 2 0 0 1]])
  (by simp only[go_sem,c44L0b,ZG,wH,h0,h1]) (by simp)
 exact⟨_,L⟩
def Hs(w:Wk):Int:=bif decide (Y1 w.s w.e.Id<0)then 10 else bif WL w.s (Y1 w.s w.e.Id) != -1 then 11 else 0
def Ht(w:Wk):Wk:=Y6 (JH w<|ZK w.s.Bt (Y1 w.s w.e.Id).toNat<|Ke w.e) w.s.Bc w.s.Bc.length
def Z4a(o0 o1:AObj)(h0:∀n,Zj n o0=true)(h1:∀n,Zj n o1=true)(w:Wk)(hw:WkS w):∃t,fnV rE 44 [.ptr 2 0 0 1] (wH o0 o1 w)=some (I<|Hs w,wH o0 o1 (bif Hs w==0 then Ht w else w)++t):=by
 have hb:=Hb w.s hw.s w.e.Id;have z10:((10:Int)==0)=false:=rfl;have z11:((11:Int)==0)=false:=rfl;have z0:((0:Int)==0)=true:=rfl;rw[Q6 (f:=44) rfl rfl];unfold Hs Ht;refine⟨[.row 1 [.ptr 2 0 0 1]],?_⟩;cases c1:decide (Y1 w.s w.e.Id<0)with
 |true=>simp only[go_sem,c44,wH,hb,c1,z10]
 |false=>
 obtain⟨j,x,hj,hx⟩:=QC c1;have hj':Y1 w.s w.e.Id=(j:Int):=hj;have gx:=Z6 (f:=Ev.enc) hx;have hE:WL w.s (j:Int)=x.Ld:=by simp[WL,hx]
 have hn:((j:Int)).toNat=j:=rfl;have hch:=Z48 w w.s.Bt j x hx (by have:=hw.s.buildings;omega)
 rw[hj']at hb c1⊢;rw[hE,hn];cases c2:x.Ld != -1 with
 |true=>simp only[go_sem,c44,wH,hb,c1,gx,Ev.enc,NL.enc,c2,z11]
 |false=>
  obtain⟨f1,l1⟩:=Z49 o0 o1 h0 h1 (JH w<|ZK w.s.Bt j<|Ke w.e) hw.s.units hw.s.doors;have hdd:(JH w<|ZK w.s.Bt j<|Ke w.e).s.Bc=w.s.Bc:=rfl;rw[hdd]at l1;generalize Y6 (JH w<|ZK w.s.Bt j<|Ke w.e) w.s.Bc w.s.Bc.length=W2 at l1⊢;simp only[wH,JH,ZXj,ZXm]at l1;simp only[go_sem,c44,c44L0,wH,hb,c1,gx,Ev.enc,NL.enc,c2,z0,hch,l1,h0,h1]
def c45_eq:c45=.seq s45p0 (.seq s45p1<|.seq s45p2<|.seq s45p3<|.seq s45p4<|.seq s45p5<|.seq s45p6<|.seq s45p7 .ret):=rfl
def UL(e:Gt)(x:Gk):Gk:={x with Ld:=e.Day}
def UM(e:Gt)(x:By):By:={x with Ld:=e.Day}
def UN(e:Gt)(x:be):be:={x with Ld:=e.Day,Why:=e.bq}
def Z4b(w:Wk)(l:List Gk)(k:Nat)(x:Gk)(hx:l[k]?=some x)(hle:l.length<=1000000):pfn rE 101 [.isl false false 6<|l.map Gk.enc,I k,.clo (.func 123) [] [.iptr true [.iptr true<|wkC w]]]=some (.isl false false 6<|(ZK l k<|UL w.e).map Gk.enc):=by
 have hk:=Z7 hx;have hg:=Z6 (f:=Gk.enc) hx;rw[YA hx,ZX6];refine Xk (sz:=6) (f:=197) rfl rfl rfl _ _ _ (.tup []) false k (by simpa using hk) (Xj (λ_=>rfl) _) (by simpa using hle) ?_ (by simp) ?_
 .rw[Q6 (f:=123) rfl rfl];simp only[go_sem,c123,beq_self_eq_true,hg,Gk.enc,NL.enc,UL]
 .rw[<-ZX6];exact Zw (λt=>rfl) _
def Z4c(w:Wk)(l:List By)(k:Nat)(x:By)(hx:l[k]?=some x)(hle:l.length<=1000000):pfn rE 106 [.isl false false 5<|l.map By.enc,I k,.clo (.func 126) [] [.iptr true [.iptr true<|wkC w]]]=some (.isl false false 5<|(ZK l k<|UM w.e).map By.enc):=by
 have hk:=Z7 hx;have hg:=Z6 (f:=By.enc) hx;rw[YA hx,ZX6];refine Xk (sz:=5) (f:=200) rfl rfl rfl _ _ _ (.tup []) false k (by simpa using hk) (Xj (λ_=>rfl) _) (by simpa using hle) ?_ (by simp) ?_
 .rw[Q6 (f:=126) rfl rfl];simp only[go_sem,c126,beq_self_eq_true,hg,By.enc,NL.enc,UM]
 .rw[<-ZX6];exact Zw (λt=>rfl) _
def Z4d(w:Wk)(l:List be)(k:Nat)(x:be)(hx:l[k]?=some x)(hle:l.length<=1000000):pfn rE 128 [.isl false false 6<|l.map be.enc,I k,.clo (.func 129) [] [.iptr true [.iptr true<|wkC w]]]=some (.isl false false 6<|(ZK l k<|UN w.e).map be.enc):=by
 have hk:=Z7 hx;have hg:=Z6 (f:=be.enc) hx;have hs:∀v,((l.map be.enc).set k v)[k]?=some v:=λv=>by simp[hk]
 rw[YA hx,ZX6];refine Xk (sz:=6) (f:=212) rfl rfl rfl _ _ _ (.tup []) false k (by simpa using hk) (Xj (λ_=>rfl) _) (by simpa using hle) ?_ (by simp) ?_
 .rw[Q6 (f:=129) rfl rfl];simp only[go_sem,c129,beq_self_eq_true,hg,hs,ZXY,ZXc,ZWQ,be.enc,UN]
 .rw[<-ZX6];exact Zw (λt=>rfl) _
def Z4e{E:Env}{α:Type}{sz:Nat}{n:Option Nat}{enc:α->AV}{p:α->Bool}{g:Nat}{cap:List AV}(l:List α)(hfz:∀x∈l,Ql [] (enc x::cap)=some (enc x::cap))(hl:l.length<=4611686018427387904)(henc:∀x∈l,Yu n<|enc x)
 (hp:∀x∈l,pfn E g (enc x::cap)=some (.bool<|p x)) (bw ex:Bool):∀(post pre:List α),l=pre++post->
  ∃fr',Zb E (.loop [0,1,7,8]<|XB sz n) (Vd sz g cap enc l bw ex pre.length) []=some (if Zp p post pre.length=-1 then .exit 0 else .ret,fr',[])/\(Zp p post pre.length≠-1->get fr' 4=.int .i64 (Zp p post pre.length)):=by
 intro post;induction post with
 |nil=>
  intro pre hpre;have hd:decide ((pre.length:Int)<(l.length:Int))=false:=by subst hpre;simp
  rw[J2];unfold Vd;simp only[go_sem,XB,hd,qy,reduceIte,Zp];exact⟨_,rfl,λh=>absurd rfl h⟩
 |cons x post ih=>
  intro pre hpre;have hx:x∈l:=by rw[hpre];simp
  have hlen:pre.length<l.length:=by rw[hpre];simp
  have hd:decide ((pre.length:Int)<(l.length:Int))=true:=by simpa using hlen
  have hget:ixG (l.map enc) (pre.length:Int)=some (enc x):=by rw[hpre,ZX4,ZX3];have:=RK (pre.map enc) (enc x)<|post.map enc;rwa[ZWQ]at this
  have htk:=(henc x hx).2;have hcl:=hfz x hx;have hpx:=hp x hx;rw[J2];unfold Vd;have hw:IntKind.i64.wrap ((pre.length:Int)+1)=((pre++[x]).length:Int):=by rw[Zx<|by omega];simp
  have hw':((pre++[x]).length:Int)=(pre.length:Int)+1:=by simp
  cases hpv:p x with
  |true=>
   have h0:((pre.length:Int)=-1)=False:=by simp
   simp only[go_sem,XB,hd,hget,htk,hcl,hpx,hpv,qy,reduceIte,Zp,ZXm,ZXj,h0];exact⟨_,rfl,λ_=>rfl⟩
  |false=>
   obtain⟨fr',h1,h2⟩:=ih (pre++[x])<|by simp[hpre]
   rw[hw']at h1 h2;simp only[go_sem,XB,hd,hget,htk,hcl,hpx,hpv,hw,qy,Nat.reduceAdd,reduceIte,Zp,ZXm,ZXj];rw[ZX7]at h1;exact⟨fr',(Dl<|by rfl).trans h1,h2⟩
def FG{E:Env}{f:Nat}{α:Type}{sz:Nat}{n:Option Nat}{enc:α->AV}{p:α->Bool}{g:Nat}{cap:List AV}(hs:E.sum f=none)(hf:E.fn f=some ⟨[.tmp 4],GR sz n⟩)(l:List α)(hfz:∀x∈l,Ql [] (enc x::cap)=some (enc x::cap))(hl:l.length<=4611686018427387904)
 (henc:∀x∈l,Yu n<|enc x) (hp:∀x∈l,pfn E g (enc x::cap)=some (.bool<|p x)) (bw ex:Bool):pfn E f [.isl bw ex sz<|l.map enc,.clo (.func g) [] cap]=some (.int .i64<|Zp p l 0):=by
 rw[Z5 hs hf];obtain⟨fr',h1,h2⟩:=Z4e (E:=E) l hfz hl henc hp bw ex l [] rfl;have hr:Z2 [0,1,7,8] [(8,AV.int .i64 0),(7,AV.int .i64 l.length),(6,AV.isl bw ex sz<|l.map enc),(4,AV.int .i64 0),(0,AV.isl bw ex sz<|l.map enc),(1,AV.clo (.func g) [] cap)]=Z2 [0,1,7,8] (Vd sz g cap enc l bw ex 0):=by rfl
 have hL:Zb E (.loop [0,1,7,8]<|XB sz n) [(0,AV.isl bw ex sz<|l.map enc),(1,AV.clo (.func g) [] cap),(7,AV.int .i64 l.length),(8,AV.int .i64 0)] []=some (if Zp p l 0=-1 then .exit 0 else .ret,fr',[]):=h1
 unfold GR;by_cases h0:Zp p l 0=-1
 .rw[if_pos h0]at hL;simp only[go_sem,hL,h0,qy,Nat.reduceAdd,ZWQ]
 .rw[if_neg h0]at hL;have h3:get fr' 4=AV.int .i64 (Zp p l 0):=h2 h0;simp only[go_sem,hL,h3,qy,Nat.reduceAdd,ZWQ]
def Kf(s:Sta)(id:Str):Bool:=s.Bc.any<|λx=>Z3 x.By id&&x.Ld==-1
def Z4f(s:Sta)(hs:StS s)(id:Str):pfn rE 124 [.isl false false 16<|s.Bc.map Ga.enc,.clo (.func 125) [] [.iptr true [.str id]]]=some (.bool<|Kf s id):=by
 have hp:∀x:Ga,pfn rE 125 [x.enc,.iptr true [.str id]]=some (.bool<|Z3 x.By id&&x.Ld==-1):=λx=>by
  rw[Z5 (f:=125) rfl rfl];cases c1:Z3 x.By id with
  |false=>simp only[go_sem,c125,Ga.enc,NL.enc,c1]
  |true=>simp only[go_sem,c125,Ga.enc,NL.enc,c1]
 have h1:=FG (E:=rE) (f:=160) (sz:=16) (n:=some 16) (enc:=Ga.enc) (p:=λx=>Z3 x.By id&&x.Ld==-1) (g:=125) (cap:=[.iptr true [.str id]]) rfl rfl s.Bc (λx _=>GQ _ _ rfl (by simp[QJ,msz,Ga.enc,NL.enc])) (by have:=hs.doors;omega) (λx _=>x.el) (λx _=>hp x) false false
 rw[Z5 (f:=124) rfl rfl];unfold Kf;rw[<-Vg];unfold WG;simp only[go_sem,c124,h1]
def Kg(s:Sta)(id:Str):Bool:=!decide (Qo s id<0)&&WM s (Qo s id)==-1
def Kh(s:Sta)(id:Str):Bool:=!decide (ZL s id<0)&&QF s (ZL s id)==-1
def Ki(s:Sta)(id:Str):Bool:=!decide (Zn s id<0)&&QN s (Zn s id)==-1
def NW(s:Sta)(k:Int):Int:=match s.Nk[k.toNat]? with|some b=>b.Ld|none=>0
def UO(s:Sta)(id:Str):Bool:=!decide (Wf s id<0)&&NW s (Wf s id)==-1
def Hu(w:Wk)(l:List Gk):Wk:={w with s:={w.s with Fa:=l}}
def Hv(w:Wk)(l:List By):Wk:={w with s:={w.s with Gm:=l}}
abbrev shT(w:Wk):Hp:=[.row 1 [.ptr 2 0 0 1],.row 1 [.str w.e.Id]]
def Z4g(o0 o1:AObj)(h0:∀n,Zj n o0=true)(h1:∀n,Zj n o1=true)(w:Wk)(hw:WkS w):
 (Kg w.s w.e.Id=true->∃fr' t,Zb rE s45p2 [(1,.ptr 3 0 0 1),(3,.ptr 4 0 0 1)] (wH o0 o1 w++shT w)=some (.ret,fr',wH o0 o1 (Hu w<|ZK w.s.Fa (Qo w.s w.e.Id).toNat<|UL w.e)++t)/\get fr' 2=I 0)/\
 (Kg w.s w.e.Id=false->Zb rE s45p2 [(1,.ptr 3 0 0 1),(3,.ptr 4 0 0 1)] (wH o0 o1 w++shT w)=some (.normal,[(1,.ptr 3 0 0 1),(3,.ptr 4 0 0 1),(4,I<|Qo w.s w.e.Id),(32,.bool false)],wH o0 o1 w++shT w)):=by
 have hr:=NI w.s hw.s w.e.Id;unfold Kg;cases c1:decide (Qo w.s w.e.Id<0)with
 |true=>
  have d1:=JE c1;refine⟨λh=>(by cases h),λ_=>?_⟩
  simp only[go_sem,s45p2,wH,shT,hr,d1]
 |false=>
  have d1:=K9 c1;obtain⟨j,x,hj,hx⟩:=QC c1;have hj':Qo w.s w.e.Id=(j:Int):=hj;have gx:=Z6 (f:=Gk.enc) hx;have hE:WM w.s (j:Int)=x.Ld:=by simp[WM,hx]
  have hn:((j:Int)).toNat=j:=rfl;have hch:=Z4b w w.s.Fa j x hx (by have:=hw.s.regions;omega)
  rw[hj']at hr d1⊢;rw[hE,hn];cases c2:x.Ld==-1 with
  |true=>
   refine⟨λ_=>⟨_,[.row 1 [.ptr 2 0 0 1],.row 1 [.str w.e.Id]],by simp only[go_sem,s45p2,wH,shT,Hu,hr,d1,gx,Gk.enc,NL.enc,c2,hch,h0,h1];rfl,by simp only[go_sem]⟩,λh=>(by cases h)⟩
  |false=>
   refine⟨λh=>(by cases h),λ_=>?_⟩
   simp only[go_sem,s45p2,wH,shT,hr,d1,gx,Gk.enc,NL.enc,c2,h0,h1]
def Z4h(o0 o1:AObj)(h0:∀n,Zj n o0=true)(h1:∀n,Zj n o1=true)(w:Wk)(hw:WkS w)(v:AV):
 (Kh w.s w.e.Id=true->∃fr' t,Zb rE s45p3 [(1,.ptr 3 0 0 1),(3,.ptr 4 0 0 1),(4,v),(32,.bool false)] (wH o0 o1 w++shT w)=some (.ret,fr',wH o0 o1 (bif Kf w.s w.e.Id then w else Hv w<|ZK w.s.Gm (ZL w.s w.e.Id).toNat<|UM w.e)++t)/\get fr' 2=I (bif Kf w.s w.e.Id then 11 else 0))/\
 (Kh w.s w.e.Id=false->Zb rE s45p3 [(1,.ptr 3 0 0 1),(3,.ptr 4 0 0 1),(4,v),(32,.bool false)] (wH o0 o1 w++shT w)=some (.normal,[(1,.ptr 3 0 0 1),(3,.ptr 4 0 0 1),(5,I<|ZL w.s w.e.Id),(64,.bool false)],wH o0 o1 w++shT w)):=by
 have hr:=K7 w.s hw.s w.e.Id;have ho:=Z4f w.s hw.s w.e.Id;unfold Kh;cases c1:decide (ZL w.s w.e.Id<0)with
 |true=>
  have d1:=JE c1;refine⟨λh=>(by cases h),λ_=>?_⟩
  simp only[go_sem,s45p3,wH,shT,hr,d1]
 |false=>
  have d1:=K9 c1;obtain⟨j,x,hj,hx⟩:=QC c1;have hj':ZL w.s w.e.Id=(j:Int):=hj;have gx:=Z6 (f:=By.enc) hx;have hE:QF w.s (j:Int)=x.Ld:=by simp[QF,hx]
  have hn:((j:Int)).toNat=j:=rfl;have hch:=Z4c w w.s.Gm j x hx (by have:=hw.s.streets;omega)
  rw[hj']at hr d1⊢;rw[hE,hn];cases c2:x.Ld==-1 with
  |true=>
   refine⟨λ_=>?_,λh=>(by cases h)⟩
   cases c5003:Kf w.s w.e.Id with
   |true=>
    rw[c5003]at ho;exact⟨_,[.row 1 [.ptr 2 0 0 1],.row 1 [.str w.e.Id]],by simp only[go_sem,s45p3,wH,shT,hr,d1,gx,By.enc,NL.enc,c2,ho,h0,h1];rfl,by simp only[go_sem]⟩
   |false=>
    rw[c5003]at ho;exact⟨_,[.row 1 [.ptr 2 0 0 1],.row 1 [.str w.e.Id]],by simp only[go_sem,s45p3,wH,shT,Hv,hr,d1,gx,By.enc,NL.enc,c2,ho,hch,h0,h1];rfl,by simp only[go_sem]⟩
  |false=>
   refine⟨λh=>(by cases h),λ_=>?_⟩
   simp only[go_sem,s45p3,wH,shT,hr,d1,gx,By.enc,NL.enc,c2,h0,h1]
def Z4i(o0 o1:AObj)(h0:∀n,Zj n o0=true)(h1:∀n,Zj n o1=true)(w:Wk)(hw:WkS w)(v:AV):
 (Ki w.s w.e.Id=true->∃fr' t,Zb rE s45p4 [(1,.ptr 3 0 0 1),(3,.ptr 4 0 0 1),(5,v),(64,.bool false)] (wH o0 o1 w++shT w)=some (.ret,fr',wH o0 o1 (Qf w (Zn w.s w.e.Id).toNat ⟨false,[]⟩)++t)/\get fr' 2=I 0)/\
 (Ki w.s w.e.Id=false->Zb rE s45p4 [(1,.ptr 3 0 0 1),(3,.ptr 4 0 0 1),(5,v),(64,.bool false)] (wH o0 o1 w++shT w)=some (.normal,[(1,.ptr 3 0 0 1),(3,.ptr 4 0 0 1),(6,I<|Zn w.s w.e.Id),(103,.bool false)],wH o0 o1 w++shT w)):=by
 have hr:=find_ok w.s hw.s w.e.Id;unfold Ki;cases c1:decide (Zn w.s w.e.Id<0)with
 |true=>
  have d1:=JE c1;refine⟨λh=>(by cases h),λ_=>?_⟩
  simp only[go_sem,s45p4,wH,shT,hr,d1]
 |false=>
  have d1:=K9 c1;obtain⟨j,x,hj,hx⟩:=QC c1;have hj':Zn w.s w.e.Id=(j:Int):=hj;have gx:=Z6 (f:=Ga.enc) hx;have hE:QN w.s (j:Int)=x.Ld:=by simp[QN,hx]
  have hn:((j:Int)).toNat=j:=rfl;have he:=Hq o0 o1 h0 h1 ⟨false,[]⟩ w hw.s.units (by have:=hw.s.doors;omega) j x hx [.row 1 [.ptr 2 0 0 1],.row 1 [.str w.e.Id]]<|Or.inr ⟨_,_,rfl,FE,λn _=>rfl⟩
  rw[hj']at hr d1⊢;rw[hE,hn];cases c2:x.Ld==-1 with
  |true=>
   generalize Qf w j ⟨false,[]⟩=W2 at he⊢;simp only[wH,ZXj,ZXm,ZX1]at he;exact⟨λ_=>⟨_,[.row 1 [.ptr 2 0 0 1],.row 1 [.str w.e.Id]],by simp only[go_sem,s45p4,wH,shT,hr,d1,gx,Ga.enc,NL.enc,c2,he,h0,h1];rfl,by simp only[go_sem]⟩,λh=>(by cases h)⟩
  |false=>
   refine⟨λh=>(by cases h),λ_=>?_⟩
   simp only[go_sem,s45p4,wH,shT,hr,d1,gx,Ga.enc,NL.enc,c2,h0,h1]
def Z4j(o0 o1:AObj)(h0:∀n,Zj n o0=true)(h1:∀n,Zj n o1=true)(w:Wk)(hw:WkS w)(v:AV):
 (UO w.s w.e.Id=true->∃fr' t,Zb rE s45p5 [(1,.ptr 3 0 0 1),(3,.ptr 4 0 0 1),(6,v),(103,.bool false)] (wH o0 o1 w++shT w)=some (.ret,fr',wH o0 o1 (Qx w<|ZK w.s.Nk (Wf w.s w.e.Id).toNat<|UN w.e)++t)/\get fr' 2=I 0)/\
 (UO w.s w.e.Id=false->Zb rE s45p5 [(1,.ptr 3 0 0 1),(3,.ptr 4 0 0 1),(6,v),(103,.bool false)] (wH o0 o1 w++shT w)=some (.normal,[(1,.ptr 3 0 0 1),(3,.ptr 4 0 0 1),(7,I<|Wf w.s w.e.Id),(126,.bool false)],wH o0 o1 w++shT w)):=by
 have hr:=Z2Q w.s hw.s w.e.Id;unfold UO;cases c1:decide (Wf w.s w.e.Id<0)with
 |true=>
  have d1:=JE c1;refine⟨λh=>(by cases h),λ_=>?_⟩
  simp only[go_sem,s45p5,wH,shT,hr,d1]
 |false=>
  have d1:=K9 c1;obtain⟨j,x,hj,hx⟩:=QC c1;have hj':Wf w.s w.e.Id=(j:Int):=hj;have gx:=Z6 (f:=be.enc) hx;have hE:NW w.s (j:Int)=x.Ld:=by simp[NW,hx]
  have hn:((j:Int)).toNat=j:=rfl;have hch:=Z4d w w.s.Nk j x hx (by have:=hw.s.units;omega)
  rw[hj']at hr d1⊢;rw[hE,hn];cases c2:x.Ld==-1 with
  |true=>
   refine⟨λ_=>⟨_,[.row 1 [.ptr 2 0 0 1],.row 1 [.str w.e.Id]],by simp only[go_sem,s45p5,wH,shT,Qx,hr,d1,gx,be.enc,c2,hch,h0,h1];rfl,by simp only[go_sem]⟩,λh=>(by cases h)⟩
  |false=>
   refine⟨λh=>(by cases h),λ_=>?_⟩
   simp only[go_sem,s45p5,wH,shT,hr,d1,gx,be.enc,c2,h0,h1]
def Hw(w:Wk):Int:=
 bif Kg w.s w.e.Id then 0 else bif Kh w.s w.e.Id then(bif Kf w.s w.e.Id then 11 else 0)else bif Ki w.s w.e.Id then 0 else bif UO w.s w.e.Id then 0
 else bif twB w w.e.Id&&decide (Y1 w.s w.e.Id<0)then 11 else 10
def Hy(w:Wk):Wk:=
 bif Kg w.s w.e.Id then Hu w<|ZK w.s.Fa (Qo w.s w.e.Id).toNat<|UL w.e
 else bif Kh w.s w.e.Id then Hv w<|ZK w.s.Gm (ZL w.s w.e.Id).toNat<|UM w.e
 else bif Ki w.s w.e.Id then Qf w (Zn w.s w.e.Id).toNat ⟨false,[]⟩
 else Qx w<|ZK w.s.Nk (Wf w.s w.e.Id).toNat<|UN w.e
def Z4k(o0 o1:AObj)(h0:∀n,Zj n o0=true)(h1:∀n,Zj n o1=true)(w:Wk)(hw:WkS w):∃t,fnV rE 45 [.ptr 2 0 0 1] (wH o0 o1 w)=some (I<|Hw w,wH o0 o1 (bif Hw w==0 then Hy w else w)++t):=by
 have z10:((10:Int)==0)=false:=rfl;have z11:((11:Int)==0)=false:=rfl;have z0:((0:Int)==0)=true:=rfl;have hR:=Z4g o0 o1 h0 h1 w hw;have hS:=Z4h o0 o1 h0 h1 w hw<|I<|Qo w.s w.e.Id;have hD:=Z4i o0 o1 h0 h1 w hw<|I<|ZL w.s w.e.Id;have hU:=Z4j o0 o1 h0 h1 w hw<|I<|Zn w.s w.e.Id;have htw:=Wj w hw w.e.Id;have hb:=Hb w.s hw.s w.e.Id;simp only[wH,shT,ZXj,ZXm]at hR hS hD hU;rw[Q6 (f:=45) (c:=c45) rfl rfl,c45_eq];unfold Hw Hy;cases c1:Kg w.s w.e.Id with
 |true=>
  obtain⟨fr',t,h2,h3⟩:=hR.1 c1;refine⟨t,?_⟩;generalize Hu w (ZK w.s.Fa (Qo w.s w.e.Id).toNat<|UL w.e)=W at h2⊢;simp only[go_sem,s45p0,s45p1,wH,h2,h3,z0]
 |false=>
 have h2:=hR.2 c1;cases c2:Kh w.s w.e.Id with
 |true=>
  obtain⟨fr',t,h3,h4⟩:=hS.1 c2;refine⟨t,?_⟩;cases c5003:Kf w.s w.e.Id with
  |true=>
   rw[c5003]at h3 h4;simp only[cond_true]at h3 h4;simp only[go_sem,s45p0,s45p1,wH,h2,h3,h4,z11]
  |false=>
   rw[c5003]at h3 h4;simp only[cond_false]at h3 h4;generalize Hv w (ZK w.s.Gm (ZL w.s w.e.Id).toNat<|UM w.e)=W at h3⊢;simp only[go_sem,s45p0,s45p1,wH,h2,h3,h4,z0]
 |false=>
 have h3:=hS.2 c2;cases c5003:Ki w.s w.e.Id with
 |true=>
  obtain⟨fr',t,h4,h5⟩:=hD.1 c5003;refine⟨t,?_⟩;generalize Qf w (Zn w.s w.e.Id).toNat ⟨false,[]⟩=W at h4⊢;simp only[go_sem,s45p0,s45p1,wH,h2,h3,h4,h5,z0]
 |false=>
 have h4:=hD.2 c5003;cases c5004:UO w.s w.e.Id with
 |true=>
  obtain⟨fr',t,h5,h6⟩:=hU.1 c5004;refine⟨t,?_⟩;generalize Qx w (ZK w.s.Nk (Wf w.s w.e.Id).toNat<|UN w.e)=W at h5⊢;simp only[go_sem,s45p0,s45p1,wH,h2,h3,h4,h5,h6,z0]
 |false=>
 have h5:=hU.2 c5004;refine⟨[.row 1 [.ptr 2 0 0 1],.row 1 [.str w.e.Id]],?_⟩;cases c5005:twB w w.e.Id with
 |false=>
  rw[c5005]at htw;simp only[go_sem,s45p0,s45p1,s45p6,s45p7,wH,h2,h3,h4,h5,htw,z10]
 |true=>
 rw[c5005]at htw;cases c5006:decide (Y1 w.s w.e.Id<0)with
 |true=>simp only[go_sem,s45p0,s45p1,s45p6,s45p7,wH,h2,h3,h4,h5,htw,hb,c5006,z11]
 |false=>simp only[go_sem,s45p0,s45p1,s45p6,s45p7,wH,h2,h3,h4,h5,htw,hb,c5006,z10]
def UP(n:HN)(x:Ga):Ga:={x with An:=n}
def Z4l(e:Ent)(l:List Ga)(k:Nat)(x:Ga)(hx:l[k]?=some x)(hle:l.length<=1000000):pfn rE 117 [.isl false false 16<|l.map Ga.enc,I k,.clo (.func 118) [] [.iptr true [.str e.Id,.int .i64 e.An.N,.str e.An.bm,.int .i64 e.An.Num,.int .i64 e.An.Den,.int .i64 e.bg.X,.int .i64 e.bg.Y]]]=some (.isl false false 16<|(ZK l k<|UP e.An).map Ga.enc):=by
 have hk:=Z7 hx;have hg:=Z6 (f:=Ga.enc) hx;rw[YA hx,ZX6];refine Xk (sz:=16) (f:=205) rfl rfl rfl _ _ _ (.tup []) false k (by simpa using hk) (Xj (λ_=>rfl) _) (by simpa using hle) ?_ (by simp) ?_
 .rw[Q6 (f:=118) rfl rfl];simp only[go_sem,c118,beq_self_eq_true,hg,Ga.enc,NL.enc,UP]
 .rw[<-ZX6];exact Zw (λt=>rfl) _
def Kj(s:Sta)(x:Ent):Bool:=decide (Zn s x.Id<0)
def Hz(w:Wk)(x:Ent):Bool:=QN w.s (Zn w.s x.Id) != -1||!Z3 (XP w.s<|Zn w.s x.Id) w.e.Id
def FH{g:Nat}{cap:List AV}{p:Ent->Bool}(l:List Ent)(hl:l.length<=1000)(ex:Bool)(hfz:∀x∈l,Ql [] (x.enc::cap)=some (x.enc::cap))(hcl:Ql [] [.isl false ex 7<|l.map Ent.enc,.clo (.func g) [] cap]=some [.isl false ex 7<|l.map Ent.enc,.clo (.func g) [] cap])
 (hp:∀x∈l,pfn rE g (x.enc::cap)=some (.bool<|p x)):pfn rE 115 [.isl false ex 7<|l.map Ent.enc,.clo (.func g) [] cap]=some (.bool<|l.any p):=by
 have h1:=FG (E:=rE) (f:=204) (sz:=7) (n:=some 7) (enc:=Ent.enc) (p:=p) (g:=g) (cap:=cap) rfl rfl l hfz (by omega) (λx _=>x.el) hp false ex
 rw[Z5 (f:=115) rfl rfl,<-Vg];unfold WG;simp only[go_sem,c115,h1,hcl]
abbrev JI(w:Wk):List AV:=[.iptr true [.iptr true<|wkC w]]
def ZDV(w:Wk)(x:Ent):Ql [] (x.enc::JI w)=some (x.enc::JI w):=GQ _ _ rfl (by simp[QJ,msz,Ent.enc])
def FJ(w:Wk)(g:Nat)(l:List Ent)(ex:Bool):Ql [] [.isl false ex 7<|l.map Ent.enc,.clo (.func g) []<|JI w]=some [.isl false ex 7<|l.map Ent.enc,.clo (.func g) []<|JI w]:=GQ _ _ rfl (by simp[QJ,msz])
def Z4m(w:Wk)(hw:WkS w):pfn rE 115 [.isl false w.e.Lst.ex 7<|w.e.Lst.l.map Ent.enc,.clo (.func 114) []<|JI w]=some (.bool<|w.e.Lst.l.any<|Kj w.s):=by
 refine FH _ (by have:=hw.e.lst;omega) _ (λx _=>ZDV w x) (FJ w _ _ _)<|λx _=>?_
 have hf:=find_ok w.s hw.s x.Id;rw[Z5 (f:=114) rfl rfl];unfold Kj;simp only[go_sem,c114,Ent.enc,hf]
def Z4n(w:Wk)(hw:WkS w)(hb:w.e.Lst.l.any (Kj w.s)=false):pfn rE 115 [.isl false w.e.Lst.ex 7<|w.e.Lst.l.map Ent.enc,.clo (.func 116) []<|JI w]=some (.bool<|w.e.Lst.l.any<|Hz w):=by
 refine FH _ (by have:=hw.e.lst;omega) _ (λx _=>ZDV w x) (FJ w _ _ _)<|λx hx=>?_
 have hf:=find_ok w.s hw.s x.Id;rw[ZYG]at hb;have hb1:decide (Zn w.s x.Id<0)=false:=by simpa[Kj]using hb x hx
 obtain⟨j,y,hj,hy⟩:=QC hb1;have hj':Zn w.s x.Id=(j:Int):=hj;have gy:=Z6 (f:=Ga.enc) hy;have hdE:QN w.s (j:Int)=y.Ld:=by simp[QN,hy]
 have hdS:XP w.s (j:Int)=y.By:=by simp[XP,hy]
 unfold Hz;rw[hj']at hf⊢;rw[hdE,hdS,Z5 (f:=116) rfl rfl];cases c1:y.Ld != -1 with
 |true=>simp only[go_sem,c116,Ent.enc,hf,gy,Ga.enc,NL.enc,c1]
 |false=>simp only[go_sem,c116,Ent.enc,hf,gy,Ga.enc,NL.enc,c1]
def Kk(D:List Ga)(id:Str):Int:=Zp (λx:Ga=>Z3 x.Id id) D 0
def NX{α β:Type}(f:α->β)(p:β->Bool):∀(l:List α)(i:Int),Zp (λx=>p<|f x) l i=Zp p (l.map f) i
 |[],_=>rfl
 |x::r,i=>by simp only[Zp,ZX3];rw[NX f p r]
def Z4o{D D':List Ga}(h:D.map (·.Id)=D'.map (·.Id))(id:Str):Kk D id=Kk D' id:=by
 unfold Kk;rw[NX (λx:Ga=>x.Id)<|λi=>Z3 i id,NX (λx:Ga=>x.Id) (λi=>Z3 i id) D',h]
def FK{α β:Type}(g:α->β)(f:α->α)(h:∀x,g (f x)=g x)(l:List α)(k:Nat):(ZK l k f).map g=l.map g:=by
 unfold ZK;cases hk:l[k]? with
 |none=>rfl
 |some x=>
  dsimp only;rw[ZX6,h];have hi:=Z7 hk;have:(l.map g)[k]'(by simpa using hi)=g x:=by
   rw[ZX5 hi]at hk;simp[Option.some.inj hk]
  rw[<-this,ZZk]
def Yn(D:List Ga)(l:List Ent):Nat->List Ga
 |0=>D
 |i+1=>match l[i]? with
  |some x=>ZK (Yn D l i) (Kk (Yn D l i) x.Id).toNat<|UP x.An
  |none=>Yn D l i
def HA(D:List Ga)(l:List Ent):∀i,(Yn D l i).map (·.Id)=D.map (·.Id)
 |0=>rfl
 |i+1=>by
  rw[Yn];cases l[i]? with
  |none=>exact HA D l i
  |some x=>exact(FK (λx:Ga=>x.Id) (UP x.An) (λ_=>rfl) _ _).trans (HA D l i)
def FL(D:List Ga)(l:List Ent)(i:Nat):(Yn D l i).length=D.length:=by
 have:=congrArg List.length<|HA D l i;simpa using this
def Z4p(o0 o1:AObj)(h0:∀n,Zj n o0=true)(h1:∀n,Zj n o1=true)(w:Wk)(hw:WkS w)(hb:w.e.Lst.l.any (Kj w.s)=false):
 ∃fr',Zg rE [1,54,55,56] c41L0b [(1,.ptr 3 0 0 1),(54,.isl false w.e.Lst.ex 7<|w.e.Lst.l.map Ent.enc),(55,I w.e.Lst.l.length),(56,.int .i64 0)] (wH o0 o1 w++[.row 1 [.ptr 2 0 0 1]]) =
  some (.exit 0,fr',wH o0 o1 (Ym w<|Yn w.s.Bc w.e.Lst.l w.e.Lst.l.length)++[.row 1 [.ptr 2 0 0 1]]):=by
 have hl:=hw.e.lst;have hdoors:=hw.s.doors;have L:=Y8 (E:=rE) (live:=[1,54,55,56]) (b:=c41L0b) w.e.Lst.l.length
  (λi=>[(1,.ptr 3 0 0 1),(54,.isl false w.e.Lst.ex 7<|w.e.Lst.l.map Ent.enc),(55,I w.e.Lst.l.length),(56,I i)])
  (λi=>wH o0 o1 (Ym w<|Yn w.s.Bc w.e.Lst.l i)++[.row 1 [.ptr 2 0 0 1]]) (λi=>rfl)
  (λi hi=>by
   obtain⟨x,hx⟩:∃x,w.e.Lst.l[i]?=some x:=⟨_,ZX5 hi⟩;have hg:=Z6 (f:=Ent.enc) hx;have hi':=Zh hi;have hwr:=Zx (n:=i)<|by omega
   have hS:Yn w.s.Bc w.e.Lst.l (i+1)=ZK (Yn w.s.Bc w.e.Lst.l i) (Kk (Yn w.s.Bc w.e.Lst.l i) x.Id).toNat (UP x.An):=by
    rw[Yn,hx]
   have hids:=Z4o (HA w.s.Bc w.e.Lst.l i) x.Id;have hlen:=FL w.s.Bc w.e.Lst.l i;rw[hS];generalize Yn w.s.Bc w.e.Lst.l i=D at hids hlen⊢;have hb2:=hb;rw[ZYG]at hb2;have hb1:decide (Kk D x.Id<0)=false:=by
    rw[hids];have:=hb2 x<|ZXk hx;rw[ZYj]at this;exact this
   obtain⟨j,y,hj,hy⟩:=QC hb1;have hj':Kk D x.Id=(j:Int):=hj;have hf:=find_ok (Ym w D).s ⟨hw.s.regions,hw.s.streets,hw.s.buildings,by show D.length<=1000;omega,hw.s.units,hw.s.merged,hw.s.rulings⟩ x.Id
   have hf2:Zn (Ym w D).s x.Id=(j:Int):=hj;have hn:((j:Int)).toNat=j:=rfl;have hch:=Z4l x D j y hy<|by omega
   rw[hf2]at hf;rw[hj',hn];simp only[Ym]at hf⊢;refine⟨[(1,.ptr 3 0 0 1),(54,.isl false w.e.Lst.ex 7<|w.e.Lst.l.map Ent.enc),(55,I w.e.Lst.l.length),(56,I (i+1:Nat))],?_,rfl⟩;simp only[go_sem,c41L0b,wH,hg,hi',hwr,hf,hch,Ent.enc,h0,h1])
  (e:=.exit 0) (fr:=[(1,.ptr 3 0 0 1),(54,.isl false w.e.Lst.ex 7<|w.e.Lst.l.map Ent.enc),(55,I w.e.Lst.l.length),(56,I w.e.Lst.l.length)]) (h:=wH o0 o1 (Ym w<|Yn w.s.Bc w.e.Lst.l w.e.Lst.l.length)++[.row 1 [.ptr 2 0 0 1]])
  (by simp only[go_sem,c41L0b,ZG,wH,Ym,h0,h1]) (by simp)
 exact⟨_,L⟩
def HD(w:Wk):Int:=
 bif decide (ZL w.s w.e.Id<0)||w.e.Lst.l.any (Kj w.s)then 10
 else bif QF w.s (ZL w.s w.e.Id) != -1||w.e.Lst.l.any (Hz w)then 11 else 0
def NY(w:Wk):Wk:=Ym w<|Yn w.s.Bc w.e.Lst.l w.e.Lst.l.length
def Z4q(o0 o1:AObj)(h0:∀n,Zj n o0=true)(h1:∀n,Zj n o1=true)(w:Wk)(hw:WkS w):∃t,fnV rE 41 [.ptr 2 0 0 1] (wH o0 o1 w)=some (I<|HD w,wH o0 o1 (bif HD w==0 then NY w else w)++t):=by
 have hs:=K7 w.s hw.s w.e.Id;have hb1:=Z4m w hw;have z10:((10:Int)==0)=false:=rfl;have z11:((11:Int)==0)=false:=rfl;have z0:((0:Int)==0)=true:=rfl;rw[Q6 (f:=41) rfl rfl];unfold HD;refine⟨[.row 1 [.ptr 2 0 0 1]],?_⟩;cases c1:decide (ZL w.s w.e.Id<0)with
 |true=>simp only[go_sem,c41,wH,hs,c1,z10]
 |false=>
 cases c2:w.e.Lst.l.any (Kj w.s)with
 |true=>
  rw[c2]at hb1;simp only[go_sem,c41,wH,hs,c1,hb1,z10]
 |false=>
 obtain⟨f1,l1⟩:=Z4p o0 o1 h0 h1 w hw c2;have hb2:=Z4n w hw c2;rw[c2]at hb1;obtain⟨j,x,hj,hx⟩:=QC c1;have hj':ZL w.s w.e.Id=(j:Int):=hj;have gx:=Z6 (f:=By.enc) hx;have hE:QF w.s (j:Int)=x.Ld:=by simp[QF,hx]
 rw[hj']at hs c1⊢;rw[hE];cases c5003:x.Ld != -1 with
 |true=>simp only[go_sem,c41,wH,hs,c1,hb1,gx,By.enc,NL.enc,c5003,z11]
 |false=>
 cases c5004:w.e.Lst.l.any (Hz w)with
 |true=>
  rw[c5004]at hb2;simp only[go_sem,c41,wH,hs,c1,hb1,gx,By.enc,NL.enc,c5003,hb2,z11]
 |false=>
  rw[c5004]at hb2;unfold NY;generalize Ym w (Yn w.s.Bc w.e.Lst.l w.e.Lst.l.length)=W at l1⊢;simp only[wH,ZXj,ZXm]at l1;simp only[go_sem,c41,c41L0,wH,hs,c1,hb1,gx,By.enc,NL.enc,c5003,hb2,l1,z0,h0,h1]
def c7_eq:c7=.seq s7p0 (.seq s7p1<|.seq s7p2<|.seq s7p3<|.seq s7p4<|.seq s7p5<|.seq s7p6 .ret):=rfl
structure StF(s:Sta):Prop where
 e:StE s
 regions:s.Fa.length<=500
 streets:s.Gm.length<=500
 buildings:s.Bt.length<=500
 doors:s.Bc.length<=500
 units:s.Nk.length<=500
 merged:s.Gc.length<=500
 rulings:s.ba.length<=500
def wk0(s:Sta)(a:Int)(e:Gt):Wk:=⟨s,a,e,Qp s⟩
def Z4r(s:Sta):(Qp s).length=s.Fa.length+(s.Gm.length+(s.Bt.length+(s.Bc.length+s.Nk.length))):=by simp[Qp]
def Z4s(s:Sta)(hs:StF s)(a:Int)(e:Gt)(he:EvS e):WkS (wk0 s a e):=⟨hs.e.sizes,he,by
 have h1:=hs.regions;have h2:=hs.streets;have h3:=hs.buildings;have h4:=hs.doors;have h5:=hs.units;show(Qp s).length<=100000
 rw[Z4r];omega⟩
def Q1(w:Wk):Int:=
 match w.e.bq.toNat with
 |1=>Hi w
 |2=>bif twB w w.e.Id then 8 else 0
 |3=>Hk w
 |4=>Hm w
 |5=>bif twB w w.e.Id then 8 else 0
 |6=>JD w
 |7=>JB w
 |8=>HD w
 |9=>Ka w
 |10=>Kc w
 |11=>Hs w
 |12=>Hw w
 |13=>Hn w
 |14=>0
 |_=>bif twB w w.e.Id then 8 else 0
def stepW(w:Wk):Wk:=
 match w.e.bq.toNat with
 |1=>Hj w
 |2=>Jz w
 |3=>Hl w
 |4=>exW w
 |5=>JA w
 |6=>Qw w<|UE w
 |7=>JC w
 |8=>NY w
 |9=>Kb w
 |10=>Kd w
 |11=>Ht w
 |12=>Hy w
 |13=>Ho w
 |14=>Hh w
 |_=>Qw w<|UD w
def steps:List AV:=[.nilfn,.clo (.func 34) [] [],.clo (.func 35) [] [],.clo (.func 36) [] [],.clo (.func 37) [] [],.clo (.func 38) [] [],.clo (.func 39) [] [],.clo (.func 40) [] [],.clo (.func 41) [] [],.clo (.func 42) [] [],.clo (.func 43) [] [],.clo (.func 44) [] [],.clo (.func 45) [] [],.clo (.func 46) [] [],.clo (.func 47) [] [],.clo (.func 48) [] []]
abbrev HE:List AV:=[.isl false false 6 [],.isl false false 5 [],.isl false false 4 [],.isl false false 16 [],.isl false false 6 [],.isl false false 2 [],.isl false false 2 []]
abbrev apH(w:Wk):Hp:=wH (.row 7 [.agg HE]) (.row 16 [.agg steps]) w
def NZ{w w':Wk}{o0 o1:AObj}{f:Nat}{b:Bool}(h:∃t,fnV rE f [.ptr 2 0 0 1] (wH o0 o1 w)=some (I<|bif b then 8 else 0,wH o0 o1 (bif b then w else w')++t)):
 ∃t,fnV rE f [.ptr 2 0 0 1] (wH o0 o1 w)=some (I<|bif b then 8 else 0,wH o0 o1 (bif (bif b then(8:Int)else 0)==0 then w' else w)++t):=by
 cases b<;>exact h
def step_ok(o0 o1:AObj)(h0:∀n,Zj n o0=true)(h1:∀n,Zj n o1=true)(w:Wk)(hw:WkS w)(k:Nat)(hk:w.e.bq=(k:Int))(hk1:1<=k)(hk2:k<=15)(hp:WK w.s=true)(hn:k=10->0<w.e.Ids.l.length):
 ∃g,steps[k]?=some (.clo (.func g) [] [])/\∃t,fnV rE g [.ptr 2 0 0 1] (wH o0 o1 w)=some (I<|Q1 w,wH o0 o1 (bif Q1 w==0 then stepW w else w)++t):=by
 have hkk:w.e.bq.toNat=k:=by rw[hk];rfl
 have z0:((0:Int)==0)=true:=rfl;unfold Q1 stepW;rw[hkk];rcases(by omega:k=1\/k=2\/k=3\/k=4\/k=5\/k=6\/k=7\/k=8\/k=9\/k=10\/k=11\/k=12\/k=13\/k=14\/k=15)with rfl|rfl|rfl|rfl|rfl|rfl|rfl|rfl|rfl|rfl|rfl|rfl|rfl|rfl|rfl
 .exact⟨34,rfl,Z3H o0 o1 h0 h1 w hw⟩
 .exact⟨35,rfl,NZ<|Z3w o0 o1 w hw⟩
 .exact⟨36,rfl,Z3I o0 o1 h0 h1 w hw⟩
 .exact⟨37,rfl,Z3J o0 o1 h0 h1 w hw⟩
 .exact⟨38,rfl,NZ<|Z3x o0 o1 w hw⟩
 .exact⟨39,rfl,Z3B o0 o1 h0 h1 w hw⟩
 .exact⟨40,rfl,Z3z o0 o1 w hw⟩
 .exact⟨41,rfl,Z4q o0 o1 h0 h1 w hw⟩
 .exact⟨42,rfl,Z3X o0 o1 h0 h1 w hw⟩
 .exact⟨43,rfl,Z47 o0 o1 h0 h1 w hw<|hn rfl⟩
 .exact⟨44,rfl,Z4a o0 o1 h0 h1 w hw⟩
 .exact⟨45,rfl,Z4k o0 o1 h0 h1 w hw⟩
 .exact⟨46,rfl,Z3M o0 o1 w hw hp⟩
 .exact⟨47,rfl,Z3y o0 o1 w hw⟩
 .exact⟨48,rfl,NZ<|Z3A o0 o1 h0 h1 w hw⟩
def Gr(s s':Sta):Prop:=s'.Fa.length<=s.Fa.length+200/\s'.Gm.length<=s.Gm.length+200/\s'.Bt.length<=s.Bt.length+200/\s'.Bc.length<=s.Bc.length+200/\s'.Nk.length<=s.Nk.length+200/\s'.Gc.length<=s.Gc.length+200/\s'.ba.length<=s.ba.length+200
structure Same(s s':Sta):Prop where
 regions:s'.Fa.length=s.Fa.length
 streets:s'.Gm.length=s.Gm.length
 buildings:s'.Bt.length=s.Bt.length
 doors:s'.Bc.length=s.Bc.length
 units:s'.Nk.length=s.Nk.length
 merged:s'.Gc.length=s.Gc.length
 rulings:s'.ba.length=s.ba.length
def Same.refl(s:Sta):Same s s:=⟨rfl,rfl,rfl,rfl,rfl,rfl,rfl⟩
def Same.trans{a b c:Sta}(h:Same a b)(k:Same b c):Same a c:=⟨k.1.trans h.1,k.2.trans h.2,k.3.trans h.3,k.4.trans h.4,k.5.trans h.5,k.6.trans h.6,k.7.trans h.7⟩
def Gr.same{a b c:Sta}(h:Gr a b)(k:Same b c):Gr a c:=by
 obtain⟨h1,h2,h3,h4,h5,h6,h7⟩:=h;exact⟨by rw[k.1];exact h1,by rw[k.2];exact h2,by rw[k.3];exact h3,by rw[k.4];exact h4,by rw[k.5];exact h5,by rw[k.6];exact h6,by rw[k.7];exact h7⟩
def Same.gr{a b:Sta}(k:Same a b):Gr a b:=⟨by rw[k.1];omega,by rw[k.2];omega,by rw[k.3];omega,by rw[k.4];omega,by rw[k.5];omega,by rw[k.6];omega,by rw[k.7];omega⟩
def HF(w:Wk)(k:Nat)(a:NL Str):Same w.s (Qf w k a).s:=by
 unfold Qf;split
 .exact⟨rfl,rfl,rfl,Xm _ _ _,by simp[Qx,UH],rfl,rfl⟩
 .exact Same.refl _
def Z4t(l:List Int)(a:NL Str):∀w:Wk,Same w.s (Yg w l a).s:=by
 induction l with
 |nil=>intro w;exact Same.refl _
 |cons x r ih=>intro w;rw[UJ];exact(HF _ _ _).trans (ih _)
def FM(w:Wk)(l:List Ga):∀i,Same w.s (Y6 w l i).s
 |0=>Same.refl _
 |i+1=>by
  have ih:=FM w l i;rw[Y6];cases l[i]? with
  |none=>exact ih
  |some x=>
   dsimp only;cases NV w.e.Id x with
   |false=>exact ih
   |true=>exact ih.trans<|HF _ _ _
def M0(w:Wk)(d:Ga):Gr w.s (Qw w d).s:=by
 unfold Gr Qw;simp
def Z4u(w:Wk)(hl:w.e.Lst.l.length<=100):Gr w.s (stepW w).s:=by
 unfold stepW;split
 .unfold Hj;cases decide (Qo w.s w.e.Id<0)with
  |true=>simp[Gr]
  |false=>simp[Gr,Xm]
 .simp[Gr,Jz]
 .unfold Hl;cases decide (Qo w.s w.e.Id>=0)with
  |true=>simp[Gr,Xm]
  |false=>simp[Gr,Xm]
 .simp[Gr,exW,Xm]
 .simp[Gr,JA]
 .exact M0 _ _
 .simp[Gr,JC]
 .exact Same.gr ⟨rfl,rfl,rfl,FL _ _ _,rfl,rfl,rfl⟩
 .unfold Kb;split
  .refine Gr.same ?_<|HF _ _ _;unfold Gr Y5;simp;omega
  .exact(Same.refl _).gr
 .unfold Kd;split
  .exact Gr.same (M0 _ _)<|Z4t _ _ _
  .exact(Same.refl _).gr
 .unfold Ht;refine Same.gr<|Same.trans (b:=(JH w<|ZK w.s.Bt (Y1 w.s w.e.Id).toNat<|Ke w.e).s) ⟨rfl,rfl,Xm _ _ _,rfl,rfl,rfl,rfl⟩<|FM _ _ _
 .unfold Hy;cases Kg w.s w.e.Id with
  |true=>exact Same.gr ⟨Xm _ _ _,rfl,rfl,rfl,rfl,rfl,rfl⟩
  |false=>
  cases Kh w.s w.e.Id with
  |true=>exact Same.gr ⟨rfl,Xm _ _ _,rfl,rfl,rfl,rfl,rfl⟩
  |false=>
  cases Ki w.s w.e.Id with
  |true=>exact Same.gr<|HF _ _ _
  |false=>exact Same.gr ⟨rfl,rfl,rfl,rfl,Xm _ _ _,rfl,rfl⟩
 .simp[Gr,Ho]
 .simp[Gr,Hh]
 .exact M0 _ _
def FN(s:Sta)(hs:StF s)(a:Int)(e:Gt)(he:EvS e):StS (stepW<|wk0 s a e).s:=by
 obtain⟨h1,h2,h3,h4,h5,h6,h7⟩:=Z4u (wk0 s a e) he.lst;have k1:=hs.regions;have k2:=hs.streets;have k3:=hs.buildings;have k4:=hs.doors;have k5:=hs.units;have k6:=hs.merged;have k7:=hs.rulings;have e0:(wk0 s a e).s=s:=rfl;rw[e0]at h1 h2 h3 h4 h5 h6 h7;exact⟨by omega,by omega,by omega,by omega,by omega,by omega,by omega⟩
def Yh:Sta:=⟨[],[],[],[],[],[],[]⟩
def okB(s:Sta)(a:Int)(e:Gt):Bool:=Jx s&&(QM a 0 0&&Q9 e)
def Qk(s:Sta)(a:Int)(e:Gt):Int:=
 bif okB s a e then(bif Q1 (wk0 s a e)==0 then(bif Wh (stepW<|wk0 s a e).s.Bc then 0 else 8)else Q1<|wk0 s a e)else 1
def ZP(s:Sta)(a:Int)(e:Gt):Sta:=
 bif okB s a e&&(Q1 (wk0 s a e)==0&&Wh (stepW<|wk0 s a e).s.Bc)then(stepW<|wk0 s a e).s else Yh
abbrev evL(e:Gt):List AV:=[I e.bq,I e.Day,I e.A,I e.B,I e.bv,.str e.Id,.str e.br,.str e.Text,.isl false e.Ids.ex 1<|e.Ids.l.map encS,.isl false e.bk.ex 3<|e.bk.l.map Nm.enc,
 I e.An.N,.str e.An.bm,I e.An.Num,I e.An.Den,I e.bg.X,I e.bg.Y,.isl false e.Path.ex 2<|e.Path.l.map Pt.enc,.isl false e.Lst.ex 7<|e.Lst.l.map Ent.enc]
def Z4v(w:Wk)(hw:WkS w)(k:Nat)(hk:w.e.bq=(k:Int))(hk1:1<=k)(hk2:k<=15)(hp:WK w.s=true)(hn:k=10->0<w.e.Ids.l.length):
 ((Q1 w==0)=true->Zb rE s7p4 [(5,.iptr false<|evL w.e),(6,.ptr 0 0 0 1),(8,.ptr 1 0 0 1),(9,.ptr 2 0 0 1)] (apH w)=some (.normal,[(40,.bool false),(39,I 0),(6,.ptr 0 0 0 1),(9,.ptr 2 0 0 1),(10,I 0)],apH<|stepW w))/\
 ((Q1 w==0)=false->∃fr' t,Zb rE s7p4 [(5,.iptr false<|evL w.e),(6,.ptr 0 0 0 1),(8,.ptr 1 0 0 1),(9,.ptr 2 0 0 1)] (apH w)=some (.ret,fr',apH w++t)/\get fr' 6=.ptr 0 0 0 1/\get fr' 7=I (Q1 w)):=by
 have h0:∀n,Zj n (.row 7 [.agg HE])=true:=λn=>rfl
 have h1:∀n,Zj n (.row 16 [.agg steps])=true:=λn=>rfl
 have hlt:(0<=(k:Int)/\(k:Int)<((16:Nat):Int))=True:=by simp;omega
 have hkn:((k:Int)).toNat=k:=rfl;obtain⟨g,hg,t,hs⟩:=step_ok _ _ h0 h1 w hw k hk hk1 hk2 hp hn;have htk:takeC none (List.drop k steps)=some (.clo (.func g) [] []):=by
  have hl:k<steps.length:=Z7 hg;rw[ZY4 hl,N3];rw[ZX5 hl]at hg;exact hg
 have nz:(Q1 w != 0) = !(Q1 w==0):=rfl;cases c:Q1 w==0 with
 |true=>
  refine⟨λ_=>?_,λh=>(by cases h)⟩
  have e0:Q1 w=0:=by simpa using c
  rw[c,cond_true]at hs;simp only[wH,ZXj,ZXm]at hs;rw[e0]at hs;have n0:((0:Int) != 0)=false:=rfl;simp only[go_sem,s7p4,apH,wH,hk,hlt,hkn,if_true,ZXf,ZXA,htk,hs,n0,h0,h1]
 |false=>
  refine⟨λh=>(by cases h),λ_=>?_⟩
  rw[c,cond_false]at hs;simp only[wH,ZXj,ZXm]at hs;rw[c]at nz;exact⟨_,[],by simp only[go_sem,s7p4,apH,wH,hk,hlt,hkn,if_true,ZXf,ZXA,htk,hs,nz,h0,h1,ZXe];rfl,by simp only[go_sem],by simp only[go_sem]⟩
def FO(e:Gt)(hf:Q9 e=true)(hk:e.bq=((10:Nat):Int)):0<e.Ids.l.length:=by
 simp only[Q9,ZWT]at hf;have h:=hf.2.2.2.2;unfold Q8 at h;rw[hk]at h;have h2:(ZD e.Ids.l.length 2 8&&(Qv (e.Id::e.Ids.l)&&(YO e.An&&gOn e.bg)))=true:=h;rw[ZWT]at h2;have h3:=h2.1;unfold ZD at h3;rw[ZWT]at h3;have:=of_decide_eq_true h3.1;omega
def Z4w(e:Gt)(hf:Q9 e=true):∃k:Nat,e.bq=(k:Int)/\1<=k/\k<=15:=by
 simp only[Q9,ZWT]at hf;have h:=hf.1;unfold ZD at h;rw[ZWT]at h;have h1:=of_decide_eq_true h.1;have h2:=of_decide_eq_true h.2;exact⟨e.bq.toNat,by omega,by omega,by omega⟩
def Z4x(s:Sta)(h:Jx s=true):WK s=true:=by
 simp only[Jx,ZWT]at h;exact h.2.2.2.2.2.2.2
def JJ(s:Sta)(hs:StF s)(a:Int)(e:Gt)(he:EvS e):pfn rE 7 [stA s,I a,evA e]=some (.tup [stA<|ZP s a e,I<|Qk s a e]):=by
 have hP:=Z3i s hs.e;have hO:=Qc a 0 0;have hF:=NH e he;have hI:=Fd s hs.e.sizes;have hcI:Z4 ((Qp s).map encS)=true:=Zw (λt=>rfl) _
 rw[Z5 (f:=7) (c:=c7) rfl rfl,c7_eq];have z0:(stA Yh)=.agg HE:=rfl;cases c:okB s a e with
 |false=>
  have e1:Qk s a e=1:=by unfold Qk;rw[c];rfl
  have e2:ZP s a e=Yh:=by unfold ZP;rw[c];rfl
  rw[e1,e2,z0];unfold okB at c;cases c1:Jx s with
  |false=>
   rw[c1]at hP;simp only[go_sem,s7p0,s7p1,hP]
  |true=>
  rw[c1]at hP;cases c2:QM a 0 0 with
  |false=>
   rw[c2]at hO;simp only[go_sem,s7p0,s7p1,hP,hO]
  |true=>
  rw[c2]at hO;cases c5003:Q9 e with
  |false=>
   rw[c5003]at hF;simp only[go_sem,s7p0,s7p1,hP,hO,hF]
  |true=>rw[c1,c2,c5003]at c;cases c
 |true=>
  have c':=c;unfold okB at c';simp only[ZWT]at c';obtain⟨c1,c2,c5003⟩:=c';obtain⟨k,hk,hk1,hk2⟩:=Z4w e c5003;obtain⟨hN,hE⟩:=Z4v (wk0 s a e) (Z4s s hs a e he) k hk hk1 hk2 (Z4x s c1)<|λh=>FO e c5003<|by rw[<-h];exact hk
  rw[c1]at hP;rw[c2]at hO;rw[c5003]at hF;cases c5004:Q1 (wk0 s a e)==0 with
  |false=>
   have e1:Qk s a e=Q1 (wk0 s a e):=by unfold Qk;rw[c,c5004];rfl
   have e2:ZP s a e=Yh:=by unfold ZP;rw[c,c5004];rfl
   obtain⟨fr',t,h1,h2,h3⟩:=hE c5004;rw[e1,e2,z0];simp only[apH,wH,wk0,wkC,steps,ZXj,ZXm]at h1 h3⊢;simp only[go_sem,s7p0,s7p1,s7p2,s7p3,hP,hO,hF,hI,h1,h2,h3]
  |true=>
   have h1:=hN c5004;have hz:=FN s hs a e he;have hB:=Fk (stepW<|wk0 s a e).s hz;generalize hW:stepW (wk0 s a e)=W at h1 hB hz;simp only[apH,wH,wk0,wkC,steps]at h1;cases c5005:Wh W.s.Bc with
   |false=>
    have e1:Qk s a e=8:=by unfold Qk;rw[c,c5004,hW,c5005];rfl
    have e2:ZP s a e=Yh:=by unfold ZP;rw[c,c5004,hW,c5005];rfl
    rw[e1,e2,z0];rw[c5005]at hB;simp only[go_sem,s7p0,s7p1,s7p2,s7p3,s7p5,s7p6,hP,hO,hF,hI,h1,hB]
   |true=>
    have e1:Qk s a e=0:=by unfold Qk;rw[c,c5004,hW,c5005];rfl
    have e2:ZP s a e=W.s:=by unfold ZP;rw[c,c5004,hW,c5005];rfl
    rw[e1,e2];rw[c5005]at hB;simp only[go_sem,s7p0,s7p1,s7p2,s7p3,s7p5,s7p6,hP,hO,hF,hI,h1,hB]
def ZSZ(a0 a1 a2 a3 a4 a5 a6 a7 a8 a9:AObj)(b:Bool):trimB 10 [a0,a1,a2,a3,a4,a5,a6,a7,a8,a9] b=[a0,a1,a2,a3,a4,a5,a6,a7,a8,a9]:=by cases b<;>rfl
def ZT0(a0 a1 a2 a3 a4 a5 a6 a7 a8 a9 a10:AObj)(b:Bool):trimB 11 [a0,a1,a2,a3,a4,a5,a6,a7,a8,a9,a10] b=[a0,a1,a2,a3,a4,a5,a6,a7,a8,a9,a10]:=by cases b<;>rfl
def ZT1(a0 a1 a2 a3 a4 a5 a6 a7 a8 a9 a10 a11:AObj)(b:Bool):trimB 12 [a0,a1,a2,a3,a4,a5,a6,a7,a8,a9,a10,a11] b=[a0,a1,a2,a3,a4,a5,a6,a7,a8,a9,a10,a11]:=by cases b<;>rfl
def ZT2(a0 a1 a2 a3 a4 a5 a6 a7 a8 a9 a10 a11 a12:AObj)(b:Bool):trimB 13 [a0,a1,a2,a3,a4,a5,a6,a7,a8,a9,a10,a11,a12] b=[a0,a1,a2,a3,a4,a5,a6,a7,a8,a9,a10,a11,a12]:=by cases b<;>rfl
def ZT3(a0 a1 a2 a3 a4 a5 a6 a7 a8 a9 a10 a11 a12 a13:AObj)(b:Bool):trimB 14 [a0,a1,a2,a3,a4,a5,a6,a7,a8,a9,a10,a11,a12,a13] b=[a0,a1,a2,a3,a4,a5,a6,a7,a8,a9,a10,a11,a12,a13]:=by cases b<;>rfl
attribute [go_sem] ZSZ ZT0 ZT1 ZT2 ZT3
def ZT4(v:AV)(rs:List Nat)(b:Nat)(o:AObj):wrB (some (v,rs,some (b,o)))=some b:=rfl
attribute [go_sem] ZT4
def ZOI{h:Hp}{aid b g sz bytes:Nat}{es ys:List AV}{bw ex fz:Bool}(hb:h[b]?=some (.row sz es))(hg:es.length=g)(hy:ys.isEmpty=false)(hf:ys.all (fits sz)=true)(h0:0<sz)(h1:0<bytes)(h2:(g+ys.length)*bytes<=140737488355328):
 Qt h aid fz sz bytes (.sl b g 0 g false) (.isl bw ex sz ys)=some (.sl b (g+ys.length) 0 (g+ys.length) false,b::Zs (.isl bw ex sz ys),some (b,.row sz<|es++ys)):=by
 subst hg;have ht:List.take es.length es=es:=ZXp<|ZX0 _;simp only[Qt,Q2,hb,cond_true,ZXO,ht,Qq,beq_self_eq_true,ZWY,h0,h1,h2,and_self,if_true,hy,cond_false,hf,ZX8]
abbrev slS(s:Sta):List AV:=[.sl 2 s.Fa.length 0 s.Fa.length false,.sl 3 s.Gm.length 0 s.Gm.length false,.sl 4 s.Bt.length 0 s.Bt.length false,.sl 5 s.Bc.length 0 s.Bc.length false,.sl 6 s.Nk.length 0 s.Nk.length false,.sl 7 s.Gc.length 0 s.Gc.length false,.sl 8 s.ba.length 0 s.ba.length false]
abbrev rH(x0 x1:AObj)(s:Sta):Hp:=[x0,x1,.row 6<|s.Fa.map Gk.enc,.row 5<|s.Gm.map By.enc,.row 4<|s.Bt.map Ev.enc,.row 16<|s.Bc.map Ga.enc,.row 6<|s.Nk.map be.enc,.row 2<|s.Gc.map bf.enc,.row 2<|s.ba.map bf.enc,.row 7 [.agg<|slS s]]
def hnA(n:HN):AV:=.agg [I n.N,.str n.bm,I n.Num,I n.Den]
def nwD(own:Int)(e:Gt)(id:Str)(n:HN)(p:Pt)(like:Ga):Ga:=⟨id,like.Ev,like.By,own,n,p,e.Day,-1,⟨false,[]⟩,0,0,emp⟩
def rnD(s:Sta)(d:Ga):Sta:={s with Bc:=s.Bc++[d]}
abbrev RTl(t:Hp):Prop:=t=[]\/∃x,t=[x]/\∀n,10<=n->Zj n x=true
def bR(n:Nat)(K:List Gk):Zd n (K.map Gk.enc)=true:=ZN _<|Zw (λt=>rfl) K
def bT(n:Nat)(K:List By):Zd n (K.map By.enc)=true:=ZN _<|Zw (λt=>rfl) K
def bB(n:Nat)(K:List Ev):Zd n (K.map Ev.enc)=true:=ZN _<|Zw (λt=>rfl) K
def bD(n:Nat)(K:List Ga):Zd n (K.map Ga.enc)=true:=ZN _<|Zw (λt=>rfl) K
def bU(n:Nat)(K:List be):Zd n (K.map be.enc)=true:=ZN _<|Zw (λt=>rfl) K
def bP(n:Nat)(K:List bf):Zd n (K.map bf.enc)=true:=ZN _<|Zw (λt=>rfl) K
def ZRa{n:Nat}:∀{l:List AV}{i:Nat}{v:AV},Zd n l=true->bel n v=true->Zd n (l.set i v)=true
 |[],_,_,_,_=>rfl
 |x::r,0,v,h,hv=>by
  rw[PA,ZWT]at h;rw[List.set_cons_zero,PA,hv,h.2];rfl
 |x::r,i+1,v,h,hv=>by
  rw[PA,ZWT]at h;rw[List.set_cons_succ,PA,h.1,ZRa h.2 hv];rfl
attribute [go_sem] bR bT bB bD bU bP ZRa
def ZQ9(x0 x1:AObj)(h0:∀n,Zj n x0=true)(h1:∀n,10<=n->Zj n x1=true)(t:Hp)(ht:RTl t)(s:Sta)(hs:s.Bc.length<=1000000)(own:Int)(e:Gt)(id:Str)(n:HN)(p:Pt)(like:Ga):
 fnV rE 149 [.ptr 9 0 0 1,I own,evA e,.str id,hnA n,.agg [I p.X,I p.Y],like.enc] (rH x0 x1 s++t)=some (.tup [],rH x0 x1 (rnD s<|nwD own e id n p like)++t):=by
 have hap:=λh aid(hb:h[5]?=_)=>ZOI (h:=h) (aid:=aid) (fz:=false) (b:=5) (g:=s.Bc.length) (sz:=16) (es:=s.Bc.map Ga.enc) (bw:=false) (ex:=false) (ys:=[(nwD own e id n p like).enc]) (bytes:=184) hb (by simp) rfl (by rfl) (by omega) (by omega) (by simp;omega)
 have hap2:=λh(hb:rowAt h 5 s.Bc.length=_)=>XC (h:=h) (fz:=false) (b:=5) (g:=s.Bc.length) (sz:=16) (es:=s.Bc.map Ga.enc) (bw:=false) (ex:=false) (ys:=[(nwD own e id n p like).enc]) (bytes:=184) hb rfl (by rfl) (by omega) (by omega) (by simp;omega)
 simp only[nwD,Ga.enc,NL.enc,ZX1]at hap hap2;rw[Q6 (f:=149) rfl rfl];rcases ht with rfl|⟨x9,rfl,b9⟩
 .have hap:=λaid=>hap (rH x0 x1 s) aid rfl
  have hap2:=hap2 (rH x0 x1 s)<|by simp[rowAt]
  simp only[go_sem,c149,h0,h1,hnA,nwD,rnD,Ga.enc,NL.enc,hap,hap2,ZX4,ZX3,ZX1,ZX7,ZXh,rH,slS,ZXe]
 .have hap:=λaid=>hap (rH x0 x1 s++[x9]) aid rfl
  have hap2:=hap2 (rH x0 x1 s++[x9])<|by simp[rowAt]
  simp only[rH,slS,ZXj,ZXm]at hap hap2;simp only[go_sem,c149,h0,h1,b9,hnA,nwD,rnD,Ga.enc,NL.enc,hap,hap2,ZX4,ZX3,ZX1,ZX7,ZXh,rH,slS,ZXj,ZXm]
def ZU(s:Str):Bool:=!decide ((s.size:Int)>100)
def Vv(bw ex:Bool)(l:List Str)(hl:l.length<9223372036854775807):pfn rE 92 [.isl bw ex 1<|l.map encS]=some (.bool<|l.all ZU):=by
 have L:=Uf (E:=rE) (live:=[0,3]) (b:=c92L0b) (h:=[]) l (λ_ x=>ZU x) (λi=>[(0,.isl bw ex 1<|l.map encS),(3,I i)]) 0 (λfr=>get fr 2=.bool false) (λi=>rfl)
  (λi x hx hP=>by
   have hg:=Z6 (f:=encS) hx;have hi:=Zh<|Z7 hx;have hw:=Zx (n:=i) (by have:=Z7 hx;omega)
   have hP':decide ((x.size:Int)>100)=false:=by simpa[ZU]using hP
   refine⟨_,by simp only[go_sem,c92L0b,hg,hi,hw,hP',encS];rfl,?_⟩
   simp only[go_sem])
  (λi x hx hP=>by
   have hg:=Z6 (f:=encS) hx;have hi:=Zh<|Z7 hx;have hP':decide ((x.size:Int)>100)=true:=by simpa[ZU]using hP
   refine⟨_,by simp only[go_sem,c92L0b,hg,hi,hP',encS];rfl,?_⟩
   simp only[go_sem])
  (⟨_,by simp only[go_sem,c92L0b,ZG];rfl⟩)
 rw[Z5 (f:=92) rfl rfl];rw[QE]at L;obtain⟨fr',h1,h2⟩:=L;have h1':Zg rE [0,3] c92L0b [(0,.isl bw ex 1<|l.map encS),(3,.int .i64 0)] []=_:=h1;cases hc:l.all ZU with
 |true=>rw[hc]at h1';simp only[go_sem,c92,c92L0,h1']
 |false=>
  rw[hc]at h1';have h2':=h2 hc;simp only[go_sem,c92,c92L0,h1',h2',ZX2]
def JK(a:Str):pfn rE 92 [.isl false false 1 [.str a]]=some (.bool<|[a].all ZU):=Vv false false [a]<|by simp
def HG(a b:Str):pfn rE 92 [.isl false false 1 [.str a,.str b]]=some (.bool<|[a,b].all ZU):=Vv false false [a,b]<|by simp
def FP(a b c:Str):pfn rE 92 [.isl false false 1 [.str a,.str b,.str c]]=some (.bool<|[a,b,c].all ZU):=Vv false false [a,b,c]<|by simp
def Z4y(a b c d:Str):pfn rE 92 [.isl false false 1 [.str a,.str b,.str c,.str d]]=some (.bool<|[a,b,c,d].all ZU):=Vv false false [a,b,c,d]<|by simp
def FQ(a b c d e:Str):pfn rE 92 [.isl false false 1 [.str a,.str b,.str c,.str d,.str e]]=some (.bool<|[a,b,c,d,e].all ZU):=Vv false false [a,b,c,d,e]<|by simp
def HH{α:Type}{l:List α}{n i:Nat}{x:α}(h:(l.take n)[i]?=some x):l[i]?=some x/\i<n:=by
 have hi:=Z7 h;rw[ZXL]at hi;rw[ZYu<|by omega]at h
 exact⟨h,by omega⟩
def FR{α:Type}(l:List α):(decide ((((l.take 10).length:Nat):Int)<(l.length:Int))=true->decide ((((l.take 10).length:Nat):Int)<10)=false):=by
 intro h;have:=of_decide_eq_true h;rw[ZXL]at*;exact decide_eq_false<|by omega
def M1(x:Nm):Bool:=[x.Lang,x.Text].all ZU
def XQ(l:List Nm):Bool:=(l.take 10).all M1&&decide ((l.length:Int)<=10)
def UQ(ex:Bool)(l:List Nm):pfn rE 93 [.isl false ex 3<|l.map Nm.enc]=some (.bool<|XQ l):=by
 have L:=QT (E:=rE) (live:=[0,3]) (b:=c93L0b) (h:=[]) (l.take 10) (λ_ x=>M1 x) (λi=>[(0,.isl false ex 3<|l.map Nm.enc),(3,I i)]) 0 (λfr=>get fr 0=.isl false ex 3 (l.map Nm.enc)/\get fr 2=.bot) (λfr=>get fr 2=.bool false) (λi=>rfl)
  (λi x hx hP=>by
   obtain⟨hx',hi10⟩:=HH hx;have hg:=Z6 (f:=Nm.enc) hx';have hi:=Zh<|Z7 hx';have hw:=Zx (n:=i)<|by omega
   have h10:decide ((i:Int)<10)=true:=decide_eq_true<|by omega
   have hS:=HG x.Lang x.Text;have hP':[x.Lang,x.Text].all ZU=true:=hP;rw[hP']at hS;refine⟨_,by simp only[go_sem,c93L0b,hg,hi,hw,h10,Nm.enc,hS];rfl,?_⟩
   simp only[go_sem])
  (λi x hx hP=>by
   obtain⟨hx',hi10⟩:=HH hx;have hg:=Z6 (f:=Nm.enc) hx';have hi:=Zh<|Z7 hx';have h10:decide ((i:Int)<10)=true:=decide_eq_true<|by omega
   have hS:=HG x.Lang x.Text;have hP':[x.Lang,x.Text].all ZU=false:=hP;rw[hP']at hS;refine⟨_,by simp only[go_sem,c93L0b,hg,hi,h10,Nm.enc,hS];rfl,?_⟩
   simp only[go_sem])
  (by
   cases c:decide ((((l.take 10).length:Nat):Int)<(l.length:Int))with
   |true=>
    have h10:=FR l c;exact⟨_,by simp only[go_sem,c93L0b,c,h10];rfl,by simp only[go_sem],by simp only[go_sem]⟩
   |false=>exact⟨_,by simp only[go_sem,c93L0b,c];rfl,by simp only[go_sem],by simp only[go_sem]⟩)
 rw[Z5 (f:=93) rfl rfl];rw[QE]at L;obtain⟨fr',h1,h3,h2⟩:=L;have h1':Zg rE [0,3] c93L0b [(0,.isl false ex 3<|l.map Nm.enc),(3,.int .i64 0)] []=_:=h1;unfold XQ;cases hc:(l.take 10).all M1 with
 |true=>
  rw[hc]at h1';obtain⟨q0,q2⟩:=h3 hc;simp only[go_sem,c93,c93L0,h1',q0,q2]
 |false=>
  rw[hc]at h1';have h2':=h2 hc;simp only[go_sem,c93,c93L0,h1',h2',ZX2]
def M2(x:Ent):Bool:=[x.Id,x.An.bm].all ZU
def FT(l:List Ent):Bool:=(l.take 10).all M2
abbrev evI(e:Gt):AV:=.iptr false [I e.bq,I e.Day,I e.A,I e.B,I e.bv,.str e.Id,.str e.br,.str e.Text,.isl false e.Ids.ex 1<|e.Ids.l.map encS,.isl false e.bk.ex 3<|e.bk.l.map Nm.enc,
 I e.An.N,.str e.An.bm,I e.An.Num,I e.An.Den,I e.bg.X,I e.bg.Y,.isl false e.Path.ex 2<|e.Path.l.map Pt.enc,.isl false e.Lst.ex 7<|e.Lst.l.map Ent.enc]
def Xn(e:Gt):Bool:=
 FT e.Lst.l&&([e.Id,e.br,e.Text,e.An.bm].all ZU&&(decide ((e.Ids.l.length:Int)<=10)&&(e.Ids.l.all ZU&&(XQ e.bk.l&&(decide ((e.Path.l.length:Int)<=12)&&decide ((e.Lst.l.length:Int)<=10))))))
def Z4z(e:Gt):pfn rE 31 [evA e]=some (.bool<|Xn e):=by
 have L:=QT (E:=rE) (live:=[1,3]) (b:=c31L0b) (h:=[]) (e.Lst.l.take 10) (λ_ x=>M2 x) (λi=>[(1,evI e),(3,I i)]) 0 (λfr=>get fr 1=evI e/\get fr 2=.bot) (λfr=>get fr 2=.bool false) (λi=>rfl)
  (λi x hx hP=>by
   obtain⟨hx',hi10⟩:=HH hx;have hg:=Z6 (f:=Ent.enc) hx';have hi:=Zh<|Z7 hx';have hw:=Zx (n:=i)<|by omega
   have h10:decide ((i:Int)<10)=true:=decide_eq_true<|by omega
   have hS:=HG x.Id x.An.bm;have hP':[x.Id,x.An.bm].all ZU=true:=hP;rw[hP']at hS;refine⟨_,by simp only[go_sem,c31L0b,hg,hi,hw,h10,Ent.enc,hS];rfl,?_⟩
   simp only[go_sem])
  (λi x hx hP=>by
   obtain⟨hx',hi10⟩:=HH hx;have hg:=Z6 (f:=Ent.enc) hx';have hi:=Zh<|Z7 hx';have h10:decide ((i:Int)<10)=true:=decide_eq_true<|by omega
   have hS:=HG x.Id x.An.bm;have hP':[x.Id,x.An.bm].all ZU=false:=hP;rw[hP']at hS;refine⟨_,by simp only[go_sem,c31L0b,hg,hi,h10,Ent.enc,hS];rfl,?_⟩
   simp only[go_sem])
  (by
   cases c:decide ((((e.Lst.l.take 10).length:Nat):Int)<(e.Lst.l.length:Int))with
   |true=>
    have h10:=FR e.Lst.l c;exact⟨_,by simp only[go_sem,c31L0b,c,h10];rfl,by simp only[go_sem],by simp only[go_sem]⟩
   |false=>exact⟨_,by simp only[go_sem,c31L0b,c];rfl,by simp only[go_sem],by simp only[go_sem]⟩)
 rw[Z5 (f:=31) rfl rfl];rw[QE]at L;obtain⟨fr',h1,h3,h2⟩:=L;have h1':Zg rE [1,3] c31L0b [(1,evI e),(3,.int .i64 0)] []=_:=h1;have hS:=Z4y e.Id e.br e.Text e.An.bm;have hN:=UQ e.bk.ex e.bk.l;unfold Xn FT;cases hc:(e.Lst.l.take 10).all M2 with
 |false=>
  rw[hc]at h1';have h2':=h2 hc;simp only[evI]at h1';simp only[go_sem,c31,c31L0,h1',h2',ZX2]
 |true=>
  rw[hc]at h1';obtain⟨q1,q2⟩:=h3 hc;simp only[evI]at h1' q1;cases c1:[e.Id,e.br,e.Text,e.An.bm].all ZU with
  |false=>rw[c1]at hS;simp only[go_sem,c31,c31L0,h1',q1,q2,hS]
  |true=>
  rw[c1]at hS;cases c2:decide ((e.Ids.l.length:Int)<=10)with
  |false=>simp only[go_sem,c31,c31L0,h1',q1,q2,hS,c2]
  |true=>
  have hI:=Vv false e.Ids.ex e.Ids.l (by have:=of_decide_eq_true c2;omega)
  cases c5003:e.Ids.l.all ZU with
  |false=>rw[c5003]at hI;simp only[go_sem,c31,c31L0,h1',q1,q2,hS,c2,hI]
  |true=>
  rw[c5003]at hI;cases c5004:XQ e.bk.l with
  |false=>rw[c5004]at hN;simp only[go_sem,c31,c31L0,h1',q1,q2,hS,c2,hI,hN]
  |true=>
  rw[c5004]at hN;cases c5005:decide ((e.Path.l.length:Int)<=12)with
  |false=>simp only[go_sem,c31,c31L0,h1',q1,q2,hS,c2,hI,hN,c5005]
  |true=>simp only[go_sem,c31,c31L0,h1',q1,q2,hS,c2,hI,hN,c5005]
def JL(e:Gt)(h:Xn e=true):EvS e:=by
 simp only[Xn,ZWT]at h;obtain⟨_,h1,h2,h3,h4,h5,h6⟩:=h;have k2:=of_decide_eq_true h2;have k5:=of_decide_eq_true h5;have k6:=of_decide_eq_true h6;have k4:(e.bk.l.length:Int)<=10:=by
  simp only[XQ,ZWT]at h4;exact of_decide_eq_true h4.2
 simp[ZU]at h1;exact⟨by omega,by omega,by omega,by omega,by omega,by omega,by omega⟩
def rnU(s:Sta)(l:List be):Sta:={s with Nk:=l}
def rnE(s:Sta)(l:List Ga):Sta:={s with Bc:=l}
def ZO4(b sz k:Nat){es:List AV}{n:Nat}(hn:es.length=n)(hk:k<n):iaP b n 0 sz (k:Int) n (some (sz,es))=some (.ptr b k 0 n):=by
 subst hn;rw[VT _ _ _ _ _ _ _<|by omega];simp
abbrev enF(k:Nat)(e:Gt)(a:NL Str)(i:Nat):Fr:=[(0,.ptr 9 0 0 1),(1,I k),(3,.isl false a.ex 1<|a.l.map encS),(6,evI e),(8,I i)]
def ZT5(x0 x1:AObj)(h0:∀n,Zj n x0=true)(h1:∀n,10<=n->Zj n x1=true)(t:Hp)(ht:RTl t)(s:Sta)(hu:s.Nk.length<=1000000)(e:Gt)(a:NL Str)(k:Nat)(d:Ga)(hd:s.Bc[k]?=some d):
 ∃fr',Zg rE [0,1,3,6,8] c153L0b (enF k e a 0) (rH x0 x1 s++t)=some (.exit 0,fr',rH x0 x1 (rnU s<|UH e d.Id a s.Nk)++t):=by
 have hgd:=Z6 (f:=Ga.enc) hd;have hid:=ZO4 5 16 k (es:=s.Bc.map Ga.enc) (n:=s.Bc.length) (by simp)<|Z7 hd
 have L:=Y8 (E:=rE) (live:=[0,1,3,6,8]) (b:=c153L0b) s.Nk.length (λi=>enF k e a i) (λi=>rH x0 x1 (rnU s<|Y3 (XO e d.Id a) s.Nk i)++t) (λi=>rfl)
  (λi hi=>by
   obtain⟨x,hx⟩:∃x,s.Nk[i]?=some x:=⟨_,ZX5 hi⟩;have hg:=Z6 (f:=be.enc)<|UI (XO e d.Id a) hx;have hi':=Zh hi;have hw:=Zx (n:=i)<|by omega
   have hl:=Z3S (XO e d.Id a) s.Nk i;have hia:=ZO4 6 6 i (es:=(Y3 (XO e d.Id a) s.Nk i).map be.enc) (n:=s.Nk.length) (by simp[hl]) hi
   refine⟨enF k e a<|i+1,?_,rfl⟩;cases c1:Z3 x.Ga d.Id with
   |false=>
    have hs:=Fy (XO e d.Id a) hx<|by unfold XO Z3P;rw[c1];rfl
    rw[hs];rcases ht with rfl|⟨x9,rfl,b9⟩
    .simp only[go_sem,c153L0b,rnU,rH,slS,hgd,hg,hid,hia,hi',hw,hl,Ga.enc,be.enc,NL.enc,c1,h0,h1,ZWQ,beq_self_eq_true,ZWU,ZXe]
    .simp only[go_sem,c153L0b,rnU,rH,slS,hgd,hg,hid,hia,hi',hw,hl,Ga.enc,be.enc,NL.enc,c1,h0,h1,b9,ZWQ,beq_self_eq_true,ZWU,ZXj,ZXm]
   |true=>
   cases c2:x.Ld != -1 with
   |true=>
    have hs:=Fy (XO e d.Id a) hx<|by unfold XO Z3P;rw[c1,c2];rfl
    rw[hs];rcases ht with rfl|⟨x9,rfl,b9⟩
    .simp only[go_sem,c153L0b,rnU,rH,slS,hgd,hg,hid,hia,hi',hw,hl,Ga.enc,be.enc,NL.enc,c1,c2,h0,h1,ZWQ,beq_self_eq_true,ZWU,ZXe]
    .simp only[go_sem,c153L0b,rnU,rH,slS,hgd,hg,hid,hia,hi',hw,hl,Ga.enc,be.enc,NL.enc,c1,c2,h0,h1,b9,ZWQ,beq_self_eq_true,ZWU,ZXj,ZXm]
   |false=>
   have hf:XO e d.Id a x=UG e a x:=by unfold XO Z3P;rw[c1,c2];rfl
   have hm:(Y3 (XO e d.Id a) s.Nk<|i+1).map be.enc=((Y3 (XO e d.Id a) s.Nk i).map be.enc).set i (UG e a x).enc:=by rw[Fx _ hx,hf,ZX6]
   have hl1:=Z3S (XO e d.Id a) s.Nk<|i+1;have hM:i<(Y3 (XO e d.Id a) s.Nk i).length:=by omega
   unfold UG at hm;generalize Y3 (XO e d.Id a) s.Nk i=M at*;generalize Y3 (XO e d.Id a) s.Nk (i+1)=M1 at*;have hs:∀v,((M.map be.enc).set i v)[i]?=some v:=λv=>by simp[hM]
   have hia2:=λv=>ZO4 6 6 i (es:=(M.map be.enc).set i v) (n:=s.Nk.length) (by simp[hl]) hi
   cases ha:a.l with
   |nil=>
    have dz:decide (((0:Nat):Int)>0)=false:=rfl;rw[ha]at hm;rcases ht with rfl|⟨x9,rfl,b9⟩
    .simp only[go_sem,c153L0b,rnU,rH,slS,hgd,hg,hid,hia,hia2,hs,hi',hw,hl,hl1,hm,ha,dz,enF,Ga.enc,be.enc,NL.enc,c1,c2,h0,h1,ZWQ,ZXc,ZXY,ZX1,ZXt,beq_self_eq_true,ZWU,ZXe]
    .simp only[go_sem,c153L0b,rnU,rH,slS,hgd,hg,hid,hia,hia2,hs,hi',hw,hl,hl1,hm,ha,dz,enF,Ga.enc,be.enc,NL.enc,c1,c2,h0,h1,b9,ZWQ,ZXc,ZXY,ZX1,ZXt,beq_self_eq_true,ZWU,ZXj,ZXm]
   |cons y r=>
    have dz:decide (((r.length+1:Nat):Int)>0)=true:=decide_eq_true<|by omega
    have hix:ixG (.str y::r.map encS) 0=some (.str y):=rfl;rw[ha]at hm;rcases ht with rfl|⟨x9,rfl,b9⟩
    .simp only[go_sem,c153L0b,rnU,rH,slS,hgd,hg,hid,hia,hia2,hs,hi',hw,hl,hl1,hm,ha,dz,hix,enF,encS,Ga.enc,be.enc,NL.enc,c1,c2,h0,h1,ZWQ,ZXc,ZXY,ZX3,ZXr,beq_self_eq_true,ZWU,ZXe]
    .simp only[go_sem,c153L0b,rnU,rH,slS,hgd,hg,hid,hia,hia2,hs,hi',hw,hl,hl1,hm,ha,dz,hix,enF,encS,Ga.enc,be.enc,NL.enc,c1,c2,h0,h1,b9,ZWQ,ZXc,ZXY,ZX3,ZXr,beq_self_eq_true,ZWU,ZXj,ZXm])
  (e:=.exit 0) (fr:=enF k e a s.Nk.length) (h:=rH x0 x1 (rnU s<|Y3 (XO e d.Id a) s.Nk s.Nk.length)++t) (by
   have hl:=Z3S (XO e d.Id a) s.Nk s.Nk.length;rcases ht with rfl|⟨x9,rfl,b9⟩
   .simp only[go_sem,c153L0b,rnU,rH,slS,ZG,hl,h0,h1,ZWQ,beq_self_eq_true,ZXe]
   .simp only[go_sem,c153L0b,rnU,rH,slS,ZG,hl,h0,h1,b9,ZWQ,beq_self_eq_true,ZXj,ZXm]) (by simp)
 simp only[Z3Q,Z3R]at L;exact⟨_,L⟩
def ZPy(x0 x1:AObj)(h0:∀n,Zj n x0=true)(h1:∀n,10<=n->Zj n x1=true)(t:Hp)(ht:RTl t)(w:Wk)(hu:w.s.Nk.length<=1000000)(a:NL Str)(k:Nat)(hk:k<w.s.Bc.length):
 fnV rE 153 [.ptr 9 0 0 1,I k,evA w.e,.isl false a.ex 1<|a.l.map encS] (rH x0 x1 w.s++t)=some (.tup [],rH x0 x1 (Qf w k a).s++t):=by
 obtain⟨d,hd⟩:∃x,w.s.Bc[k]?=some x:=⟨_,ZX5 hk⟩;have hg:=Z6 (f:=Ga.enc) hd;have hia:=ZO4 5 16 k (es:=w.s.Bc.map Ga.enc) (n:=w.s.Bc.length) (by simp) hk
 have hia2:=λv=>ZO4 5 16 k (es:=(w.s.Bc.map Ga.enc).set k v) (n:=w.s.Bc.length) (by simp) hk
 have hs:∀v,((w.s.Bc.map Ga.enc).set k v)[k]?=some v:=λv=>by simp[hk]
 have hw:(Qf w k a).s=rnU (rnE w.s<|w.s.Bc.set k<|UF w.e a d) (UH w.e d.Id a w.s.Nk):=by
  unfold Qf;rw[hd,YA hd];rfl
 obtain⟨fr',L⟩:=ZT5 x0 x1 h0 h1 t ht (rnE w.s<|w.s.Bc.set k<|UF w.e a d) hu w.e a k (UF w.e a d)<|by simp[rnE,hk]
 have L:Zg rE [0,1,3,6,8] c153L0b [(0,.ptr 9 0 0 1),(1,I k),(3,.isl false a.ex 1<|a.l.map encS),(6,evI w.e),(8,.int .i64 0)] _=_:=L;rw[hw];rw[Q6 (f:=153) rfl rfl];rcases ht with rfl|⟨x9,rfl,b9⟩
 .simp only[rnU,rnE,rH,slS,UF,Ga.enc,NL.enc,ZX6,ZXc,ZXe]at L;simp only[go_sem,c153,c153L0,rnU,rnE,rH,slS,hg,hia,hia2,hs,Ga.enc,NL.enc,UF,L,h0,h1,ZWQ,ZXc,ZXY,ZX6,beq_self_eq_true,ZXe]
 .simp only[rnU,rnE,rH,slS,UF,Ga.enc,NL.enc,ZX6,ZXc,ZXj,ZXm]at L;simp only[go_sem,c153,c153L0,rnU,rnE,rH,slS,hg,hia,hia2,hs,Ga.enc,NL.enc,UF,L,h0,h1,b9,ZWQ,ZXc,ZXY,ZX6,beq_self_eq_true,ZXj,ZXm]
def rOn(p:Pt):Bool:=decide (p.X>=0)&&(decide (p.X<=32767)&&(decide (p.Y>=0)&&decide (p.Y<=32767)))
def ZRb(p:Pt):rOn p=gOn p:=by
 unfold rOn gOn;rw[ZXq];simp only[ZWT,decide_eq_true_eq];omega
def ZO6(p:Pt):pfn rE 140 [.agg [I p.X,I p.Y]]=some (.bool<|gOn p):=by
 rw[<-ZRb,Z5 (f:=140) rfl rfl];unfold rOn;cases h1:decide (p.X>=0)with
 |false=>simp only[go_sem,c140,h1]
 |true=>
  cases h2:decide (p.X<=32767)with
  |false=>simp only[go_sem,c140,h1,h2]
  |true=>cases h3:decide (p.Y>=0)<;>simp only[go_sem,c140,h1,h2,h3]
def ZT6(bw ex:Bool)(l:List Pt)(hl:l.length<9223372036854775807):pfn rE 219 [.isl bw ex 2<|l.map Pt.enc]=some (.bool<|XD l):=by
 have L:=Uf (E:=rE) (live:=[0,3]) (b:=c219L0b) (h:=[]) l (λ_ x=>gOn x) (λi=>[(0,.isl bw ex 2<|l.map Pt.enc),(3,I i)]) 0 (λfr=>get fr 2=.bool false) (λi=>rfl)
  (λi x hx hP=>by
   have hg:=Z6 (f:=Pt.enc) hx;have hi:=Zh<|Z7 hx;have hw:=Zx (n:=i) (by have:=Z7 hx;omega)
   refine⟨_,by simp only[go_sem,c219L0b,hg,hi,hw,hP,Pt.enc,ZO6,ZWQ,ZWS];rfl,?_⟩
   simp only[go_sem])
  (λi x hx hP=>by
   have hg:=Z6 (f:=Pt.enc) hx;have hi:=Zh<|Z7 hx;refine⟨_,by simp only[go_sem,c219L0b,hg,hi,hP,Pt.enc,ZO6,ZWQ,ZWU];rfl,?_⟩
   simp only[go_sem])
  (⟨_,by simp only[go_sem,c219L0b,ZG,ZWQ];rfl⟩)
 rw[Z5 (f:=219) rfl rfl];rw[QE]at L;obtain⟨fr',h1,h2⟩:=L;have h1':Zg rE [0,3] c219L0b [(0,.isl bw ex 2<|l.map Pt.enc),(3,.int .i64 0)] []=_:=h1;unfold XD;cases hc:l.all gOn with
 |true=>rw[hc]at h1';simp only[go_sem,c219,c219L0,h1']
 |false=>
  rw[hc]at h1';have h2':=h2 hc;simp only[go_sem,c219,c219L0,h1',h2',ZX2]
def ZOJ(a b c:Pt):Int:=Uh (Yv a b)<|Yv a c
def ZPl(a b c:Pt):pfn rE 255 [.agg [I a.X,I a.Y],.agg [I b.X,I b.Y],.agg [I c.X,I c.Y]]=some (I<|ZOJ a b c):=by
 rw[Z5 (f:=255) rfl rfl];unfold ZOJ Uh Yv;simp only[go_sem,c255]
def ZT7(n:Int):pfn rE 254 [I n]=some (I<|sgn n):=by
 rw[Z5 (f:=254) rfl rfl];unfold sgn;cases h1:decide (n>0)<;>cases h2:decide (n<0)<;>simp only[go_sem,c254,h1,h2]
def ZOV(a b c:Pt):pfn rE 221 [.agg [I a.X,I a.Y],.agg [I b.X,I b.Y],.agg [I c.X,I c.Y]]=some (I<|Jd a b c):=by
 rw[Z5 (f:=221) rfl rfl];unfold Jd XD;rw[ZXz,ZXz,ZXz,ZYg,ZWW];have e:Ve (XE a b) c=sgn (ZOJ a b c):=rfl;rw[e];cases h1:gOn a with
 |false=>simp only[go_sem,c221,ZO6,h1]
 |true=>
  cases h2:gOn b with
  |false=>simp only[go_sem,c221,ZO6,h1,h2]
  |true=>cases h3:gOn c<;>simp only[go_sem,c221,ZO6,ZPl,ZT7,h1,h2,h3]
def ZPz(p a b:Pt):Bool:=
 bif (!gOn p||(!gOn a||!gOn b))||ZOJ a b p != 0 then false
 else decide (p.X>=min a.X b.X)&&(decide (p.X<=max a.X b.X)&&(decide (p.Y>=min a.Y b.Y)&&decide (p.Y<=max a.Y b.Y)))
def ZT8(p a b:Pt):pfn rE 256 [.agg [I p.X,I p.Y],.agg [I a.X,I a.Y],.agg [I b.X,I b.Y]]=some (.bool<|ZPz p a b):=by
 rw[Z5 (f:=256) rfl rfl];unfold ZPz;cases h1:gOn p with
 |false=>simp only[go_sem,c256,ZO6,h1,ZWU,ZWY]
 |true=>
  cases h2:gOn a with
  |false=>simp only[go_sem,c256,ZO6,h1,h2,ZWU,ZWS,ZWY,ZWZ]
  |true=>
   cases h3:gOn b with
   |false=>simp only[go_sem,c256,ZO6,h1,h2,h3,ZWU,ZWS,ZWY,ZWZ]
   |true=>
    cases h4:ZOJ a b p != 0 with
    |true=>simp only[go_sem,c256,ZO6,ZPl,h1,h2,h3,h4,ZWS,ZXa,ZWZ]
    |false=>
     cases h5:decide (p.X>=min a.X b.X)with
     |false=>simp only[go_sem,c256,ZO6,ZPl,h1,h2,h3,h4,h5,ZWS,ZWZ]
     |true=>
      cases h6:decide (p.X<=max a.X b.X)with
      |false=>simp only[go_sem,c256,ZO6,ZPl,h1,h2,h3,h4,h5,h6,ZWS,ZWZ]
      |true=>cases h7:decide (p.Y>=min a.Y b.Y)<;>simp only[go_sem,c256,ZO6,ZPl,h1,h2,h3,h4,h5,h6,h7,ZWS,ZWZ]
def ZRc{a b:Int}(h:a*b<=0):(a<=0/\0<=b)\/(b<=0/\0<=a):=by
 rcases ZZ1 a 0 with ha|ha|ha
 .rcases ZZ1 b 0 with hb|hb|hb
  .have:=Int.mul_pos_of_neg_of_neg ha hb;omega
  .omega
  .omega
 .omega
 .rcases ZZ1 b 0 with hb|hb|hb
  .omega
  .omega
  .have:=Int.mul_pos ha hb;omega
def ZRd{a b:Int}(h:(a<=0/\0<=b)\/(b<=0/\0<=a)):a*b<=0:=by
 rcases h with⟨h1,h2⟩|⟨h1,h2⟩
 .have:=Int.mul_le_mul_of_nonneg_right h1 h2;rwa[Int.zero_mul]at this
 .have:=Int.mul_le_mul_of_nonneg_left h1 h2;rwa[Int.mul_zero]at this
def ZT9{a:Int}:0<=a*a:=by
 rcases Int.le_total 0 a with h|h
 .exact Int.mul_nonneg h h
 .have:=Int.mul_nonneg (a:=-a) (b:=-a) (by omega) (by omega);rwa[Int.neg_mul_neg]at this
def ZPm{a b:Int}(h:a*b=0):a=0\/b=0:=Int.mul_eq_zero.1 h
def ZTa{ux uy vx vy:Int}(hc:ux*vy=uy*vx):((ux=0/\uy=0)\/(vx=0/\vy=0)\/ux*vx+uy*vy<0)↔((ux<=0/\0<=vx)\/(vx<=0/\0<=ux))/\((uy<=0/\0<=vy)\/(vy<=0/\0<=uy)):=by
 have hs:(ux*vx)*(uy*vy)=(ux*vy)*(ux*vy):=by
  rw[show(ux*vy)*(ux*vy)=(ux*vy)*(uy*vx)by rw[<-hc]]
  simp only[Int.mul_comm,Int.mul_left_comm,Int.mul_assoc]
 have h0:0<=(ux*vx)*(uy*vy):=by rw[hs];exact ZT9
 constructor
 .rintro(⟨rfl,rfl⟩|⟨rfl,rfl⟩|h)
  .omega
  .omega
  .have k1:ux*vx<=0:=by
    by_cases k:0<ux*vx
    .have:=Int.mul_neg_of_pos_of_neg k (show uy*vy<0 by omega);omega
    .omega
   have k2:uy*vy<=0:=by
    by_cases k:0<uy*vy
    .have:=Int.mul_neg_of_neg_of_pos (show ux*vx<0 by omega) k;omega
    .omega
   exact⟨ZRc k1,ZRc k2⟩
 .rintro⟨h1,h2⟩;have k1:=ZRd h1;have k2:=ZRd h2;by_cases hd:ux*vx+uy*vy<0
  .exact .inr<|.inr hd
  .have z1:ux*vx=0:=by omega
   have z2:uy*vy=0:=by omega
   rcases ZPm z1 with e|e
   .rcases ZPm z2 with f|f
    .exact .inl ⟨e,f⟩
    .subst e;subst f;rw[Int.zero_mul]at hc;rcases ZPm hc.symm with g|g
     .exact .inl ⟨rfl,g⟩
     .exact .inr<|.inl ⟨g,rfl⟩
   .subst e;rw[Int.mul_zero]at hc;rcases ZPm hc with g|g
    .rcases ZPm z2 with f|f
     .exact .inl ⟨g,f⟩
     .exact .inr<|.inl ⟨rfl,f⟩
    .exact .inr<|.inl ⟨rfl,g⟩
def ZOK{p:Pt}(h:gOn p=true):0<=p.X/\p.X<=32767/\0<=p.Y/\p.Y<=32767:=by
 rw[<-ZRb]at h;unfold rOn at h;simp only[ZWT,decide_eq_true_eq]at h;omega
def ZOL{n:Int}(h1:-9223372036854775808<=n)(h2:n<=9223372036854775807):W n=n:=YM h1 h2
def ZPA{a b:Int}(h1:-65536<=a)(h2:a<=65536)(h3:-65536<=b)(h4:b<=65536):-4294967296<=a*b/\a*b<=4294967296:=by
 have e:∀{x y:Int},0<=x->x<=65536->0<=y->y<=65536->0<=x*y/\x*y<=4294967296:=λh1 h2 h3 h4=>
  ⟨Int.mul_nonneg h1 h3,by have:=Int.mul_le_mul h2 h4 h3 (show(0:Int)<=65536 by decide);omega⟩
 rcases Int.le_total 0 a with ha|ha
 .rcases Int.le_total 0 b with hb|hb
  .have:=e ha h2 hb h4;omega
  .have:=e ha h2 (y:=-b) (by omega) (by omega);rw[Int.mul_neg]at this;omega
 .rcases Int.le_total 0 b with hb|hb
  .have:=e (x:=-a) (by omega) (by omega) hb h4;rw[Int.neg_mul]at this;omega
  .have:=e (x:=-a) (y:=-b) (by omega) (by omega) (by omega) (by omega);rw[Int.neg_mul_neg]at this;omega
def ZPB{a b:Pt}(ha:gOn a=true)(hb:gOn b=true):Yv a b=⟨b.X-a.X,b.Y-a.Y⟩:=by
 have:=ZOK ha;have:=ZOK hb;unfold Yv;rw[ZOL (by omega) (by omega),ZOL (by omega)<|by omega]
def ZTb{a b c:Pt}(ha:gOn a=true)(hb:gOn b=true)(hc:gOn c=true):ZOJ a b c=(b.X-a.X)*(c.Y-a.Y)-(b.Y-a.Y)*(c.X-a.X):=by
 have h1:=ZOK ha;have h2:=ZOK hb;have h3:=ZOK hc;unfold ZOJ Uh;rw[ZPB ha hb,ZPB ha hc];have k1:=ZPA (a:=b.X-a.X) (b:=c.Y-a.Y) (by omega) (by omega) (by omega)<|by omega
 have k2:=ZPA (a:=b.Y-a.Y) (b:=c.X-a.X) (by omega) (by omega) (by omega)<|by omega
 dsimp only;rw[ZOL (n:=(b.X-a.X)*(c.Y-a.Y)) (by omega) (by omega),ZOL (n:=(b.Y-a.Y)*(c.X-a.X)) (by omega) (by omega),ZOL (by omega)<|by omega]
def ZTc{p a b:Pt}(hp:gOn p=true)(ha:gOn a=true)(hb:gOn b=true):Nc (Yv p a) (Yv p b)=(a.X-p.X)*(b.X-p.X)+(a.Y-p.Y)*(b.Y-p.Y):=by
 have h1:=ZOK hp;have h2:=ZOK ha;have h3:=ZOK hb;unfold Nc;rw[ZPB hp ha,ZPB hp hb];have k1:=ZPA (a:=a.X-p.X) (b:=b.X-p.X) (by omega) (by omega) (by omega)<|by omega
 have k2:=ZPA (a:=a.Y-p.Y) (b:=b.Y-p.Y) (by omega) (by omega) (by omega)<|by omega
 dsimp only;rw[ZOL (n:=(a.X-p.X)*(b.X-p.X)) (by omega) (by omega),ZOL (n:=(a.Y-p.Y)*(b.Y-p.Y)) (by omega) (by omega),ZOL (by omega)<|by omega]
def ZTd(n:Int):(sgn n==0)=(n==0):=by
 unfold sgn;rw[ZXq];simp only[beq_iff_eq];rcases ZZ1 n 0 with h|h|h
 .rw[decide_eq_false (by omega),decide_eq_true h];simp;omega
 .subst h;simp
 .rw[decide_eq_true (show n>0 from h)];simp;omega
def ZTe(p a b:Pt):ZPz p a b=W7 p a b:=by
 unfold ZPz W7 XD;rw[ZXz,ZXz,ZXz,ZYg,ZWW];cases hp:gOn p with
 |false=>rfl
 |true=>
  cases ha:gOn a with
  |false=>rfl
  |true=>
   cases hb:gOn b with
   |false=>rfl
   |true=>
    have e:Ve (XE a b) p=sgn (ZOJ a b p):=rfl;rw[e,ZTd,ZTc hp ha hb,ZTb ha hb hp];have hc:(b.X-a.X)*(p.Y-a.Y)-(b.Y-a.Y)*(p.X-a.X)=(a.X-p.X)*(b.Y-p.Y)-(a.Y-p.Y)*(b.X-p.X):=by
     simp only[Int.sub_mul,Int.mul_sub,Int.mul_comm];omega
    rw[hc];have hk:=λh=>ZTa (ux:=a.X-p.X) (uy:=a.Y-p.Y) (vx:=b.X-p.X) (vy:=b.Y-p.Y) h
    generalize hu:a.X-p.X=ux at*;generalize hv:a.Y-p.Y=uy at*;generalize hw:b.X-p.X=vx at*;generalize hz:b.Y-p.Y=vy at*;simp only[ZWS,ZWZ,cond_true,ZX8];have e1:QK p a=(decide (ux=0)&&decide (uy=0)):=by
     unfold QK;rw[ZXq];simp only[ZWT,beq_iff_eq,decide_eq_true_eq];omega
    have e2:QK p b=(decide (vx=0)&&decide (vy=0)):=by
     unfold QK;rw[ZXq];simp only[ZWT,beq_iff_eq,decide_eq_true_eq];omega
    rw[e1,e2];by_cases h0:ux*vy-uy*vx=0
    .have hk':=hk (by omega)
     rw[show(ux*vy-uy*vx != 0)=false by rw[h0];rfl,show(ux*vy-uy*vx==0)=true by rw[h0];rfl,cond_false,cond_true]
     rw[ZXq];simp only[ZWT,decide_eq_true_eq,Bool.cond_eq_ite];constructor
     .intro h;rcases hk'.2 ⟨by omega,by omega⟩with k|k|k
      .rw[if_pos k]
      .rw[if_pos k];split<;>rfl
      .rw[decide_eq_true k];split<;>first|rfl|(split<;>rfl)
     .intro h;have:(ux=0/\uy=0)\/(vx=0/\vy=0)\/ux*vx+uy*vy<0:=by
       split at h
       .left;assumption
       .split at h
        .right;left;assumption
        .right;right;exact of_decide_eq_true h
      have:=hk'.1 this;omega
    .rw[show(ux*vy-uy*vx != 0)=true by simpa using h0,show(ux*vy-uy*vx==0)=false by simpa using h0,cond_true]
     have n1:(decide (ux=0)&&decide (uy=0))=false:=by
      rw[Bool.and_eq_false_iff];by_cases k:ux=0
      .right;rw[decide_eq_false_iff_not];intro k2;apply h0;rw[k,k2];simp
      .left;exact decide_eq_false k
     have n2:(decide (vx=0)&&decide (vy=0))=false:=by
      rw[Bool.and_eq_false_iff];by_cases k:vx=0
      .right;rw[decide_eq_false_iff_not];intro k2;apply h0;rw[k,k2];simp
      .left;exact decide_eq_false k
     rw[n1,n2];rfl
def ZPC(p a b:Pt):pfn rE 256 [.agg [I p.X,I p.Y],.agg [I a.X,I a.Y],.agg [I b.X,I b.Y]]=some (.bool<|W7 p a b):=by
 rw[ZT8,ZTe]
def ZRe(a b c d:Pt):pfn rE 222 [.agg [I a.X,I a.Y],.agg [I b.X,I b.Y],.agg [I c.X,I c.Y],.agg [I d.X,I d.Y]]=some (I<|Ui a b c d):=by
 have hb1:=ZPC a c d;have hb2:=ZPC b c d;have hb3:=ZPC c a b;have hb4:=ZPC d a b;have t1:=ZOV a b c;have t2:=ZOV a b d;have t3:=ZOV c d a;have t4:=ZOV c d b;rw[Z5 (f:=222) rfl rfl];unfold Ui;have ho:XD [a,b,c,d]=(gOn a&&(gOn b&&(gOn c&&gOn d))):=by unfold XD;simp
 rw[ho];cases h1:gOn a with
 |false=>simp only[go_sem,c222,ZO6,h1,ZWU,ZWV]
 |true=>
  cases h2:gOn b with
  |false=>simp only[go_sem,c222,ZO6,h1,h2,ZWU,ZWS,ZWV,ZWR]
  |true=>
   cases h3:gOn c with
   |false=>simp only[go_sem,c222,ZO6,h1,h2,h3,ZWU,ZWS,ZWV,ZWR]
   |true=>
    cases h4:gOn d with
    |false=>simp only[go_sem,c222,ZO6,h1,h2,h3,h4,ZWU,ZWS,ZWV,ZWR]
    |true=>
     have e1:Jd a b c=Ve (XE a b) c:=by unfold Jd XD;simp[h1,h2,h3]
     have e2:Jd a b d=Ve (XE a b) d:=by unfold Jd XD;simp[h1,h2,h4]
     have e3:Jd c d a=Ve (XE c d) a:=by unfold Jd XD;simp[h1,h3,h4]
     have e4:Jd c d b=Ve (XE c d) b:=by unfold Jd XD;simp[h2,h3,h4]
     rw[e1]at t1;rw[e2]at t2;rw[e3]at t3;rw[e4]at t4;unfold VV;cases k1:W7 a c d with
     |true=>simp only[go_sem,c222,ZO6,h1,h2,h3,h4,hb1,hb2,hb3,hb4,k1,ZWS,ZWR,ZWY]
     |false=>
      cases k2:W7 b c d with
      |true=>simp only[go_sem,c222,ZO6,h1,h2,h3,h4,hb1,hb2,hb3,hb4,k1,k2,ZWS,ZWR,ZWY,ZWZ]
      |false=>
       cases k3:W7 c a b with
       |true=>simp only[go_sem,c222,ZO6,h1,h2,h3,h4,hb1,hb2,hb3,hb4,k1,k2,k3,ZWS,ZWR,ZWY,ZWZ]
       |false=>
        cases k4:W7 d a b with
        |true=>simp only[go_sem,c222,ZO6,h1,h2,h3,h4,hb1,hb2,hb3,hb4,k1,k2,k3,k4,ZWS,ZWR,ZWY,ZWZ]
        |false=>
         cases k5:decide (W (Ve (XE a b) c*Ve (XE a b) d)<0)with
         |false=>simp only[go_sem,c222,ZO6,h1,h2,h3,h4,hb1,hb2,hb3,hb4,t1,t2,t3,t4,k1,k2,k3,k4,k5,ZWS,ZWR,ZWY,ZWZ]
         |true=>cases k6:decide (W (Ve (XE c d) a*Ve (XE c d) b)<0)<;>simp only[go_sem,c222,ZO6,h1,h2,h3,h4,hb1,hb2,hb3,hb4,t1,t2,t3,t4,k1,k2,k3,k4,k5,k6,ZWS,ZWR,ZWY,ZWZ]
def ZPD(bw ex:Bool)(l:List Pt)(hl:l.length<=1000000)(i:Nat)(hi:i<l.length):pfn rE 223 [.isl bw ex 2<|l.map Pt.enc,I i]=some (.agg [I (pAt l<|(i+1)%l.length).X,I (pAt l<|(i+1)%l.length).Y]):=by
 have h0:0<l.length:=by omega
 have hn:=nat_ne h0;have hg:=YN (l:=l)<|ZXX (i+1) h0;have hw:=Zx (n:=i)<|by omega
 rw[Z5 (f:=223) rfl rfl];simp only[go_sem,c223,hg,hw,hn,Jc,Pt.enc,ZWQ]
def ZTf(ex:Bool)(l:List Pt)(hl:l.length<=1000000):pfn rE 220 [.isl false ex 2<|l.map Pt.enc]=some (I<|GW l):=by
 have L:=Y8 (E:=rE) (live:=[0,3,4]) (b:=c220L0b) l.length (λi=>[(0,.isl false ex 2<|l.map Pt.enc),(3,I<|(List.range i).foldl (VW l) 0),(4,I i)]) (λ_=>[]) (λ_=>rfl)
  (λi hi=>by
   have hg:=YN (l:=l) hi;have hx:=ZPD false ex l hl i hi;have hlt:=Zh hi;have hw:=Zx (n:=i)<|by omega
   rw[List.range_succ,ZZj,ZYe,List.foldl_nil];generalize(List.range i).foldl (VW l) 0=n;have hs:VW l n i=W (n+W (W ((pAt l i).X*(pAt l<|(i+1)%l.length).Y)-W ((pAt l<|(i+1)%l.length).X*(pAt l i).Y))):=rfl;rw[hs];refine⟨_,by simp only[go_sem,c220L0b,hg,hx,hlt,hw,Pt.enc,ZWQ];rfl,?_⟩
   simp only[go_sem])
  (e:=.exit 0) (fr:=[(0,.isl false ex 2<|l.map Pt.enc),(3,I<|GW l),(4,I l.length)]) (h:=[]) (by
   have hlt:=ZG l.length;show Zb rE c220L0b [(0,.isl false ex 2<|l.map Pt.enc),(3,I<|GW l),(4,I l.length)] []=_
   simp only[go_sem,c220L0b,hlt,ZWQ]) (by simp)
 have L':Zg rE [0,3,4] c220L0b [(0,.isl false ex 2<|l.map Pt.enc),(3,.int .i64 0),(4,.int .i64 0)] []=_:=L;rw[Z5 (f:=220) rfl rfl];simp only[go_sem,c220,c220L0,L']
def rCk(l:List Pt)(i k:Nat):Bool:=!(((((k+1)%l.length:Nat):Int) != (i:Int))&&(Ui (pAt l i) (pAt l<|(i+1)%l.length) (pAt l k) (pAt l<|(k+1)%l.length) != 0))
def rIn(l:List Pt)(i:Nat):Bool:=(List.range' (i+2)<|l.length-(i+2)).all (rCk l i)
def ZRf(a b c d:Pt):decide (Ui a b c d>0)=(Ui a b c d != 0):=by
 unfold Ui;cases XD [a,b,c,d]with
 |false=>rfl
 |true=>
  cases W7 a c d||W7 b c d||W7 c a b||W7 d a b with
  |true=>rfl
  |false=>cases VV (XE a b) c d&&VV (XE c d) a b<;>rfl
def ZRg(l:List Pt)(h3:3<=l.length)(i:Nat)(hi:i<l.length):rIn l i=Jg l i:=by
 unfold rIn Jg;rw[ZXq,ZXl,ZXl];have key:∀k,i+2<=k->k<l.length->((k+1)%l.length=i↔¬k<Xb l i):=by
  intro k h1 h2;unfold Xb;by_cases hk:k+1=l.length
  .rw[hk,Nat.mod_self];omega
  .rw[Nat.mod_eq_of_lt<|by omega];omega
 constructor
 .intro h k hk;rw[ZZ2]at hk;have hm:Xb l i<=l.length:=Nat.min_le_left _ _;have h1:=h k (by rw[ZZ2];omega)
  have h2:¬(k+1)%l.length=i:=λe=>((key k (by omega)<|by omega).1 e) (by omega)
  unfold rCk at h1;unfold GX;rw[ZRf];have h3:((((k+1)%l.length:Nat):Int) != (i:Int))=true:=by rw[bne_iff_ne];omega
  rw[h3,ZWR]at h1;exact h1
 .intro h k hk;rw[ZZ2]at hk;unfold rCk;by_cases h2:(k+1)%l.length=i
  .have h3:((((k+1)%l.length:Nat):Int) != (i:Int))=false:=by rw[bne_eq_false_iff_eq];omega
   rw[h3];rfl
  .have h4:k<Xb l i:=Decidable.byContradiction λe=>h2 ((key k (by omega)<|by omega).2 e)
   have h1:=h k<|by rw[ZZ2];omega
   unfold GX at h1;rw[ZRf]at h1;rw[ZXn]at h1⊢;rw[h1,ZWX]
def ZRh(l:List Pt)(ex:Bool)(hl:l.length<=1000000)(i:Nat)(hi:i<l.length):
 ∃fr',Zg rE [0,3,4,5] c135L0b [(0,.isl false ex 2<|l.map Pt.enc),(3,I l.length),(4,I i),(5,I (i+2:Nat))] []=some (if rIn l i=true then .exit 2 else .ret,fr',[])/\(rIn l i=true->(get fr' 2=.bot/\get fr' 0=.isl false ex 2 (l.map Pt.enc)/\get fr' 3=I l.length/\get fr' 4=I i))/\(rIn l i=false->get fr' 2=.bool false):=by
 have h0:0<l.length:=by omega
 have hn:=nat_ne h0;have hgi:=YN (l:=l) hi;have hxi:=ZPD false ex l hl i hi;have L:=QT (E:=rE) (live:=[0,3,4,5]) (b:=c135L0b) (h:=[])
  (List.range' (i+2)<|l.length-(i+2)) (λ_ k=>rCk l i k) (λj=>[(0,.isl false ex 2<|l.map Pt.enc),(3,I l.length),(4,I i),(5,I (i+2+j:Nat))]) 2 (λfr=>get fr 2=.bot/\get fr 0=.isl false ex 2 (l.map Pt.enc)/\get fr 3=I l.length/\get fr 4=I i) (λfr=>get fr 2=.bool false) (λj=>rfl)
  (λj k hk hP=>by
   obtain⟨rfl,hj⟩:=Dt hk;have hk':i+2+j<l.length:=by omega
   have hg:=YN (l:=l) (i:=i+2+j)<|by omega
   have hx:=ZPD false ex l hl (i+2+j) hk';have hlt:=Zh hk';have hw:=Zx (n:=i+2+j)<|by omega
   have ea:i+2+(j+1)=i+2+j+1:=by omega
   rw[ea];unfold rCk at hP;generalize i+2+j=k at*;cases c1:((((k+1)%l.length:Nat):Int) != (i:Int))with
   |false=>
    refine⟨_,by simp only[go_sem,c135L0b,hlt,hw,hn,Jc,c1];rfl,?_⟩
    simp only[go_sem]
   |true=>
    rw[c1,ZWR,ZXn]at hP;refine⟨_,by simp only[go_sem,c135L0b,hlt,hw,hn,Jc,c1,hg,hgi,hx,hxi,Pt.enc,ZRe,hP];rfl,?_⟩
    simp only[go_sem])
  (λj k hk hP=>by
   obtain⟨rfl,hj⟩:=Dt hk;have hk':i+2+j<l.length:=by omega
   have hg:=YN (l:=l) (i:=i+2+j)<|by omega
   have hx:=ZPD false ex l hl (i+2+j) hk';have hlt:=Zh hk';have hw:=Zx (n:=i+2+j)<|by omega
   unfold rCk at hP;generalize i+2+j=k at*;rw[ZYb,ZWT]at hP;obtain⟨c1,c2⟩:=hP;refine⟨_,by simp only[go_sem,c135L0b,hlt,hw,hn,Jc,c1,c2,hg,hgi,hx,hxi,Pt.enc,ZRe];rfl,?_⟩
   simp only[go_sem])
  (by
   have hlt:decide (((i+2+(List.range' (i+2)<|l.length-(i+2)).length:Nat):Int)<(l.length:Int))=false:=by simp;omega
   generalize i+2+(List.range' (i+2)<|l.length-(i+2)).length=k at*;exact⟨_,by simp only[go_sem,c135L0b,hlt];rfl,by refine⟨?_,?_,?_,?_⟩<;>simp only[go_sem]⟩)
 rw[QE]at L;exact L
def ZTg(l:List Pt)(ex:Bool)(hl:l.length<=1000000)(hl3:3<=l.length):∃fr',Zg rE [0,3,4] c135L1b [(0,.isl false ex 2<|l.map Pt.enc),(3,I l.length),(4,.int .i64 0)] []=some (if Ni l=true then .exit 0 else .ret,fr',[])/\(Ni l=false->get fr' 2=.bool false):=by
 have L:=Uf (E:=rE) (live:=[0,3,4]) (b:=c135L1b) (h:=[]) (List.range l.length) (λ_ i=>Uk l i) (λi=>[(0,.isl false ex 2<|l.map Pt.enc),(3,I l.length),(4,I i)]) 0 (λfr=>get fr 2=.bool false) (λi=>rfl)
  (λi x hx hP=>by
   obtain⟨rfl,hi⟩:=Ds hx;have h0:0<l.length:=by omega
   have hn:=nat_ne h0;have hg:=YN hi;have hg1:=YN (l:=l)<|ZXX (x+1) h0;have hg2:=YN (l:=l)<|ZXX (x+2) h0;have hi':=Zh hi;have hw:=Zx (n:=x)<|by omega
   have hw2:IntKind.i64.wrap ((x:Int)+2)=((x+2:Nat):Int):=by rw[YM (by omega)<|by omega];omega
   have hP':Nh l x=false/\Jg l x=true:=by simpa[Uk]using hP
   have hT:(Jd (pAt l x) (pAt l<|(x+1)%l.length) (pAt l<|(x+2)%l.length)==0)=false:=hP'.1;obtain⟨fr',h1,h2,_⟩:=ZRh l ex hl x hi;rw[<-ZRg l hl3 x hi]at hP';rw[if_pos hP'.2]at h1;obtain⟨g2,g0,g3,g4⟩:=h2 hP'.2;refine⟨_,by simp only[go_sem,c135L1b,c135L0,hg,hg1,hg2,hi',hw,hw2,hn,Jc,Pt.enc,ZOV,hT,h1,g0,g2,g3,g4];rfl,?_⟩
   simp only[go_sem])
  (λi x hx hP=>by
   obtain⟨rfl,hi⟩:=Ds hx;have h0:0<l.length:=by omega
   have hn:=nat_ne h0;have hg:=YN hi;have hg1:=YN (l:=l)<|ZXX (x+1) h0;have hg2:=YN (l:=l)<|ZXX (x+2) h0;have hi':=Zh hi;have hw:=Zx (n:=x)<|by omega
   have hw2:IntKind.i64.wrap ((x:Int)+2)=((x+2:Nat):Int):=by rw[YM (by omega)<|by omega];omega
   cases hT':Nh l x with
   |true=>
    have hT:(Jd (pAt l x) (pAt l<|(x+1)%l.length) (pAt l<|(x+2)%l.length)==0)=true:=hT';refine⟨_,by simp only[go_sem,c135L1b,c135L0,hg,hg1,hg2,hi',hw,hw2,hn,Jc,Pt.enc,ZOV,hT];rfl,?_⟩
    simp only[go_sem]
   |false=>
    have hT:(Jd (pAt l x) (pAt l<|(x+1)%l.length) (pAt l<|(x+2)%l.length)==0)=false:=hT';have hI:rIn l x=false:=by rw[ZRg l hl3 x hi];simpa[Uk,hT']using hP
    obtain⟨fr',h1,_,h2⟩:=ZRh l ex hl x hi;rw[hI]at h1;have g2:=h2 hI;refine⟨_,by simp only[go_sem,c135L1b,c135L0,hg,hg1,hg2,hi',hw,hw2,hn,Jc,Pt.enc,ZOV,hT,h1,g2,ZX2];rfl,?_⟩
    simp only[go_sem])
  (⟨_,by simp only[go_sem,c135L1b,ZZ0,ZG];rfl⟩)
 rw[QE]at L;exact L
def ZRi(l:List Pt)(ex:Bool)(hl:l.length<=1000000):pfn rE 135 [.isl false ex 2<|l.map Pt.enc]=some (.bool<|Vh l):=by
 have hA:=ZT6 false ex l<|by omega
 have hS:=ZTf ex l hl;have eo:l.any Jf = !XD l:=by
  unfold XD Jf;rw[<-List.not_all_eq_any_not]
 unfold Vh;rw[eo];have e3:decide ((l.length:Int)>=3) = !decide ((l.length:Int)<3):=by rw[ZXq];simp
 have e4:decide ((l.length:Int)<=40) = !decide ((l.length:Int)>40):=by rw[ZXq];simp
 have e5:decide (GW l>0) = !decide (GW l<=0):=by rw[ZXq];simp
 rw[e3,e4,e5];rw[Z5 (f:=135) rfl rfl];cases h1:decide ((l.length:Int)<3)with
 |true=>simp only[go_sem,c135,h1,ZWQ,ZWS,ZWV]
 |false=>
  cases h2:decide ((l.length:Int)>40)with
  |true=>simp only[go_sem,c135,h1,h2,ZWQ,ZWS,ZWU,ZWV,ZWR]
  |false=>
   cases h3:XD l with
   |false=>rw[h3]at hA;simp only[go_sem,c135,h1,h2,hA,ZWQ,ZWS,ZWU,ZWV,ZWR]
   |true=>
    rw[h3]at hA;cases h4:decide (GW l<=0)with
    |true=>simp only[go_sem,c135,h1,h2,hA,hS,h4,ZWQ,ZWS,ZWU,ZWV,ZWR]
    |false=>
     have hl3:3<=l.length:=by have:=of_decide_eq_false h1;omega
     obtain⟨fr',L,hf⟩:=ZTg l ex hl hl3;cases h5:Ni l with
     |true=>rw[h5]at L;simp only[go_sem,c135,c135L1,h1,h2,hA,hS,h4,L,ZWQ,ZWS,ZWU,ZWW]
     |false=>rw[h5]at L;simp only[go_sem,c135,c135L1,h1,h2,hA,hS,h4,L,hf h5,ZWQ,ZWS,ZWU,ZWW,ZX2]
def ZTh(l:List Pt)(ex:Bool)(hl:l.length<=1000000):pfn rE 136 [.isl false ex 2<|l.map Pt.enc]=some (.bool<|Ul l):=by
 have L:=QT (E:=rE) (live:=[0,3]) (b:=c136L0b) (h:=[]) l (VX l) (λi=>[(0,.isl false ex 2<|l.map Pt.enc),(3,I i)]) 0 (λ_=>True) (λfr=>get fr 2=.bool false) (λi=>rfl)
  (λi x hx hP=>by
   have hg:=Z6 (f:=Pt.enc) hx;have hi:=Zh<|Z7 hx;have hw:=Zx (n:=i) (by have:=Z7 hx;omega)
   have hP1:gOn x=true:=by simp only[VX,ZWT]at hP;exact hP.1
   rcases i with _|j
   .have h0:decide (((0:Nat):Int)>0)=false:=rfl;refine⟨_,by simp only[go_sem,c136L0b,hg,hi,hw,Pt.enc,ZO6,hP1,h0,ZWQ,ZWS];rfl,?_⟩
    simp only[go_sem]
   .have h0:decide (((j+1:Nat):Int)>0)=true:=decide_eq_true (by omega)
    have hs:IntKind.i64.wrap (((j+1:Nat):Int)-1)=((j:Nat):Int):=by rw[YM (by omega) (by have:=Z7 hx;omega)];omega
    have hg1:=YN (l:=l) (i:=j) (by have:=Z7 hx;omega)
    have hP2:(x.X==(pAt l j).X&&x.Y==(pAt l j).Y)=false:=by
     have:VX l (j+1) x=(gOn x&&!(decide (((j+1:Nat):Int)>0)&&QK x (pAt l j))):=rfl;rw[this,hP1,h0]at hP;simp only[ZWR,ZXn]at hP;exact hP
    refine⟨_,by simp only[go_sem,c136L0b,hg,hg1,hi,hw,hs,Pt.enc,ZO6,hP1,h0,hP2,ZWQ,ZWS];rfl,?_⟩
    simp only[go_sem])
  (λi x hx hP=>by
   have hg:=Z6 (f:=Pt.enc) hx;have hi:=Zh<|Z7 hx;cases hP1:gOn x with
   |false=>
    refine⟨_,by simp only[go_sem,c136L0b,hg,hi,Pt.enc,ZO6,hP1,ZWQ,ZWU];rfl,?_⟩
    simp only[go_sem]
   |true=>
    rcases i with _|j
    .simp[VX,hP1]at hP
    .have h0:decide (((j+1:Nat):Int)>0)=true:=decide_eq_true (by omega)
     have hs:IntKind.i64.wrap (((j+1:Nat):Int)-1)=((j:Nat):Int):=by rw[YM (by omega) (by have:=Z7 hx;omega)];omega
     have hg1:=YN (l:=l) (i:=j) (by have:=Z7 hx;omega)
     have hP2:(x.X==(pAt l j).X&&x.Y==(pAt l j).Y)=true:=by
      have:VX l (j+1) x=(gOn x&&!(decide (((j+1:Nat):Int)>0)&&QK x (pAt l j))):=rfl;rw[this,hP1,h0]at hP;simp only[ZWR,ZYb]at hP;exact hP
     refine⟨_,by simp only[go_sem,c136L0b,hg,hg1,hi,hs,Pt.enc,ZO6,hP1,h0,hP2,ZWQ,ZWS];rfl,?_⟩
     simp only[go_sem])
  (⟨_,by simp only[go_sem,c136L0b,ZG,ZWQ];rfl,trivial⟩)
 obtain⟨fr',h1,h2,h3⟩:=L;have h1':Zg rE [0,3] c136L0b [(0,.isl false ex 2<|l.map Pt.enc),(3,.int .i64 0)] []=_:=h1;rw[Z5 (f:=136) rfl rfl];unfold Ul;have e3:decide ((l.length:Int)>=2) = !decide ((l.length:Int)<2):=by rw[ZXq];simp
 have e4:decide ((l.length:Int)<=40) = !decide ((l.length:Int)>40):=by rw[ZXq];simp
 rw[e3,e4];cases c1:decide ((l.length:Int)<2)with
 |true=>simp only[go_sem,c136,c1,ZWQ,ZWS,ZWV,ZWX]
 |false=>
  cases c2:decide ((l.length:Int)>40)with
  |true=>simp only[go_sem,c136,c1,c2,ZWQ,ZWS,ZWU,ZWX]
  |false=>
   cases hc:Zu (VX l) 0 l with
   |true=>rw[hc]at h1';simp only[go_sem,c136,c136L0,h1',c1,c2,ZWQ,ZWU,ZWW]
   |false=>rw[hc]at h1';simp only[go_sem,c136,c136L0,h1',h3 hc,c1,c2,ZWQ,ZWU,ZWW,ZX2]
def nb0(n:Nat):(((n:Nat):Int)==0)=(n==0):=by rw[ZXq,beq_iff_eq,beq_iff_eq];omega
def cmN(a b:Nat)(d:Nat):Bool:=!(a%d==0&&b%d==0)
def cmT(a b:Nat):Bool:=!(List.range' 2<|a-1).all (cmN a b)
def ZTi(a b:Nat)(ha:1<=a)(ha2:a<=9)(hb:b<=9):pfn rE 225 [I a,I b]=some (.bool<|cmT a b):=by
 have L:=Uf (E:=rE) (live:=[0,1,5]) (b:=c225L0b) (h:=[]) (List.range' 2<|a-1) (λ_ d=>cmN a b d) (λj=>[(0,I a),(1,I b),(5,I (2+j:Nat))]) 0 (λfr=>get fr 4=.bool true) (λi=>rfl)
  (λj d hd hP=>by
   obtain⟨rfl,hj⟩:=Dt hd;have hle:decide (((2+j:Nat):Int)<=(a:Int))=true:=decide_eq_true<|by omega
   have hn:=nat_ne (n:=2+j)<|by omega
   have hw:=Zx (n:=2+j)<|by omega
   have ea:2+(j+1)=2+j+1:=by omega
   rw[ea];unfold cmN at hP;have e1:(((a%(2+j):Nat):Int)==0)=(a%(2+j)==0):=nb0 _;have e2:(((b%(2+j):Nat):Int)==0)=(b%(2+j)==0):=nb0 _;rw[<-e1,<-e2]at hP;generalize 2+j=k at*;cases c1:(((a%k:Nat):Int)==0)with
   |false=>
    refine⟨_,by simp only[go_sem,c225L0b,hle,hn,hw,Jc,c1];rfl,?_⟩
    simp only[go_sem]
   |true=>
    rw[c1,ZWR,ZXn]at hP;refine⟨_,by simp only[go_sem,c225L0b,hle,hn,hw,Jc,c1,hP];rfl,?_⟩
    simp only[go_sem])
  (λj d hd hP=>by
   obtain⟨rfl,hj⟩:=Dt hd;have hle:decide (((2+j:Nat):Int)<=(a:Int))=true:=decide_eq_true<|by omega
   have hn:=nat_ne (n:=2+j)<|by omega
   unfold cmN at hP;have e1:(((a%(2+j):Nat):Int)==0)=(a%(2+j)==0):=nb0 _;have e2:(((b%(2+j):Nat):Int)==0)=(b%(2+j)==0):=nb0 _;rw[<-e1,<-e2]at hP;generalize 2+j=k at*;rw[ZYb,ZWT]at hP;refine⟨_,by simp only[go_sem,c225L0b,hle,hn,Jc,hP.1,hP.2];rfl,?_⟩
   simp only[go_sem])
  (by
   have hle:decide (((2+(List.range' 2<|a-1).length:Nat):Int)<=(a:Int))=false:=by simp;omega
   generalize 2+(List.range' 2<|a-1).length=k at*;exact⟨_,by simp only[go_sem,c225L0b,hle];rfl⟩)
 rw[QE]at L;obtain⟨fr',h1,h2⟩:=L;have h1':Zg rE [0,1,5] c225L0b [(0,I a),(1,I b),(5,.int .i64 2)] []=_:=h1;rw[Z5 (f:=225) rfl rfl];unfold cmT;cases hc:(List.range' 2<|a-1).all (cmN a b)with
 |true=>rw[hc]at h1';simp only[go_sem,c225,c225L0,h1',ZWS]
 |false=>rw[hc]at h1';simp only[go_sem,c225,c225L0,h1',h2 hc,ZWU,ZX2]
def rFr(a b:Int):Bool:=bif (a==0&&b==0)then true else decide (a>=1)&&(decide (a<b)&&(decide (b<=9)&&!cmT a.toNat b.toNat))
def ZTj{a b:Int}(h:decide (Nl a b>=0)=true):∃x∈Vi,x.a=a/\x.b=b:=by
 unfold Nl at h;rcases UA (λp:bf=>p.a==a&&p.b==b) Vi 0 with⟨h1,_⟩|⟨j,x,_,h2,h3⟩
 .rw[h1]at h;cases h
 .have h4:=ZYD h3;rw[ZWT]at h4;exact⟨x,ZYM h3,eq_of_beq h4.1,eq_of_beq h4.2⟩
def ZTk:∀x∈Vi,0<=x.a/\x.a<=9/\0<=x.b/\x.b<=9:=by decide
def ZTl:∀a b:Fin 10,rFr ((a.val:Nat):Int) ((b.val:Nat):Int)=decide (Nl ((a.val:Nat):Int) ((b.val:Nat):Int)>=0):=by decide +kernel
def ZTm(a b:Int):rFr a b=decide (Nl a b>=0):=by
 by_cases h:0<=a/\a<=9/\0<=b/\b<=9
 .have:=ZTl ⟨a.toNat,by omega⟩ ⟨b.toNat,by omega⟩
  dsimp only at this
  rwa[ZZ3 h.1,ZZ3 h.2.2.1]at this
 .have h1:decide (Nl a b>=0)=false:=by
   cases c:decide (Nl a b>=0)with
   |false=>rfl
   |true=>
    obtain⟨x,h1,rfl,rfl⟩:=ZTj c;have:=ZTk x h1;omega
  rw[h1];unfold rFr;cases c0:(a==0&&b==0)with
  |true=>
   rw[ZWT,beq_iff_eq,beq_iff_eq]at c0;omega
  |false=>
   rw[cond_false];cases c1:decide (a>=1)with
   |false=>rfl
   |true=>
    cases c2:decide (a<b)with
    |false=>rfl
    |true=>
     cases c3:decide (b<=9)with
     |false=>rfl
     |true=>
      have:=of_decide_eq_true c1;have:=of_decide_eq_true c2;have:=of_decide_eq_true c3;omega
def ZQa(s:Str):Bool:=!(decide ((s.size:Int)>1)||(!Z3 s emp&&(WW s (B [97])||!(WW s (B [122])||Z3 s (B [122])))))
def ZTn(s:Str):ZQa s=letterT s:=by
 obtain⟨⟨l⟩⟩:=s;unfold ZQa letterT;rcases l with _|⟨b,_|⟨c,r⟩⟩
 .rfl
 .have h1:(ByteArray.size ⟨⟨[b]⟩⟩:Nat)=1:=rfl;have h2:Z3 ⟨⟨[b]⟩⟩ emp=false:=by
   rw[ZY5];intro h;have:=(Ky _ _).1 h;cases this
  have h3:Vj ⟨⟨[b]⟩⟩ 0=(b.toNat:Int):=rfl;have h4:WW ⟨⟨[b]⟩⟩ (B [97])=decide (b<97):=by
   show(decide (b<97)||(b==97&&false))=_
   rw[ZWX,ZX9]
  have h5:(WW ⟨⟨[b]⟩⟩ (B [122])||Z3 ⟨⟨[b]⟩⟩ (B [122]))=decide (b<=122):=by
   have e1:WW ⟨⟨[b]⟩⟩ (B [122])=decide (b<122):=by
    show(decide (b<122)||(b==122&&false))=_
    rw[ZWX,ZX9]
   have e2:Z3 ⟨⟨[b]⟩⟩ (B [122])=(b==122):=by
    rw[ZXq,Ky,beq_iff_eq];constructor
    .intro h;have:([b]:List UInt8)=[122]:=congrArg (λs:Str=>s.data.toList) h
     exact(List.cons.inj this).1
    .rintro rfl;rfl
   rw[e1,e2,ZXq];simp only[ZYy,decide_eq_true_eq,beq_iff_eq];rw[UInt8.lt_iff_toNat_lt,UInt8.le_iff_toNat_le,<-UInt8.toNat_inj];have:(122:UInt8).toNat=122:=rfl;omega
  rw[h1,h2,h3,h4,h5];rw[ZXq];have e97:(97:UInt8).toNat=97:=rfl;have e122:(122:UInt8).toNat=122:=rfl;simp[UInt8.lt_iff_toNat_lt,UInt8.le_iff_toNat_le,e97,e122]
  try omega
 .have h1:(ByteArray.size ⟨⟨b::c::r⟩⟩:Nat)=r.length+2:=rfl;have h2:Z3 ⟨⟨b::c::r⟩⟩ emp=false:=by
   rw[ZY5];intro h;have:=(Ky _ _).1 h;cases this
  rw[h1,h2,decide_eq_true<|by omega]
  have h3:(((r.length+2:Nat):Int)==1)=false:=by rw[beq_eq_false_iff_ne];omega
  rw[h3];rfl
def ZRj{a b:Int}(h1:a>=1)(h2:a<b)(h3:b<=9):pfn rE 225 [I a,I b]=some (.bool<|cmT a.toNat b.toNat):=by
 have:=ZTi a.toNat b.toNat (by omega) (by omega)<|by omega
 rwa[ZZ3 (by omega),ZZ3<|by omega]at this
def ZPE(n:HN):pfn rE 139 [.agg [I n.N,.str n.bm,I n.Num,I n.Den]]=some (.bool<|YO n):=by
 unfold YO;rw[<-ZTn,<-ZTm];unfold ZQa rFr;have e1:decide (n.N>=1) = !decide (n.N<1):=by rw[ZXq];simp
 have e2:decide (n.N<=9999) = !decide (n.N>9999):=by rw[ZXq];simp
 rw[e1,e2,Z5 (f:=139) rfl rfl];cases c1:decide (n.N<1)with
 |true=>simp only[go_sem,c139,c1,ZWS,ZWV]
 |false=>
  cases c2:decide (n.N>9999)with
  |true=>simp only[go_sem,c139,c1,c2,ZWS,ZWU,ZWV,ZWR]
  |false=>
   cases c3:decide ((n.bm.size:Int)>1)with
   |true=>simp only[go_sem,c139,c1,c2,c3,ZWS,ZWU,ZWV,ZWR,ZWY]
   |false=>
    cases c4:Z3 n.bm emp with
    |true=>
     cases c7:(n.Num==0&&n.Den==0)with
     |true=>
      rw[ZWT]at c7;simp only[go_sem,c139,c1,c2,c3,c4,c7.1,c7.2,ZWS,ZWU,ZWV,ZWR,ZWY,ZWZ,ZX9,ZWX]
     |false=>
      have c7':=c7;cases d1:n.Num==0<;>rw[d1]at c7'<;>(try simp only[ZWR]at c7')
      .cases c9:decide (n.Num>=1)with
       |false=>simp only[go_sem,c139,c1,c2,c3,c4,d1,c9,ZWS,ZWU,ZWV,ZWR,ZWY,ZWZ,ZX9,ZWX]
       |true=>
        cases c10:decide (n.Num<n.Den)with
        |false=>simp only[go_sem,c139,c1,c2,c3,c4,d1,c9,c10,ZWS,ZWU,ZWV,ZWR,ZWY,ZWZ,ZX9,ZWX]
        |true=>
         cases c11:decide (n.Den<=9)with
         |false=>simp only[go_sem,c139,c1,c2,c3,c4,d1,c9,c10,c11,ZWS,ZWU,ZWV,ZWR,ZWY,ZWZ,ZX9,ZWX]
         |true=>
          have hcm:=ZRj (of_decide_eq_true c9) (of_decide_eq_true c10)<|of_decide_eq_true c11;simp only[go_sem,c139,c1,c2,c3,c4,d1,c9,c10,c11,hcm,ZWS,ZWU,ZWV,ZWR,ZWY,ZWZ,ZX9,ZWX]
      .have z1:decide (n.Num>=1)=false:=decide_eq_false (by have:=eq_of_beq d1;omega)
       simp only[go_sem,c139,c1,c2,c3,c4,d1,c7',z1,ZWS,ZWU,ZWV,ZWR,ZWY,ZWZ,ZX9,ZWX]
    |false=>
     cases c5:WW n.bm (B [97])with
     |true=>simp only[go_sem,c139,c1,c2,c3,c4,c5,ZWS,ZWU,ZWV,ZWR,ZWY,ZWZ,ZX9,ZWX]
     |false=>
      cases c6:WW n.bm (B [122])||Z3 n.bm (B [122])with
      |false=>simp only[go_sem,c139,c1,c2,c3,c4,c5,c6,ZWS,ZWU,ZWV,ZWR,ZWY,ZWZ,ZX9,ZWX]
      |true=>
       cases c7:(n.Num==0&&n.Den==0)with
       |true=>
        rw[ZWT]at c7;simp only[go_sem,c139,c1,c2,c3,c4,c5,c6,c7.1,c7.2,ZWS,ZWU,ZWV,ZWR,ZWY,ZWZ,ZX9,ZWX]
       |false=>
        have c7':=c7;cases d1:n.Num==0<;>rw[d1]at c7'<;>(try simp only[ZWR]at c7')
        .cases c9:decide (n.Num>=1)with
         |false=>simp only[go_sem,c139,c1,c2,c3,c4,c5,c6,d1,c9,ZWS,ZWU,ZWV,ZWR,ZWY,ZWZ,ZX9,ZWX]
         |true=>
          cases c10:decide (n.Num<n.Den)with
          |false=>simp only[go_sem,c139,c1,c2,c3,c4,c5,c6,d1,c9,c10,ZWS,ZWU,ZWV,ZWR,ZWY,ZWZ,ZX9,ZWX]
          |true=>
           cases c11:decide (n.Den<=9)with
           |false=>simp only[go_sem,c139,c1,c2,c3,c4,c5,c6,d1,c9,c10,c11,ZWS,ZWU,ZWV,ZWR,ZWY,ZWZ,ZX9,ZWX]
           |true=>
            have hcm:=ZRj (of_decide_eq_true c9) (of_decide_eq_true c10)<|of_decide_eq_true c11;simp only[go_sem,c139,c1,c2,c3,c4,c5,c6,d1,c9,c10,c11,hcm,ZWS,ZWU,ZWV,ZWR,ZWY,ZWZ,ZX9,ZWX]
        .have z1:decide (n.Num>=1)=false:=decide_eq_false (by have:=eq_of_beq d1;omega)
         simp only[go_sem,c139,c1,c2,c3,c4,c5,c6,d1,c7',z1,ZWS,ZWU,ZWV,ZWR,ZWY,ZWZ,ZX9,ZWX]
def ltI(x:Int):Bool:=(decide (x>=97)&&decide (x<=122))||(decide (x>=65)&&decide (x<=90))
def dgI(x:Int):Bool:=decide (x>=48)&&decide (x<=57)
def wdI(x:Int):Bool:=ltI x||(dgI x||x==95)
def ZRk(x:Int):pfn rE 218 [.int .u8 x]=some (.bool<|ltI x):=by
 rw[Z5 (f:=218) rfl rfl];unfold ltI;cases h1:decide (x>=97)<;>cases h2:decide (x<=122)<;>cases h3:decide (x>=65)<;>simp only[go_sem,c218,h1,h2,h3,ZWW,ZWX,ZWR,ZWV,ZXa,ZX9,ZWY,ZWZ]
def ZTo(x:Int):pfn rE 253 [.int .u8 x]=some (.bool<|dgI x):=by
 rw[Z5 (f:=253) rfl rfl];unfold dgI;cases h1:decide (x>=48)<;>simp only[go_sem,c253,h1,ZWR,ZWV]
def ZRl(x:Int):pfn rE 217 [.int .u8 x]=some (.bool<|wdI x):=by
 rw[Z5 (f:=217) rfl rfl];unfold wdI;cases h1:ltI x<;>cases h2:dgI x<;>simp only[go_sem,c217,ZRk,ZTo,h1,h2,ZWY,ZWZ]
def wdB(b:UInt8):Bool:=wdI b.toNat
def ZOM(s:Str):Bool:=s.data.toList.all wdB&&(decide (0<s.size)&&(decide ((s.size:Int)<=24)&&ltI (Xc s 0)))
def ZOW{s:Str}{i:Nat}{b:UInt8}(h:s.data.toList[i]?=some b):s.data[i]?=some b/\i<s.size:=by
 constructor
 .simpa using h
 .have:=Z7 h;have e:s.data.toList.length=s.size:=ZXD;omega
def ZOB(s:Str):s.data.toList.length=s.size:=ZXD
def ZTp(s:Str)(hs:s.size<=1000000):pfn rE 134 [.str s]=some (.bool<|ZOM s):=by
 have L:=QT (E:=rE) (live:=[0,3]) (b:=c134L0b) (h:=[]) s.data.toList (λ_ x=>wdB x) (λi=>[(0,.str s),(3,I i)]) 0 (λfr=>get fr 0=.str s) (λfr=>get fr 2=.bool false) (λi=>rfl)
  (λi x hx hP=>by
   obtain⟨hg,hi0⟩:=ZOW hx;have hi:=Zh hi0;have hw:=Zx (n:=i)<|by omega
   have hn:((i:Int)).toNat=i:=rfl;have hi0':(0<=(i:Int))=True:=by simp
   have hP':wdI x.toNat=true:=hP;refine⟨_,by simp only[go_sem,c134L0b,hi,hw,hn,hg,hi0',ZRl,hP',if_true,ZXo,ZWS];rfl,?_⟩
   simp only[go_sem])
  (λi x hx hP=>by
   obtain⟨hg,hi0⟩:=ZOW hx;have hi:=Zh hi0;have hn:((i:Int)).toNat=i:=rfl;have hi0':(0<=(i:Int))=True:=by simp
   have hP':wdI x.toNat=false:=hP;refine⟨_,by simp only[go_sem,c134L0b,hi,hn,hg,hi0',ZRl,hP',if_true,ZXo,ZWU];rfl,?_⟩
   simp only[go_sem])
  (by
   rw[ZOB];exact⟨_,by simp only[go_sem,c134L0b,ZG];rfl,by simp only[go_sem]⟩)
 rw[QE]at L;obtain⟨fr',h1,h3,h2⟩:=L;have h1':Zg rE [0,3] c134L0b [(0,.str s),(3,.int .i64 0)] []=_:=h1;rw[Z5 (f:=134) rfl rfl];unfold ZOM;have e0:decide ((s.size:Int)>0)=decide (0<s.size):=by rw[decide_eq_decide];omega
 cases hc:s.data.toList.all wdB with
 |false=>rw[hc]at h1';simp only[go_sem,c134,c134L0,h1',h2 hc,ZWV,ZX2]
 |true=>
  rw[hc]at h1';have h3:=h3 hc;cases c1:decide (0<s.size)with
  |false=>simp only[go_sem,c134,c134L0,h1',h3,e0,c1,ZWV,ZWR]
  |true=>
   have hp:=of_decide_eq_true c1;have hg:=DQ (s:=s) (i:=0) hp;have ez:(0:Int).toNat=0:=rfl;cases c2:decide ((s.size:Int)<=24)with
   |false=>simp only[go_sem,c134,c134L0,h1',h3,e0,c1,c2,ZWV,ZWR]
   |true=>simp only[go_sem,c134,c134L0,h1',h3,e0,c1,c2,hg,ez,ZRk,Xc,ZWR,Int.le_refl,if_true,ZXo]
def ZTq:∀k:Fin 256,[3,4,5].any (λx=>K1 k.val==x)=wdI k.val:=by decide +kernel
def ZTr:∀k:Fin 256,(K1 k.val==3)=ltI k.val:=by decide +kernel
def ZRm{s:Str}{i:Nat}(h:i<s.size):atT s i=K1 (Xc s i):=by
 unfold atT;have:decide ((i:Int)>=(s.size:Int))=false:=decide_eq_false<|by omega
 rw[this,cond_false]
def ZRn{s:Str}{i:Nat}(h:i<s.size):[3,4,5].any (λx=>atT s i==x)=wdI (Xc s i):=by
 rw[ZRm h];exact ZTq ⟨Xc s i,DP s i⟩
def ZRo{s:Str}{i:Nat}(h:i<s.size):(atT s i==3)=ltI (Xc s i):=by
 rw[ZRm h];exact ZTr ⟨Xc s i,DP s i⟩
def ZRp(s:Str)(cs:List Int):∀k i j,i<=j->j<Xd s cs k i->cs.any (λx=>atT s j==x)=true
 |0,i,j,h1,h2=>by rw[Xd]at h2;omega
 |k+1,i,j,h1,h2=>by
  rw[Xd]at h2;cases c:decide ((i:Int)<(s.size:Int))&&cs.any (λx=>atT s i==x)with
  |false=>rw[c,cond_false]at h2;omega
  |true=>
   rw[c,cond_true]at h2;by_cases e:i=j
   .subst e;rw[ZWT]at c;exact c.2
   .exact ZRp s cs k (i+1) j (by omega) h2
def ZRq(s:Str)(cs:List Int)(h:∀j,j<s.size->cs.any (λx=>atT s j==x)=true):∀k i,i+k=s.size->Xd s cs k i=s.size
 |0,i,e=>by rw[Xd];omega
 |k+1,i,e=>by
  rw[Xd,h i (by omega),decide_eq_true (by omega),ZWR,cond_true]
  exact ZRq s cs h k (i+1)<|by omega
def ZRr(s:Str):∀k i out,(Xf s k i out).toks=[]\/∃r,(Xf s k i out).toks=out++r
 |0,i,out=>Or.inl rfl
 |k+1,i,out=>by
  unfold Xf;cases decide ((i:Int)<(s.size:Int))with
  |false=>exact Or.inr ⟨[],by simp⟩
  |true=>
   rw[cond_true];cases ND (We s i) out != 0 with
   |true=>exact Or.inl rfl
   |false=>
    rw[cond_false];rcases ZRr s k (YP s (We s i).stop.toNat) (out++[(We s i).tok])with h|⟨r,h⟩
    .exact Or.inl h
    .exact Or.inr ⟨(We s i).tok::r,by rw[h];simp⟩
def ZTs{s:Str}{i:Nat}(h:(We s i).tok.bq=1):(atT s i==3)=true/\(We s i).tok.Text=ZX s i (ZI s [3,4,5] i)/\decide (W ((ZI s [3,4,5] i:Int)-(i:Int))>24)=false:=by
 unfold We at h⊢;generalize(atT s i==3)=a1 at h⊢;generalize(atT s i==4)=a2 at h⊢;generalize(atT s i==6)=a3 at h⊢;generalize(atT s i==7)=a4 at h⊢;generalize(atT s i==8)=a5 at h⊢;generalize(atT s i==9)=a6 at h⊢;generalize H4 s i=a7 at h⊢;generalize decide (quN s i>400)=a8 at h⊢;generalize Xe (ZX s (i+1) s.size) (B [61])=a9 at h⊢;generalize(decide (W ((ZI s [4] i:Int)-(i:Int))>13)||(atT s (ZI s [4] i)==3||atT s (ZI s [4] i)==5))=b1 at h⊢;generalize decide (W ((ZI s [3,4,5] i:Int)-(i:Int))>24)=b2 at h⊢;cases a1 with
 |true=>
  cases b2 with
  |true=>(simp only[cond_true,cond_false,ZX9,ZXa,Yw]at h;omega)
  |false=>exact⟨rfl,rfl,rfl⟩
 |false=>
  cases a2 with
  |true=>cases b1<;>(simp only[cond_true,cond_false,ZX9,ZXa,Yw]at h;omega)
  |false=>
   cases a3 with
   |true=>cases a7<;>cases a8<;>(simp only[cond_true,cond_false,ZX9,ZXa,Yw]at h;omega)
   |false=>
    cases a4<;>cases a5<;>cases a9<;>cases a6<;>(simp only[cond_true,cond_false,ZX9,ZXa,Yw]at h;omega)
def ZTt{s:Str}(h:ZZ s=true):s.size<=20000:=by
 unfold ZZ at h;rw[ZWT]at h;unfold Up at h;cases hd:decide ((s.size:Int)>20000)with
 |true=>rw[hd]at h;simp at h
 |false=>have:=of_decide_eq_false hd;omega
def ZTu{s:Str}(h:ZZ s=true):∃i,(We s i).tok.bq=1/\(We s i).tok.Text=s/\i<s.size:=by
 unfold ZZ at h;rw[ZWT]at h;obtain⟨h1,h2⟩:=h;unfold Up at h1 h2;cases hd:decide ((s.size:Int)>20000)with
 |true=>rw[hd]at h1;simp at h1
 |false=>
  rw[hd,cond_false]at h1 h2;refine⟨YP s 0,?_⟩;unfold Xf at h2;cases hi:decide (((YP s 0:Nat):Int)<(s.size:Int))with
  |false=>rw[hi]at h2;simp at h2
  |true=>
   rw[hi,cond_true]at h2;cases he:ND (We s<|YP s 0) [] != 0 with
   |true=>rw[he]at h2;simp at h2
   |false=>
    rw[he,cond_false]at h2;rcases ZRr s s.size (YP s (We s<|YP s 0).stop.toNat) ([]++[(We s<|YP s 0).tok])with k|⟨r,k⟩
    .rw[k]at h2;simp at h2
    .rw[k]at h2;cases r with
     |cons a r=>simp at h2
     |nil=>
      simp only[ZXm,ZXe,ZWT]at h2;have hlt:=of_decide_eq_true hi;exact⟨eq_of_beq h2.1,(Ky _ _).1 h2.2,by omega⟩
def ZTv{s:Str}(h:ZZ s=true):ZOM s=true:=by
 obtain⟨i,h1,h2,hi⟩:=ZTu h;obtain⟨h0,h3,h4⟩:=ZTs h1;have hz:=ZTt h;have hle:=K3 s [3,4,5] (i:=i)<|by omega
 have hge:=K2 s [3,4,5] i;have hsz:(ZX s i<|ZI s [3,4,5] i).size=ZI s [3,4,5] i-i:=by rw[ByteArray.size_extract];omega
 have he:ZI s [3,4,5] i-i=s.size:=by rw[<-hsz,<-h3,h2]
 have hi0:i=0:=by omega
 subst hi0;have hW:W ((ZI s [3,4,5] 0:Int)-((0:Nat):Int))=(ZI s [3,4,5] 0:Int)-((0:Nat):Int):=YM (by omega)<|by omega
 rw[hW]at h4;have h4':=of_decide_eq_false h4;unfold ZOM;rw[ZWT,ZWT,ZWT];refine⟨?_,decide_eq_true hi,decide_eq_true (by omega),by rw[<-ZRo hi];exact h0⟩
 rw[ZXl];intro b hb;obtain⟨m,hm⟩:=ZYs.1 hb;obtain⟨hg,hml⟩:=ZOW hm;have hin:=ZRp s [3,4,5] (s.size-0) 0 m (by omega)<|by unfold ZI at he;omega
 rw[ZRn hml]at hin;have e:Xc s m=b.toNat:=by unfold Xc;rw[ZXC,hg];rfl
 rw[e]at hin;exact hin
def ZTw(s:Str):YP s s.size=s.size:=by
 unfold YP;have e:ZI s [1] s.size=s.size:=by unfold ZI;rw[Nat.sub_self,Xd]
 rw[e];unfold K4;have:atT s s.size=0:=by unfold atT;rw[decide_eq_true (by omega),cond_true]
 rw[this];rfl
def ZTx{s:Str}(h:ZOM s=true):ZZ s=true:=by
 unfold ZOM at h;rw[ZWT,ZWT,ZWT]at h;obtain⟨h1,h2,h3,h4⟩:=h;have hp:=of_decide_eq_true h2;have h24:=of_decide_eq_true h3;have hall:∀j,j<s.size->[3,4,5].any (λx=>atT s j==x)=true:=λj hj=>by
  rw[ZRn hj];have hg:=DQ hj;have hm:s.data.getD j 0∈s.data.toList:=by
   rw[ZYs];exact⟨j,by simpa using hg⟩
  exact ZXl.1 h1 _ hm
 have ha:(atT s 0==3)=true:=by rw[ZRo hp];exact h4
 have ha':atT s 0=3:=eq_of_beq ha;have hw0:ZI s [1] 0=0:=by
  rw[NB s [1] hp,ha'];rfl
 have hg0:YP s 0=0:=by
  unfold YP;rw[hw0];unfold K4;rw[ha'];rfl
 have hW:ZI s [3,4,5] 0=s.size:=by unfold ZI;exact ZRq s _ hall _ 0<|by omega
 have hd:decide (W (((s.size:Nat):Int)-((0:Nat):Int))>24)=false:=by
  have:W (((s.size:Nat):Int)-((0:Nat):Int))=(s.size:Int)-((0:Nat):Int):=YM (by omega)<|by omega
  rw[this];exact decide_eq_false<|by omega
 have hn:We s 0=⟨⟨1,((0:Nat):Int),0,s⟩,s.size,0⟩:=by
  unfold We;rw[ha,cond_true,hW,hd,cond_false];have:ZX s 0 s.size=s:=ByteArray.extract_zero_size;rw[this]
 have hl:Up s=⟨[⟨1,((0:Nat):Int),0,s⟩],0,0⟩:=by
  unfold Up;rw[decide_eq_false (by omega),cond_false,hg0]
  unfold Xf;rw[decide_eq_true (by omega),cond_true,hn]
  have e:(ND ⟨⟨1,((0:Nat):Int),0,s⟩,s.size,0⟩ [] != 0)=false:=rfl;rw[e,cond_false];have e2:((⟨⟨1,((0:Nat):Int),0,s⟩,(s.size:Int),0⟩:Nx).stop).toNat=s.size:=rfl;rw[e2,ZTw];obtain⟨k,hk⟩:∃k,s.size=k+1:=⟨s.size-1,by omega⟩
  have e3:∀out,Xf s s.size s.size out=⟨out,0,0⟩:=λout=>by
   generalize hz:s.size=z at*;rw[hk];unfold Xf;rw[hz,decide_eq_false (by omega),cond_false]
  rw[e3];rfl
 unfold ZZ;rw[hl];simp[Ky]
def ZTy(s:Str):ZOM s=ZZ s:=by
 cases h:ZZ s with
 |true=>exact ZTv h
 |false=>
  cases h2:ZOM s with
  |false=>rfl
  |true=>rw[ZTx h2]at h;cases h
def ZO9(s:Str)(hs:s.size<=1000000):pfn rE 134 [.str s]=some (.bool<|ZZ s):=by rw[ZTp s hs,ZTy]
def skB(s:Str)(bl:Bool)(i:Nat)(x:UInt8):Bool:=((x.toNat:Int)==32)&&(bl&&(decide ((i:Int)>0)&&(decide (((i+1:Nat):Int)<(s.size:Int))&&((Xc s (i-1):Int) != 32))))
def ZOm(s:Str)(bl:Bool)(i:Nat)(x:UInt8):Bool:=skB s bl i x||!H7 x.toNat
def plT(s:Str)(lo hi:Int)(bl:Bool):Bool:=Zu (ZOm s bl) 0 s.data.toList&&(decide ((s.size:Int)>=lo)&&decide ((s.size:Int)<=hi))
def ZRs(s:Str)(lo hi:Int)(bl:Bool)(hs:s.size<=1000000):pfn rE 141 [.str s,I lo,I hi,.bool bl]=some (.bool<|plT s lo hi bl):=by
 have L:=QT (E:=rE) (live:=[0,1,2,3,9]) (b:=c141L0b) (h:=[]) s.data.toList (ZOm s bl) (λi=>[(0,.str s),(1,I lo),(2,I hi),(3,.bool bl),(9,I i)]) 0
  (λfr=>get fr 0=.str s/\get fr 1=I lo/\get fr 2=I hi) (λfr=>get fr 8=.bool false) (λi=>rfl)
  (λi x hx hP=>by
   obtain⟨hg,hi0⟩:=ZOW hx;have hi:=Zh hi0;have hw:=Zx (n:=i)<|by omega
   have hn:((i:Int)).toNat=i:=rfl;have hi0':(0<=(i:Int))=True:=by simp
   unfold ZOm at hP;cases hk:skB s bl i x with
   |true=>
    unfold skB at hk;simp only[ZWT]at hk;obtain⟨c1,rfl,c3,c4,c5⟩:=hk;rcases i with _|j
    .cases c3
    .have hgj:=DQ (s:=s) (i:=j) (by omega)
     have hs1:IntKind.i64.wrap (((j+1:Nat):Int)-1)=((j:Nat):Int):=by rw[YM (by omega)<|by omega];omega
     have hnj:((j:Int)).toNat=j:=rfl;have hj0:(0<=(j:Int))=True:=by simp
     have c5':(((s.data.getD j 0).toNat:Int) != 32)=true:=c5;refine⟨_,by simp only[go_sem,c141L0b,hi,hw,hn,hg,hi0',c1,c3,c4,hs1,hnj,hj0,hgj,c5',if_true,ZXo];rfl,?_⟩
     simp only[go_sem]
   |false=>
    rw[hk,ZWZ,ZXn]at hP;unfold H7 at hP;simp only[ZZ4]at hP;obtain⟨⟨d1,d2⟩,d3⟩:=hP;have c1:((x.toNat:Int)==32)=false:=by
     have:=of_decide_eq_false d1;rw[beq_eq_false_iff_ne];omega
    refine⟨_,by simp only[go_sem,c141L0b,hi,hw,hn,hg,hi0',c1,d1,d2,d3,if_true,ZXo];rfl,?_⟩
    simp only[go_sem])
  (λi x hx hP=>by
   obtain⟨hg,hi0⟩:=ZOW hx;have hi:=Zh hi0;have hw:=Zx (n:=i)<|by omega
   have hn:((i:Int)).toNat=i:=rfl;have hi0':(0<=(i:Int))=True:=by simp
   unfold ZOm at hP;rw[ZZ4,ZYb]at hP;obtain⟨hk,ho⟩:=hP;unfold H7 at ho;unfold skB at hk;cases c1:((x.toNat:Int)==32)with
   |false=>
    cases d1:decide ((x.toNat:Int)<33)with
    |true=>
     refine⟨_,by simp only[go_sem,c141L0b,hi,hn,hg,hi0',c1,d1,if_true,ZXo];rfl,?_⟩
     simp only[go_sem]
    |false=>
     cases d2:decide ((x.toNat:Int)>126)with
     |true=>
      refine⟨_,by simp only[go_sem,c141L0b,hi,hn,hg,hi0',c1,d1,d2,if_true,ZXo];rfl,?_⟩
      simp only[go_sem]
     |false=>
      rw[d1,d2,ZWZ,ZWZ]at ho;refine⟨_,by simp only[go_sem,c141L0b,hi,hn,hg,hi0',c1,d1,d2,ho,if_true,ZXo];rfl,?_⟩
      simp only[go_sem]
   |true=>
    have d1:decide ((x.toNat:Int)<33)=true:=by have:=eq_of_beq c1;exact decide_eq_true<|by omega
    rw[c1,ZWR]at hk;cases bl with
    |false=>
     refine⟨_,by simp only[go_sem,c141L0b,hi,hn,hg,hi0',c1,d1,if_true,ZXo];rfl,?_⟩
     simp only[go_sem]
    |true=>
     rcases i with _|j
     .have h0:decide (((0:Nat):Int)>0)=false:=rfl;refine⟨_,by simp only[go_sem,c141L0b,hi,hn,hg,hi0',c1,d1,h0,if_true,ZXo];rfl,?_⟩
      simp only[go_sem]
     .have h0:decide (((j+1:Nat):Int)>0)=true:=decide_eq_true (by omega)
      rw[h0,ZWR,ZWR]at hk;cases c4:decide (((j+1+1:Nat):Int)<(s.size:Int))with
      |false=>
       refine⟨_,by simp only[go_sem,c141L0b,hi,hw,hn,hg,hi0',c1,d1,h0,c4,if_true,ZXo];rfl,?_⟩
       simp only[go_sem]
      |true=>
       rw[c4,ZWR]at hk;have hgj:=DQ (s:=s) (i:=j)<|by omega
       have hs1:IntKind.i64.wrap (((j+1:Nat):Int)-1)=((j:Nat):Int):=by rw[YM (by omega)<|by omega];omega
       have hnj:((j:Int)).toNat=j:=rfl;have hj0:(0<=(j:Int))=True:=by simp
       have c5':(((s.data.getD j 0).toNat:Int) != 32)=false:=hk;refine⟨_,by simp only[go_sem,c141L0b,hi,hw,hn,hg,hi0',c1,d1,h0,c4,hs1,hnj,hj0,hgj,c5',if_true,ZXo];rfl,?_⟩
       simp only[go_sem])
  (by
   rw[ZOB];exact⟨_,by simp only[go_sem,c141L0b,ZG];rfl,by simp only[go_sem],by simp only[go_sem],by simp only[go_sem]⟩)
 obtain⟨fr',h1,h3,h2⟩:=L;have h1':Zg rE [0,1,2,3,9] c141L0b [(0,.str s),(1,I lo),(2,I hi),(3,.bool bl),(9,.int .i64 0)] []=_:=h1;rw[Z5 (f:=141) rfl rfl];unfold plT;cases hc:Zu (ZOm s bl) 0 s.data.toList with
 |false=>rw[hc]at h1';simp only[go_sem,c141,c141L0,h1',h2 hc,ZWV,ZX2]
 |true=>
  rw[hc]at h1';obtain⟨g0,g1,g2⟩:=h3 hc;cases c1:decide ((s.size:Int)>=lo)<;>simp only[go_sem,c141,c141L0,h1',g0,g1,g2,c1,ZWV,ZWR]
def ZTz(s:Str)(hs:s.size<=1000000):pfn rE 224 [.str s]=some (.bool<|plT s 1 60 true):=by
 rw[Z5 (f:=224) rfl rfl];simp only[go_sem,c224,ZRs s _ _ _ hs]
def vlB(s:Str):Bool:=s.data.toList.all (λb=>!H8 b.toNat)&&(decide ((s.size:Int)>=1)&&decide ((s.size:Int)<=60))
def ZTA(s:Str)(hs:s.size<=1000000):pfn rE 144 [.str s]=some (.bool<|vlB s):=by
 have L:=QT (E:=rE) (live:=[0,3]) (b:=c144L0b) (h:=[]) s.data.toList (λ_ b=>!H8 b.toNat) (λi=>[(0,.str s),(3,I i)]) 0 (λfr=>get fr 0=.str s) (λfr=>get fr 2=.bool false) (λi=>rfl)
  (λi x hx hP=>by
   obtain⟨hg,hi0⟩:=ZOW hx;have hi:=Zh hi0;have hw:=Zx (n:=i)<|by omega
   have hn:((i:Int)).toNat=i:=rfl;have hi0':(0<=(i:Int))=True:=by simp
   unfold H8 at hP;have hy:∃y:Int,((x.toNat:Nat):Int)=y:=⟨_,rfl⟩;obtain⟨y,hy⟩:=hy;rw[hy]at hP;cases c1:decide (y<48)<;>cases c2:decide (y>57)<;>cases c3:decide (y<97)<;>cases c4:decide (y>122)<;>cases c5:decide (y<65)<;>cases c6:decide (y>90)<;>rw[c1,c2,c3,c4,c5,c6]at hP<;>first
    |exact absurd hP<|by decide
    |(refine⟨_,by simp only[go_sem,c144L0b,hi,hw,hn,hg,hi0',hy,c1,c2,c3,c4,c5,c6,if_true,ZXo];rfl,?_⟩;simp only[go_sem]))
  (λi x hx hP=>by
   obtain⟨hg,hi0⟩:=ZOW hx;have hi:=Zh hi0;have hn:((i:Int)).toNat=i:=rfl;have hi0':(0<=(i:Int))=True:=by simp
   unfold H8 at hP;have hy:∃y:Int,((x.toNat:Nat):Int)=y:=⟨_,rfl⟩;obtain⟨y,hy⟩:=hy;rw[hy]at hP;cases c1:decide (y<48)<;>cases c2:decide (y>57)<;>cases c3:decide (y<97)<;>cases c4:decide (y>122)<;>cases c5:decide (y<65)<;>cases c6:decide (y>90)<;>rw[c1,c2,c3,c4,c5,c6]at hP<;>first
    |exact absurd hP<|by decide
    |(refine⟨_,by simp only[go_sem,c144L0b,hi,hn,hg,hi0',hy,c1,c2,c3,c4,c5,c6,if_true,ZXo];rfl,?_⟩;simp only[go_sem]))
  (by
   rw[ZOB];exact⟨_,by simp only[go_sem,c144L0b,ZG];rfl,by simp only[go_sem]⟩)
 obtain⟨fr',h1,h3,h2⟩:=L;have h1':Zg rE [0,3] c144L0b [(0,.str s),(3,.int .i64 0)] []=_:=h1;rw[Z5 (f:=144) rfl rfl];unfold vlB;rw[QE]at*;cases hc:s.data.toList.all (λb=>!H8 b.toNat)with
 |false=>rw[hc]at h1';simp only[go_sem,c144,c144L0,h1',h2 hc,ZWV,ZX2]
 |true=>
  rw[hc]at h1';have h3:=h3 hc;cases c1:decide ((s.size:Int)>=1)<;>simp only[go_sem,c144,c144L0,h1',h3,c1,ZWV,ZWR]
def ZTB(s:Str)(i:Nat)(h:Xc s i<128):Utf8.decode s i=(Xc s i,1):=by
 have e:(s.get! i).toNat=Xc s i:=rfl;unfold Utf8.decode;simp only[ZXE,e,h,if_true]
def ZTC(s:Str)(i:Nat)(h:128<=Xc s i):128<=(Utf8.decode s i).1:=by
 have e:(s.get! i).toNat=Xc s i:=rfl;unfold Utf8.decode;have h':¬Xc s i<128:=by omega
 have he:Utf8.runeError=65533:=rfl;simp only[ZXE,e,h',if_false,he];split
 .split<;>simp_all
 .split
  .split<;>simp_all<;>omega
  .split
   .split<;>simp_all<;>omega
   .simp
def ZRt(p:Int->Bool)(hp:∀c:Nat,128<=c->p c=true)(s:Str):∀k i,s.size-i<k->decide (XI p s k i>=0)=(s.data.toList.drop i).any (λb=>p b.toNat)
 |0,i,h=>by omega
 |k+1,i,h=>by
  unfold XI;by_cases hi:i<s.size
  .have hb:Nat.blt i s.size=true:=by rw[N7];exact decide_eq_true hi
   have hl:i<s.data.toList.length:=by rw[ZOB];exact hi
   have hb0:Xc s i=(s.data.toList[i]'hl).toNat:=by
    unfold Xc;rw[ZXC,<-ZY2,ZX5 hl];rfl
   rw[hb,cond_true,ZY4 hl,ZXR,<-hb0];by_cases h8:Xc s i<128
   .rw[ZTB s i h8];cases hc:p (Xc s i)with
    |true=>simp
    |false=>
     rw[cond_false,ZWZ];exact ZRt p hp s k (i+1)<|by omega
   .have h8':128<=Xc s i:=by omega
    rw[hp _<|ZTC s i h8',hp _ h8'];simp
  .have hb:Nat.blt i s.size=false:=by rw[N7];exact decide_eq_false hi
   rw[hb,cond_false,ZZi<|by rw[ZOB];omega]
   rfl
def ZQb(p:Int->Bool)(hp:∀c:Nat,128<=c->p c=true)(s:Str):H6 p s=s.data.toList.any (λb=>p b.toNat):=by
 unfold H6;rw[ZRt p hp s _ 0 (by omega),ZXO]
def ZRu(c:Nat)(h:128<=c):H7 c=true:=by
 unfold H7;rw[decide_eq_true (show(c:Int)>126 by omega)];simp
def ZTD(c:Nat)(h:128<=c):H8 c=true:=by
 unfold H8;rw[decide_eq_true (show(c:Int)>57 by omega),decide_eq_true (show(c:Int)>122 by omega),decide_eq_true (show(c:Int)>90 by omega)];simp
def ZQc(s:Str):(!Z3 s emp)=decide ((s.size:Int)>=1):=by
 cases h:Z3 s emp with
 |true=>
  rw[(Ky _ _).1 h];rfl
 |false=>
  symm
  rw[ZWU,decide_eq_true_eq];have:s.size≠0:=λe=>by
   have:s=emp:=ByteArray.ext<|ZYw e;rw[this,(Ky _ _).2 rfl]at h;cases h
  omega
def ZP8{α:Type}(p:α->Bool)(l:List α):l.all (λb=>!p b) = !l.any p:=by
 induction l with
 |nil=>rfl
 |cons a r ih=>simp[ih]
def ZTE(s:Str)(hs:s.size<=1000000):pfn rE 144 [.str s]=some (.bool<|Uu s):=by
 rw[ZTA s hs];unfold vlB Uu;rw[ZQc,ZQb H8 ZTD,ZP8 (λb:UInt8=>H8 b.toNat)]
 cases s.data.toList.any (λb:UInt8=>H8 b.toNat)<;>simp
def ZOt(b:UInt8):Bool:=!H7 b.toNat
def gdW(w:List UInt8):Bool:=!w.isEmpty&&w.all ZOt
def gT:Bool->List UInt8->Bool
 |st,[]=>!st
 |st,x::r=>bif x==32 then !st&&gT true r else ZOt x&&gT false r
def ZQd:List (List UInt8)->Bool
 |[]=>true
 |w::ws=>w.all ZOt&&ws.all gdW
def Z6q:ZOt 32=false:=rfl
def ZRv:∀l:List UInt8,gT true l=(Q4 32 l).all gdW/\gT false l=ZQd (Q4 32 l)
 |[]=>⟨rfl,rfl⟩
 |x::r=>by
  obtain⟨h1,h2⟩:=ZRv r;unfold gT Q4;cases hx:x==32 with
  |true=>rw[cond_true,cond_true,cond_true,h1];exact⟨rfl,rfl⟩
  |false=>
   rw[cond_false,cond_false,cond_false,h2];cases hs:Q4 32 r with
   |nil=>simp[ZQd,gdW]
   |cons w ws=>simp[ZQd,gdW,ZY6]
def ZQe(c:UInt8):∀(l:List UInt8),∀w∈Q4 c l,w.length<=l.length
 |[],w,h=>by simp[Q4]at h;subst h;simp
 |x::r,w,h=>by
  unfold Q4 at h;cases hx:x==c with
  |true=>
   rw[hx,cond_true]at h;rcases ZXv.1 h with rfl|h
   .simp
   .have:=ZQe c r w h;simp;omega
  |false=>
   rw[hx,cond_false]at h;have ih:=ZQe c r;cases hs:Q4 c r with
   |nil=>rw[hs]at h;simp at h;subst h;simp
   |cons v vs=>
    rw[hs]at h ih;rcases ZXv.1 h with rfl|h
    .have:=ih v (by simp);simp;omega
    .have:=ih w (by simp[h]);simp;omega
def ZOn{α:Type}{p q:α->Bool}:∀{l:List α},(∀x∈l,p x=q x)->l.all p=l.all q
 |[],_=>rfl
 |a::r,h=>by rw[ZXz,ZXz,h a (by simp),ZOn λx hx=>h x<|by simp[hx]]
def ZTF{w:List UInt8}:(!w.isEmpty)=decide ((w.length:Int)>=1):=by
 cases w with
 |nil=>rfl
 |cons a r=>simp;omega
def ZTG(w:List UInt8)(h:w.length<=60):(!H9 ⟨⟨w⟩⟩)=gdW w:=by
 have hz:ByteArray.size ⟨⟨w⟩⟩=w.length:=rfl;unfold H9 Jm gdW;rw[ZYH,ZQc,ZQb H7 ZRu,hz,ZTF,decide_eq_true (show(w.length:Int)<=60 by omega),ZWR]
 show(_&&!w.any (λb:UInt8=>H7 b.toNat))=_
 unfold ZOt;rw[ZP8 (λb:UInt8=>H7 b.toNat)]
def ZTH(s:Str):Uv s=(decide ((s.size:Int)<=60)&&gT true s.data.toList):=by
 unfold Uv;cases h:decide ((s.size:Int)<=60)with
 |false=>rfl
 |true=>
  rw[ZWR,ZWR,(ZRv _).1,<-ZP8];unfold Yy;rw[ZYN];apply ZOn;intro w hw;have:=ZQe 32 _ w hw;rw[ZOB]at this;exact ZTG w (by have:=of_decide_eq_true h;omega)
def ZRw(s:Str):∀(l:List UInt8)(i:Nat),s.data.toList.drop i=l->l≠[]->Zu (ZOm s true) i l=gT (decide (i=0)||Xc s (i-1)==32) l
 |[],i,h,hn=>absurd rfl hn
 |x::r,i,h,_=>by
  have hlen:s.data.toList.length-i=r.length+1:=by rw[<-List.length_drop,h];rfl
  rw[ZOB]at hlen;have hx:s.data.toList[i]?=some x:=by
   have:=ZYd (xs:=s.data.toList) (i:=i) (j:=0);rw[h]at this;simpa using this.symm
  have hb:Xc s i=x.toNat:=by
   unfold Xc;rw[ZXC,<-ZY2,hx];rfl
  have hr:s.data.toList.drop (i+1)=r:=by
   rw[<-ZXZ,h];rfl
  have e32:((x.toNat:Int)==32)=(x==32):=by
   rw[ZXq,beq_iff_eq,beq_iff_eq];constructor
   .intro e;apply UInt8.toNat_inj.1;have:(32:UInt8).toNat=32:=rfl;omega
   .intro e;rw[e];rfl
  have e33:(Xc s i==32)=(x==32):=by
   rw[hb,<-e32,ZXq,beq_iff_eq,beq_iff_eq];omega
  have eo:H7 x.toNat = !ZOt x:=by unfold ZOt;rw[ZYH]
  show(ZOm s true i x&&Zu (ZOm s true) (i+1) r)=_
  rw[show ZOm s true i x=(skB s true i x||!H7 x.toNat)from rfl]
  unfold gT skB;rw[e32,eo,ZYH];cases r with
  |nil=>
   have hsz:decide (((i+1:Nat):Int)<(s.size:Int))=false:=by rw[decide_eq_false_iff_not];simp at hlen;omega
   rw[hsz];cases hx2:x==32 with
   |true=>rw[eq_of_beq hx2,Z6q];simp[gT,Zu]
   |false=>simp[gT,Zu]
  |cons y r'=>
   have hsz:decide (((i+1:Nat):Int)<(s.size:Int))=true:=by rw[decide_eq_true_iff];simp at hlen;omega
   have ih:=ZRw s (y::r') (i+1) hr<|by simp
   have e1:decide (i+1=0)=false:=by simp
   rw[ih,hsz,e1,ZWZ,Nat.add_sub_cancel,e33];cases hx2:x==32 with
   |false=>simp
   |true=>
    rw[eq_of_beq hx2,Z6q,cond_true,ZWR,ZWR,ZWR,ZX9];have:(decide ((i:Int)>0)&&((Xc s (i-1):Int) != 32)) = !(decide (i=0)||Xc s (i-1)==32):=by
     rw[Bool.not_or,<-decide_not];congr 1
     .rw[decide_eq_decide];omega
     .rw[bne,Bool.not_eq_eq_eq_not,ZYH,ZXq,beq_iff_eq,beq_iff_eq];omega
    rw[this]
def ZTI(s:Str):plT s 1 60 true=Uv s:=by
 rw[ZTH];unfold plT;cases hl:s.data.toList with
 |nil=>
  have:s.size=0:=by rw[<-ZOB,hl];rfl
  rw[this];rfl
 |cons x r=>
  have hp:decide ((s.size:Int)>=1)=true:=by
   rw[decide_eq_true_iff,<-ZOB,hl,ZXr];omega
  rw[<-hl,ZRw s s.data.toList 0 rfl (by rw[hl];simp),hp,ZWR,Bool.and_comm]
  rfl
def ZTJ(s:Str)(hi:Int):plT s 1 hi false=Jm s hi:=by
 have e:ZOm s false=λ_ x=>ZOt x:=by
  funext i x
  unfold ZOm skB ZOt;simp
 unfold plT Jm;rw[e,QE,ZQc,ZQb H7 ZRu];unfold ZOt;rw[ZP8 (λb:UInt8=>H7 b.toNat)]
 cases s.data.toList.any (λb:UInt8=>H7 b.toNat)<;>simp
def ZRx(s:Str)(hs:s.size<=1000000):pfn rE 224 [.str s]=some (.bool<|Uv s):=by rw[ZTz s hs,ZTI]
def ZTK(s:Str)(hi:Int)(hs:s.size<=1000000):pfn rE 141 [.str s,.int .i64 1,I hi,.bool false]=some (.bool<|Jm s hi):=by
 rw[<-ZTJ];exact ZRs s 1 hi false hs
def pwD{α:Type}(eq:α->α->Bool):List α->List α->Bool
 |_,[]=>true
 |K,x::r=>!K.any (eq x)&&pwD eq (K++[x]) r
def ZPF{α:Type}(eq:α->α->Bool):∀(l K:List α),(l.foldl (Qi eq) K).length<=K.length+l.length/\((l.foldl (Qi eq) K).length=K.length+l.length↔pwD eq K l=true)
 |[],K=>⟨by simp,by simp[pwD]⟩
 |x::r,K=>by
  rw[ZYe];unfold pwD;have e:Qi eq K x=bif K.any (eq x)then K else K++[x]:=rfl;rw[e];cases hx:K.any (eq x)with
  |true=>
   obtain⟨h1,h2⟩:=ZPF eq r K;rw[cond_true,ZXr];refine⟨by omega,⟨λh=>by omega,λh=>by simp at h⟩⟩
  |false=>
   obtain⟨h1,h2⟩:=ZPF eq r<|K++[x];rw[cond_false,ZXr];rw[ZX7,ZXh]at h1 h2;refine⟨by omega,?_⟩
   rw[show K.length+(r.length+1)=K.length+1+r.length by omega,h2]
   simp
def ZRy{α:Type}(eq:α->α->Bool):∀(r K:List α),Zu (λi x=>!((K++r).take i).any (eq x)) K.length r=pwD eq K r
 |[],K=>rfl
 |x::r,K=>by
  have h:=ZRy eq r<|K++[x];rw[ZXx,ZZb,ZX7,ZXh]at h;show(!((K++x::r).take K.length).any (eq x)&&Zu _ (K.length+1) r)=_
  rw[h,List.take_left];rfl
def ZPn{α:Type}(eq:α->α->Bool)(l:List α):XH eq l=Zu (λi x=>!(l.take i).any (eq x)) 0 l:=by
 have h:=ZRy eq l [];rw[ZXm]at h;rw[show(0:Nat)=([]:List α).length from rfl,h]
 unfold XH;have h2:=(ZPF eq l []).2;rw[ZXt,ZXf]at h2;rw[ZXq,beq_iff_eq,<-h2];omega
def ZOX{α:Type}(P Q:Nat->α->Bool):∀(l:List α)(i:Nat),Zu (λi x=>P i x&&Q i x) i l=(Zu P i l&&Zu Q i l)
 |[],i=>rfl
 |x::r,i=>by
  show((P i x&&Q i x)&&Zu (λi x=>P i x&&Q i x) (i+1) r)=((P i x&&Zu P (i+1) r)&&(Q i x&&Zu Q (i+1) r))
  rw[ZOX P Q r<|i+1];generalize Zu P (i+1) r=a;generalize Zu Q (i+1) r=b;cases P i x<;>cases Q i x<;>cases a<;>cases b<;>rfl
def ZOY{α:Type}{P Q:Nat->α->Bool}(l:List α)(i:Nat)(h:∀i x,P i x=Q i x):Zu P i l=Zu Q i l:=by
 rw[show P=Q from funext λi=>funext λx=>h i x]
def ZOZ(x y:Str):Z3 x y=Z3 y x:=by
 rw[ZXq,Ky,Ky];exact eq_comm
def ZP0{α:Type}(p:α->Bool)(l:List α):(!l.any p)=l.all (λb=>!p b):=(ZP8 p l).symm
def Vx(l:List Str)(i:Nat)(x:Str):Bool:=ZZ x&&(l.take i).all (λy=>!Z3 y x)
def ZRz(bw ex:Bool)(l:List Str)(hl:l.length<=1000000)(i:Nat)(x:Str)(hx:l[i]?=some x):∃fr',Zg rE [0,3,4] c138L0b [(0,.isl bw ex 1<|l.map encS),(3,I i),(4,.int .i64 0)] []=some (if(l.take i).all (λy=>!Z3 y x)=true then .exit 2 else .ret,fr',[])/\
 ((l.take i).all (λy=>!Z3 y x)=true->get fr' 0=.isl bw ex 1 (l.map encS)/\get fr' 3=I i)/\((l.take i).all (λy=>!Z3 y x)=false->get fr' 2=.bool false):=by
 have hgx:=Z6 (f:=encS) hx;have hli:=Z7 hx;have L:=QT (E:=rE) (live:=[0,3,4]) (b:=c138L0b) (h:=[]) (l.take i) (λ_ y=>!Z3 y x) (λk=>[(0,.isl bw ex 1<|l.map encS),(3,I i),(4,I k)]) 2
  (λfr=>get fr 0=.isl bw ex 1 (l.map encS)/\get fr 3=I i) (λfr=>get fr 2=.bool false) (λk=>rfl)
  (λk y hy hP=>by
   obtain⟨hy',hk⟩:=HH hy;have hgy:=Z6 (f:=encS) hy';have hlt:=Zh hk;have hw:=Zx (n:=k)<|by omega
   have hP':Z3 y x=false:=by simpa using hP
   cases bw<;>refine⟨_,by simp only[go_sem,c138L0b,hgx,hgy,hlt,hw,encS,hP'];rfl,?_⟩<;>simp only[go_sem])
  (λk y hy hP=>by
   obtain⟨hy',hk⟩:=HH hy;have hgy:=Z6 (f:=encS) hy';have hlt:=Zh hk;have hP':Z3 y x=true:=by simpa using hP
   cases bw<;>refine⟨_,by simp only[go_sem,c138L0b,hgx,hgy,hlt,encS,hP'];rfl,?_⟩<;>simp only[go_sem])
  (by
   have e:(l.take i).length=i:=by rw[ZXL];omega
   rw[e];exact⟨_,by simp only[go_sem,c138L0b,ZG];rfl,by simp only[go_sem],by simp only[go_sem]⟩)
 rw[QE]at L;exact L
def ZTL(bw ex:Bool)(l:List Str)(hl:l.length<=1000000)(hs:∀x∈l,x.size<=1000000):pfn rE 138 [.isl bw ex 1<|l.map encS]=some (.bool<|Zu (Vx l) 0 l):=by
 have L:=QT (E:=rE) (live:=[0,3]) (b:=c138L1b) (h:=[]) l (Vx l) (λi=>[(0,.isl bw ex 1<|l.map encS),(3,I i)]) 0
  (λfr=>True) (λfr=>get fr 2=.bool false) (λk=>rfl)
  (λi x hx hP=>by
   have hg:=Z6 (f:=encS) hx;have hlt:=Zh<|Z7 hx;have hw:=Zx (n:=i) (by have:=Z7 hx;omega)
   obtain⟨fr',h1,h2,_⟩:=ZRz bw ex l hl i x hx;have hn:=ZO9 x<|hs x<|ZXk hx;unfold Vx at hP;rw[ZWT]at hP;rw[hP.2]at h1;obtain⟨g0,g3⟩:=h2 hP.2;refine⟨_,by simp only[go_sem,c138L1b,c138L0,hg,hlt,hw,encS,hn,hP.1,h1,g0,g3,ZWQ,ZWS,if_true];rfl,?_⟩
   simp only[go_sem])
  (λi x hx hP=>by
   have hg:=Z6 (f:=encS) hx;have hlt:=Zh<|Z7 hx;obtain⟨fr',h1,_,h2⟩:=ZRz bw ex l hl i x hx;have hn:=ZO9 x<|hs x<|ZXk hx;unfold Vx at hP;cases c:ZZ x with
   |false=>
    refine⟨_,by simp only[go_sem,c138L1b,hg,hlt,encS,hn,c,ZWQ,ZWU];rfl,?_⟩
    simp only[go_sem]
   |true=>
    rw[c,ZWR]at hP;rw[hP]at h1;refine⟨_,by simp only[go_sem,c138L1b,c138L0,hg,hlt,encS,hn,c,h1,ZWQ,ZWS,ZX2,if_false];rfl,?_⟩
    simp only[go_sem,h2 hP])
  (⟨_,by simp only[go_sem,c138L1b,ZG,ZWQ];rfl,trivial⟩)
 obtain⟨fr',h1,_,h2⟩:=L;have h1':Zg rE [0,3] c138L1b [(0,.isl bw ex 1<|l.map encS),(3,.int .i64 0)] []=_:=h1;rw[Z5 (f:=138) rfl rfl];cases hc:Zu (Vx l) 0 l with
 |false=>rw[hc]at h1';simp only[go_sem,c138,c138L1,h1',h2 hc,ZX2]
 |true=>rw[hc]at h1';simp only[go_sem,c138,c138L1,h1']
def ZTM(l:List Str):Zu (Vx l) 0 l=Qv l:=by
 unfold Qv;have e:∀i x,Vx l i x=(ZZ x&&!(l.take i).any (Z3 x)):=λi x=>by
  unfold Vx;rw[ZP0];congr 1;apply ZOn;intro y _;rw[ZOZ]
 rw[ZOY l 0 e,ZOX,<-ZPn,QE<|λx=>ZZ x,Bool.and_comm]
 congr 1;unfold Ha;rw[<-ZP8];simp
def ZP9(bw ex:Bool)(l:List Str)(hl:l.length<=1000000)(hs:∀x∈l,x.size<=1000000):pfn rE 138 [.isl bw ex 1<|l.map encS]=some (.bool<|Qv l):=by
 rw[ZTL bw ex l hl hs,ZTM]
def ZOo(x y:Nm):Bool:=Z3 y.Lang x.Lang&&(y.Script==x.Script)
def ZON(l:List Nm)(i:Nat)(x:Nm):Bool:=Uy x&&(l.take i).all (λy=>!ZOo x y)
def ZRA(ex:Bool)(l:List Nm)(hl:l.length<=1000000)(i:Nat)(x:Nm)(hx:l[i]?=some x):∃fr',Zg rE [0,3,4] c137L0b [(0,.isl false ex 3<|l.map Nm.enc),(3,I i),(4,.int .i64 0)] []=some (if(l.take i).all (λy=>!ZOo x y)=true then .exit 2 else .ret,fr',[])/\
 ((l.take i).all (λy=>!ZOo x y)=true->get fr' 0=.isl false ex 3 (l.map Nm.enc)/\get fr' 3=I i)/\((l.take i).all (λy=>!ZOo x y)=false->get fr' 2=.bool false):=by
 have hgx:=Z6 (f:=Nm.enc) hx;have hli:=Z7 hx;have L:=QT (E:=rE) (live:=[0,3,4]) (b:=c137L0b) (h:=[]) (l.take i) (λ_ y=>!ZOo x y) (λk=>[(0,.isl false ex 3<|l.map Nm.enc),(3,I i),(4,I k)]) 2
  (λfr=>get fr 0=.isl false ex 3 (l.map Nm.enc)/\get fr 3=I i) (λfr=>get fr 2=.bool false) (λk=>rfl)
  (λk y hy hP=>by
   obtain⟨hy',hk⟩:=HH hy;have hgy:=Z6 (f:=Nm.enc) hy';have hlt:=Zh hk;have hw:=Zx (n:=k)<|by omega
   have hP':ZOo x y=false:=by simpa using hP
   unfold ZOo at hP';cases c:Z3 y.Lang x.Lang with
   |false=>
    refine⟨_,by simp only[go_sem,c137L0b,hgx,hgy,hlt,hw,Nm.enc,c];rfl,?_⟩
    simp only[go_sem]
   |true=>
    rw[c,ZWR]at hP';refine⟨_,by simp only[go_sem,c137L0b,hgx,hgy,hlt,hw,Nm.enc,c,hP'];rfl,?_⟩
    simp only[go_sem])
  (λk y hy hP=>by
   obtain⟨hy',hk⟩:=HH hy;have hgy:=Z6 (f:=Nm.enc) hy';have hlt:=Zh hk;have hP':ZOo x y=true:=by simpa using hP
   unfold ZOo at hP';rw[ZWT]at hP';refine⟨_,by simp only[go_sem,c137L0b,hgx,hgy,hlt,Nm.enc,hP'.1,hP'.2];rfl,?_⟩
   simp only[go_sem])
  (by
   have e:(l.take i).length=i:=by rw[ZXL];omega
   rw[e];exact⟨_,by simp only[go_sem,c137L0b,ZG];rfl,by simp only[go_sem],by simp only[go_sem]⟩)
 rw[QE]at L;exact L
def ZTN(ex:Bool)(l:List Nm)(hl:l.length<=1000000)(hs:∀x∈l,x.Lang.size<=1000000/\x.Text.size<=1000000):
 pfn rE 137 [.isl false ex 3<|l.map Nm.enc]=some (.bool<|Zu (ZON l) 0 l&&(decide ((l.length:Int)>=1)&&decide ((l.length:Int)<=8))):=by
 have L:=QT (E:=rE) (live:=[0,3]) (b:=c137L1b) (h:=[]) l (ZON l) (λi=>[(0,.isl false ex 3<|l.map Nm.enc),(3,I i)]) 0
  (λfr=>get fr 0=.isl false ex 3 (l.map Nm.enc)) (λfr=>get fr 2=.bool false) (λk=>rfl)
  (λi x hx hP=>by
   have hg:=Z6 (f:=Nm.enc) hx;have hlt:=Zh<|Z7 hx;have hw:=Zx (n:=i) (by have:=Z7 hx;omega)
   obtain⟨fr',h1,h2,_⟩:=ZRA ex l hl i x hx;obtain⟨z1,z2⟩:=hs x<|ZXk hx;have hn:=ZO9 x.Lang z1;have ht:=ZRx x.Text z2;unfold ZON Uy ZD at hP;simp only[ZWT]at hP;obtain⟨⟨p1,⟨p2,p3⟩,p4⟩,p5⟩:=hP;have q2:decide (x.Script<0)=false:=by have:=of_decide_eq_true p2;exact decide_eq_false<|by omega
   have q3:decide (x.Script>7)=false:=by have:=of_decide_eq_true p3;exact decide_eq_false<|by omega
   rw[p5]at h1;obtain⟨g0,g3⟩:=h2 p5;refine⟨_,by simp only[go_sem,c137L1b,c137L0,hg,hlt,hw,Nm.enc,hn,ht,p1,q2,q3,p4,h1,g0,g3,ZWQ,ZWS,if_true];rfl,?_⟩
   simp only[go_sem])
  (λi x hx hP=>by
   have hg:=Z6 (f:=Nm.enc) hx;have hlt:=Zh<|Z7 hx;obtain⟨fr',h1,_,h2⟩:=ZRA ex l hl i x hx;obtain⟨z1,z2⟩:=hs x<|ZXk hx;have hn:=ZO9 x.Lang z1;have ht:=ZRx x.Text z2;unfold ZON Uy ZD at hP;cases p1:ZZ x.Lang with
   |false=>
    refine⟨_,by simp only[go_sem,c137L1b,hg,hlt,Nm.enc,hn,p1,ZWQ,ZWU];rfl,?_⟩
    simp only[go_sem]
   |true=>
    cases q2:decide (x.Script<0)with
    |true=>
     refine⟨_,by simp only[go_sem,c137L1b,hg,hlt,Nm.enc,hn,p1,q2,ZWQ,ZWS];rfl,?_⟩
     simp only[go_sem]
    |false=>
     have p2:decide (x.Script>=0)=true:=by have:=of_decide_eq_false q2;exact decide_eq_true<|by omega
     cases q3:decide (x.Script>7)with
     |true=>
      refine⟨_,by simp only[go_sem,c137L1b,hg,hlt,Nm.enc,hn,p1,q2,q3,ZWQ,ZWS];rfl,?_⟩
      simp only[go_sem]
     |false=>
      have p3:decide (x.Script<=7)=true:=by have:=of_decide_eq_false q3;exact decide_eq_true<|by omega
      cases p4:Uv x.Text with
      |false=>
       refine⟨_,by simp only[go_sem,c137L1b,hg,hlt,Nm.enc,hn,ht,p1,q2,q3,p4,ZWQ,ZWS,ZWU];rfl,?_⟩
       simp only[go_sem]
      |true=>
       rw[p1,p2,p3,p4,ZWR,ZWR,ZWR,ZWR]at hP;rw[hP]at h1;refine⟨_,by simp only[go_sem,c137L1b,c137L0,hg,hlt,Nm.enc,hn,ht,p1,q2,q3,p4,h1,ZWQ,ZWS,ZX2,if_false];rfl,?_⟩
       simp only[go_sem,h2 hP])
  (⟨_,by simp only[go_sem,c137L1b,ZG,ZWQ];rfl,by simp only[go_sem]⟩)
 obtain⟨fr',h1,h3,h2⟩:=L;have h1':Zg rE [0,3] c137L1b [(0,.isl false ex 3<|l.map Nm.enc),(3,.int .i64 0)] []=_:=h1;rw[Z5 (f:=137) rfl rfl];cases hc:Zu (ZON l) 0 l with
 |false=>rw[hc]at h1';simp only[go_sem,c137,c137L1,h1',h2 hc,ZX2,ZWV]
 |true=>
  rw[hc]at h1';cases c1:decide ((l.length:Int)>=1)<;>simp only[go_sem,c137,c137L1,h1',h3 hc,c1,ZWQ,ZWR,ZWV]
def ZQf{α β:Type}(f:α->β)(P:Nat->β->Bool):∀(l:List α)(i:Nat),Zu P i (l.map f)=Zu (λi x=>P i<|f x) i l
 |[],_=>rfl
 |x::r,i=>by
  show(P i (f x)&&Zu P (i+1) (r.map f))=(P i (f x)&&Zu (λi x=>P i<|f x) (i+1) r)
  rw[ZQf f P r<|i+1]
def ZTO(l:List Nm):(Zu (ZON l) 0 l&&(decide ((l.length:Int)>=1)&&decide ((l.length:Int)<=8)))=Uz l:=by
 unfold Uz ZD;have e:∀i x,ZON l i x=(Uy x&&!((l.map Xh).take i).any (Xg<|Xh x)):=λi x=>by
  unfold ZON;rw[ZP0,<-List.map_take,ZYN];congr 1;apply ZOn;intro y _;have:Z3 emp emp=true:=(Ky _ _).2 rfl;show(!ZOo x y) = !Xg (Xh x) (Xh y)
  unfold ZOo Xg Xh;rw[this,ZWW,ZOZ y.Lang,show(y.Script==x.Script)=(x.Script==y.Script)from Bool.beq_comm]
 rw[ZOY l 0 e,ZOX,ZPn,ZQf,QE Uy];generalize Zu (λi x=>!((l.map Xh).take i).any (Xg<|Xh x)) 0 l=a
 cases l.all Uy<;>cases a<;>simp
def ZTP(ex:Bool)(l:List Nm)(hl:l.length<=1000000)(hs:∀x∈l,x.Lang.size<=1000000/\x.Text.size<=1000000):pfn rE 137 [.isl false ex 3<|l.map Nm.enc]=some (.bool<|Uz l):=by
 rw[ZTN ex l hl hs,ZTO]
def ZO7{α:Type}(eq:α->α->Bool)(b:List α)(i:Nat)(x:α):Bool:=match b[i]? with|some y=>eq x y|none=>true
def ZOj{α:Type}(eq:α->α->Bool)(a b:List α):Bool:=((a.length:Int)==(b.length:Int))&&Zu (ZO7 eq b) 0 a
def ZOO{α:Type}{eq:α->α->Bool}{a b:List α}(h:a.length=b.length){i:Nat}{x:α}(hx:a[i]?=some x):∃y,b[i]?=some y/\ZO7 eq b i x=eq x y:=by
 have:=Z7 hx;have hy:b[i]?=some (b[i]'(by omega)):=ZX5 _
 exact⟨_,hy,by unfold ZO7;rw[hy]⟩
def ZPa{m n:Nat}:((m:Int) != (n:Int)) = !((m:Int)==(n:Int)):=rfl
def ZTQ(e1 e2:Bool)(a b:List Nm)(ha:a.length<=1000000):pfn rE 215 [.isl false e1 3<|a.map Nm.enc,.isl false e2 3<|b.map Nm.enc]=some (.bool<|ZOj Xg a b):=by
 rw[Z5 (f:=215) rfl rfl];unfold ZOj;cases hc:((a.length:Int)==(b.length:Int))with
 |false=>simp only[go_sem,c215,hc,ZWQ,ZPa,ZWU,ZWV]
 |true=>
  have hl:a.length=b.length:=by have:=eq_of_beq hc;omega
  have L:=Uf (E:=rE) (live:=[0,1,5]) (b:=c215L0b) (h:=[]) a (ZO7 Xg b) (λi=>[(0,.isl false e1 3<|a.map Nm.enc),(1,.isl false e2 3<|b.map Nm.enc),(5,I i)]) 0 (λfr=>get fr 4=.bool false) (λk=>rfl)
   (λi x hx hP=>by
    obtain⟨y,hy,e⟩:=ZOO (eq:=Xg) hl hx;rw[e]at hP;have hgx:=Z6 (f:=Nm.enc) hx;have hgy:=Z6 (f:=Nm.enc) hy;have hlt:=Zh<|Z7 hx;have hw:=Zx (n:=i) (by have:=Z7 hx;omega)
    unfold Xg at hP;refine⟨_,by simp only[go_sem,c215L0b,hgx,hgy,hlt,hw,Nm.enc,hP,ZWQ,ZWS];rfl,?_⟩
    simp only[go_sem])
   (λi x hx hP=>by
    obtain⟨y,hy,e⟩:=ZOO (eq:=Xg) hl hx;rw[e]at hP;have hgx:=Z6 (f:=Nm.enc) hx;have hgy:=Z6 (f:=Nm.enc) hy;have hlt:=Zh<|Z7 hx;unfold Xg at hP;refine⟨_,by simp only[go_sem,c215L0b,hgx,hgy,hlt,Nm.enc,hP,ZWQ,ZWU];rfl,?_⟩
    simp only[go_sem])
   (⟨_,by simp only[go_sem,c215L0b,ZG,ZWQ];rfl⟩)
  obtain⟨fr',h1,h2⟩:=L;have h1':Zg rE [0,1,5] c215L0b [(0,.isl false e1 3<|a.map Nm.enc),(1,.isl false e2 3<|b.map Nm.enc),(5,.int .i64 0)] []=_:=h1;cases hA:Zu (ZO7 Xg b) 0 a with
  |false=>rw[hA]at h1';simp only[go_sem,c215,c215L0,hc,h1',h2 hA,ZWQ,ZPa,ZWS,ZWR,ZX2]
  |true=>rw[hA]at h1';simp only[go_sem,c215,c215L0,hc,h1',ZWQ,ZPa,ZWS,ZWR]
def ZTR(e1 e2:Bool)(a b:List Pt)(ha:a.length<=1000000):pfn rE 216 [.isl false e1 2<|a.map Pt.enc,.isl false e2 2<|b.map Pt.enc]=some (.bool<|ZOj QK a b):=by
 rw[Z5 (f:=216) rfl rfl];unfold ZOj;cases hc:((a.length:Int)==(b.length:Int))with
 |false=>simp only[go_sem,c216,hc,ZWQ,ZPa,ZWU,ZWV]
 |true=>
  have hl:a.length=b.length:=by have:=eq_of_beq hc;omega
  have L:=Uf (E:=rE) (live:=[0,1,5]) (b:=c216L0b) (h:=[]) a (ZO7 QK b) (λi=>[(0,.isl false e1 2<|a.map Pt.enc),(1,.isl false e2 2<|b.map Pt.enc),(5,I i)]) 0 (λfr=>get fr 4=.bool false) (λk=>rfl)
   (λi x hx hP=>by
    obtain⟨y,hy,e⟩:=ZOO (eq:=QK) hl hx;rw[e]at hP;have hgx:=Z6 (f:=Pt.enc) hx;have hgy:=Z6 (f:=Pt.enc) hy;have hlt:=Zh<|Z7 hx;have hw:=Zx (n:=i) (by have:=Z7 hx;omega)
    unfold QK at hP;refine⟨_,by simp only[go_sem,c216L0b,hgx,hgy,hlt,hw,Pt.enc,hP,ZWQ,ZWS];rfl,?_⟩
    simp only[go_sem])
   (λi x hx hP=>by
    obtain⟨y,hy,e⟩:=ZOO (eq:=QK) hl hx;rw[e]at hP;have hgx:=Z6 (f:=Pt.enc) hx;have hgy:=Z6 (f:=Pt.enc) hy;have hlt:=Zh<|Z7 hx;unfold QK at hP;refine⟨_,by simp only[go_sem,c216L0b,hgx,hgy,hlt,Pt.enc,hP,ZWQ,ZWU];rfl,?_⟩
    simp only[go_sem])
   (⟨_,by simp only[go_sem,c216L0b,ZG,ZWQ];rfl⟩)
  obtain⟨fr',h1,h2⟩:=L;have h1':Zg rE [0,1,5] c216L0b [(0,.isl false e1 2<|a.map Pt.enc),(1,.isl false e2 2<|b.map Pt.enc),(5,.int .i64 0)] []=_:=h1;cases hA:Zu (ZO7 QK b) 0 a with
  |false=>rw[hA]at h1';simp only[go_sem,c216,c216L0,hc,h1',h2 hA,ZWQ,ZPa,ZWS,ZWR,ZX2]
  |true=>rw[hA]at h1';simp only[go_sem,c216,c216L0,hc,h1',ZWQ,ZPa,ZWS,ZWR]
def ZOk(a b:Ent):Bool:=Z3 a.Id b.Id&&(QL a.An b.An&&QK a.bg b.bg)
def ZQg(a b:Gt):Bool:=
 (a.bq==b.bq)&&((a.Day==b.Day)&&((a.A==b.A)&&((a.B==b.B)&&((a.bv==b.bv)&&(Z3 a.Id b.Id&&(Z3 a.br b.br&&(Z3 a.Text b.Text&&(QL a.An b.An&&QK a.bg b.bg))))))))
def ZP1(a b:Gt):Bool:=ZQg a b&&((((a.Ids.l.length:Int)==(b.Ids.l.length:Int))&&((a.Lst.l.length:Int)==(b.Lst.l.length:Int)))&&(Zu (ZO7 Z3 b.Ids.l) 0 a.Ids.l&&(Zu (ZO7 ZOk b.Lst.l) 0 a.Lst.l&&(ZOj Xg a.bk.l b.bk.l&&ZOj QK a.Path.l b.Path.l))))
def ZTS(a b:Gt)(hl:a.Ids.l.length=b.Ids.l.length)(ha:a.Ids.l.length<=1000000):∃fr',Zg rE [2,3,5] c132L0b [(2,evI a),(3,evI b),(5,.int .i64 0)] []=some (if Zu (ZO7 Z3 b.Ids.l) 0 a.Ids.l=true then .exit 0 else .ret,fr',[])/\
 (Zu (ZO7 Z3 b.Ids.l) 0 a.Ids.l=true->get fr' 2=evI a/\get fr' 3=evI b)/\(Zu (ZO7 Z3 b.Ids.l) 0 a.Ids.l=false->get fr' 4=.bool false):=by
 exact QT (E:=rE) (live:=[2,3,5]) (b:=c132L0b) (h:=[]) a.Ids.l (ZO7 Z3 b.Ids.l) (λi=>[(2,evI a),(3,evI b),(5,I i)]) 0 (λfr=>get fr 2=evI a/\get fr 3=evI b) (λfr=>get fr 4=.bool false) (λk=>rfl)
  (λi x hx hP=>by
   obtain⟨y,hy,e⟩:=ZOO (eq:=Z3) hl hx;rw[e]at hP;have hgx:=Z6 (f:=encS) hx;have hgy:=Z6 (f:=encS) hy;have hlt:=Zh<|Z7 hx;have hw:=Zx (n:=i) (by have:=Z7 hx;omega)
   refine⟨_,by simp only[go_sem,c132L0b,hgx,hgy,hlt,hw,encS,hP,ZWQ,ZWS];rfl,?_⟩
   simp only[go_sem])
  (λi x hx hP=>by
   obtain⟨y,hy,e⟩:=ZOO (eq:=Z3) hl hx;rw[e]at hP;have hgx:=Z6 (f:=encS) hx;have hgy:=Z6 (f:=encS) hy;have hlt:=Zh<|Z7 hx;refine⟨_,by simp only[go_sem,c132L0b,hgx,hgy,hlt,encS,hP,ZWQ,ZWU];rfl,?_⟩
   simp only[go_sem])
  (⟨_,by simp only[go_sem,c132L0b,ZG,ZWQ];rfl,by simp only[go_sem],by simp only[go_sem]⟩)
def ZTT(a b:Gt)(hl:a.Lst.l.length=b.Lst.l.length)(ha:a.Lst.l.length<=1000000):∃fr',Zg rE [2,3,6] c132L1b [(2,evI a),(3,evI b),(6,.int .i64 0)] []=some (if Zu (ZO7 ZOk b.Lst.l) 0 a.Lst.l=true then .exit 2 else .ret,fr',[])/\
 (Zu (ZO7 ZOk b.Lst.l) 0 a.Lst.l=true->get fr' 2=evI a/\get fr' 3=evI b)/\(Zu (ZO7 ZOk b.Lst.l) 0 a.Lst.l=false->get fr' 4=.bool false):=by
 exact QT (E:=rE) (live:=[2,3,6]) (b:=c132L1b) (h:=[]) a.Lst.l (ZO7 ZOk b.Lst.l) (λi=>[(2,evI a),(3,evI b),(6,I i)]) 2 (λfr=>get fr 2=evI a/\get fr 3=evI b) (λfr=>get fr 4=.bool false) (λk=>rfl)
  (λi x hx hP=>by
   obtain⟨y,hy,e⟩:=ZOO (eq:=ZOk) hl hx;rw[e]at hP;have hgx:=Z6 (f:=Ent.enc) hx;have hgy:=Z6 (f:=Ent.enc) hy;have hlt:=Zh<|Z7 hx;have hw:=Zx (n:=i) (by have:=Z7 hx;omega)
   unfold ZOk QL QK at hP;simp only[ZWT]at hP;obtain⟨q1,⟨q2,q3,q4,q5⟩,q6,q7⟩:=hP;refine⟨_,by simp only[go_sem,c132L1b,hgx,hgy,hlt,hw,Ent.enc,q1,q2,q3,q4,q5,q6,q7,ZWQ,ZWS,ZWW];rfl,?_⟩
   simp only[go_sem])
  (λi x hx hP=>by
   obtain⟨y,hy,e⟩:=ZOO (eq:=ZOk) hl hx;rw[e]at hP;have hgx:=Z6 (f:=Ent.enc) hx;have hgy:=Z6 (f:=Ent.enc) hy;have hlt:=Zh<|Z7 hx;have hP':(Z3 x.Id y.Id&&(x.An.N==y.An.N&&(Z3 x.An.bm y.An.bm&&(x.An.Num==y.An.Num&&(x.An.Den==y.An.Den&&(x.bg.X==y.bg.X&&x.bg.Y==y.bg.Y))))))=false:=by
    rw[<-hP];unfold ZOk QL QK;simp only[ZY6]
   refine⟨_,by simp only[go_sem,c132L1b,hgx,hgy,hlt,Ent.enc,hP',ZWQ,ZWU];rfl,?_⟩
   simp only[go_sem])
  (⟨_,by simp only[go_sem,c132L1b,ZG,ZWQ];rfl,by simp only[go_sem],by simp only[go_sem]⟩)
end Go.AM
