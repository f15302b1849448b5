/- What the functions of the program compute, part 2, for TicketLater. No condition. -/
import Derived.Test.YtnjibjdmniajjaaGreatDoorP4a
import Derived.Test.YtnjibjdmniajjaaGreatDoorQ5
set_option linter.unusedVariables false
set_option linter.defProp false
set_option linter.unusedSimpArgs false
set_option linter.unusedSectionVars false
open Nat renaming reduceAdd → qq, reduceSub → qx, reduceMul → qz, reduceLT → qv, reduceLeDiff → qk, reduceBEq → qy
namespace Go.AM
open Go
variable [REdz]
def Ye(V:List Bool):List AV:=V.map .bool
def Wi(x y:Int):Zz false [1] (I x) (I y)=some (x==y):=by simp only[go_sem]
def Z2W(K:List Int)(V:List Bool)(g:V.length=K.length)(x:Int){h:Hp}{b:Nat}(e:h[b]?=some (.map (K.map I)<|Ye V)):
 ∃c,W5 h false [1] false (.bool false) (.mp b) (I x)=some (.bool c):=by
 simp only[W5,e,QW,Wi];rcases Uq (ag:=false) (kk:=[1]) (enc:=I) (eq:=λa b=>a==b) Wi x K 0 with⟨d,f⟩|⟨j,d,f,h3,h4⟩
 .rw[d];exact⟨false,rfl⟩
 .have:(Ye V)[j]?=some (.bool<|V[j]'(by omega)):=by
   unfold Ye;rw[ZT7,ZSu<|by omega];rfl
  rw[d];simp only[this];exact⟨_,rfl⟩
def Z2X(K:List Int)(V:List Bool)(f:V.length=K.length)(x:Int)(c:Bool){h:Hp}{b:Nat}(i:h[b]?=some (.map (K.map I)<|Ye V)):
 ∃(e:List Int)(g:List Bool),g.length=e.length/\e.length<=K.length+1/\YK h false [1] (.mp b) (I x) (.bool c)=some (.bot,setH h b<|.map (e.map I)<|Ye g):=by
 simp only[YK,i,Yo,Wi];rcases Uq (ag:=false) (kk:=[1]) (enc:=I) (eq:=λa b=>a==b) Wi x K 0 with⟨d,k⟩|⟨j,d,k,h3,h4⟩
 .rw[d];refine⟨K++[x],V++[c],by simp[f],by simp,?_⟩
  simp[Ye,ZM,ZH]
 .rw[d];refine⟨K,V.set j c,by simp[f],by omega,?_⟩
  simp[Ye,ZM,ZH,ZSX]
def Vm(a b:Int):Bool:=a==b
def Y2(p:bf):Bool:=QM p.a 0 0&&(QM p.b 0 0&&!(p.a==p.b))
def QV(l:List bf)(i:Nat):List Int:=(l.take i).foldl (λK p=>Qi Vm K p.b) []
def UB(l:List bf):Bool:=Zu (λi p=>Y2 p&&!(QV l i).any (Vm p.b)) 0 l
def WJ:(0<=(0:Int)/\(0:Int)<((2:Nat):Int))=True:=by simp
def XL:(0<=(1:Int)/\(1:Int)<((2:Nat):Int))=True:=by simp
def Z2Y(d s:AV)(c:∀n,bel n d=true)(j:∀n,bel n s=true)(l:List bf)(J:l.length<=1000):
 ∃fr' h',Zg rE [1,3,4,17,18,19,24,25,26] c143L0b [(1,s),(3,.mp 0),(4,.int .i64 0),(17,d),(18,.int .i64 2),(19,.int .i64 0),(24,Iy 2<|l.map bf.enc),(25,I l.length),(26,.int .i64 0)] [.map [] []] =
  some (if UB l=true then .exit 2 else .ret,fr',h')/\
  (UB l=true->(get fr' 1=s/\get fr' 2=.bot/\get fr' 3=.mp 0/\get fr' 17=d/\get fr' 18=.int .i64 2/\get fr' 19=.int .i64 0)/\∃(K:List Int)(V:List Bool),V.length=K.length/\h'=[.map (K.map I)<|Ye V])/\(UB l=false->get fr' 2=.bool false/\get fr' 1=s/\get fr' 3=.mp 0/\get fr' 17=d/\get fr' 18=.int .i64 2/\get fr' 19=.int .i64 0):=by
 have e:∀n(K:List Int),Zd n (K.map I)=true:=λn K=>ZN _<|Zw (λt=>rfl) K
 have g:∀n k,Zd n (ZO k)=true:=λn k=>ZN _<|Ut k
 have n0:((0:Int)).toNat=0:=rfl;have B:((1:Int)).toNat=1:=rfl;have D:((0:Int)==0)=true:=rfl;have L:=Jk (E:=rE) (live:=[1,3,4,17,18,19,24,25,26]) (b:=c143L0b) l (λi p=>Y2 p&&!(QV l i).any (Vm p.b))
  (λi=>[(1,s),(3,.mp 0),(4,.int .i64 0),(17,d),(18,.int .i64 2),(19,.int .i64 0),(24,Iy 2<|l.map bf.enc),(25,I l.length),(26,I i)])
  (λi=>[.map ((QV l i).map I)<|ZO (QV l i).length]) 2
  (λfr h=>(get fr 1=s/\get fr 2=.bot/\get fr 3=.mp 0/\get fr 17=d/\get fr 18=.int .i64 2/\get fr 19=.int .i64 0)/\h=[.map ((QV l l.length).map I)<|ZO (QV l l.length).length])
  (λfr h=>get fr 2=.bool false/\get fr 1=s/\get fr 3=.mp 0/\get fr 17=d/\get fr 18=.int .i64 2/\get fr 19=.int .i64 0) (λi=>rfl)
  (λi x q u=>by
   have w:=Z6 (f:=bf.enc) q;have v:=Zh<|Z7 q;have F:=Zx (n:=i) (by have:=Z7 q;omega)
   have G:QV l (i+1)=Qi Vm (QV l i) x.b:=Us _ [] q;have C:=λA=>Ur (ag:=false) (kk:=[1]) (enc:=I) (eq:=Vm) Wi (QV l i) x.b (h:=.map ((QV l i).map I) (ZO (QV l i).length)::A) (b:=0) rfl
   have y:=λA=>H5 (ag:=false) (kk:=[1]) (enc:=I) (eq:=Vm) Wi (QV l i) x.b (h:=.map ((QV l i).map I) (ZO (QV l i).length)::A) (b:=0) rfl
   rw[G];generalize QV l i=K at C y u⊢;simp only[Y2,ZSq,ZSP]at u;have⟨⟨m,o,r⟩,z⟩:=u;refine⟨_,by simp only[go_sem,c143L0b,w,v,F,bf.enc,WJ,XL,n0,B,ZTg,if_true,Qc,m,o,r,D,y,C,z,e,g,c,j];rfl,?_⟩
   simp only[go_sem])
  (λi x q u=>by
   have w:=Z6 (f:=bf.enc) q;have v:=Zh<|Z7 q;have y:=λA=>H5 (ag:=false) (kk:=[1]) (enc:=I) (eq:=Vm) Wi (QV l i) x.b (h:=.map ((QV l i).map I) (ZO (QV l i).length)::A) (b:=0) rfl
   generalize QV l i=K at y u⊢;unfold Y2 at u;cases m:QM x.a 0 0 with
   |false=>
    refine⟨_,_,by simp only[go_sem,c143L0b,w,v,bf.enc,WJ,n0,ZTg,if_true,Qc,m,e,g,c,j];rfl,?_⟩
    refine⟨?_,?_,?_,?_,?_,?_⟩<;>simp only[go_sem]
   |true=>
   cases o:QM x.b 0 0 with
   |false=>
    refine⟨_,_,by simp only[go_sem,c143L0b,w,v,bf.enc,WJ,XL,n0,B,ZTg,if_true,Qc,m,o,e,g,c,j];rfl,?_⟩
    refine⟨?_,?_,?_,?_,?_,?_⟩<;>simp only[go_sem]
   |true=>
   cases r:x.a==x.b with
   |true=>
    refine⟨_,_,by simp only[go_sem,c143L0b,w,v,bf.enc,WJ,XL,n0,B,ZTg,if_true,Qc,m,o,r,e,g,c,j];rfl,?_⟩
    refine⟨?_,?_,?_,?_,?_,?_⟩<;>simp only[go_sem]
   |false=>
    have z:K.any (Vm x.b)=true:=by simpa[m,o,r]using u
    refine⟨_,_,by simp only[go_sem,c143L0b,w,v,bf.enc,WJ,XL,n0,B,ZTg,if_true,Qc,m,o,r,D,y,z,e,g,c,j];rfl,?_⟩
    refine⟨?_,?_,?_,?_,?_,?_⟩<;>simp only[go_sem])
  (⟨_,_,by simp only[go_sem,c143L0b,ZG];rfl,by refine⟨⟨?_,?_,?_,?_,?_,?_⟩,?_⟩<;>simp only[go_sem]⟩)
 have⟨fr',h',m,o,r⟩:=L;refine⟨fr',h',m,λh=>?_,r⟩
 have⟨z,H⟩:=o h;refine⟨z,QV l l.length,List.replicate (QV l l.length).length true,by simp,?_⟩
 rw[H];simp[Ye,ZO]
def Z2Z(g p:AV)(i:∀n,bel n g=true)(m:∀n,bel n p=true)(l:List bf)(X:l.length<=1000)(E:List Int)(H:List Bool)(F:H.length=E.length):
 ∃fr' h',Zg rE [1,3,4,17,18,19,24,25,26] c143L0b [(1,p),(3,.mp 0),(4,.int .i64 1),(17,g),(18,.int .i64 2),(19,.int .i64 1),(24,Iy 2<|l.map bf.enc),(25,I l.length),(26,.int .i64 0)] [.map (E.map I)<|Ye H] =
  some (if l.all Y2=true then .exit 2 else .ret,fr',h')/\
  (l.all Y2=true->(get fr' 1=p/\get fr' 2=.bot/\get fr' 3=.mp 0/\get fr' 17=g/\get fr' 18=.int .i64 2/\get fr' 19=.int .i64 1)/\∃o,h'=[o]/\∀n,Zj n o=true)/\(l.all Y2=false->get fr' 2=.bool false/\get fr' 1=p/\get fr' 3=.mp 0/\get fr' 17=g/\get fr' 18=.int .i64 2/\get fr' 19=.int .i64 1):=by
 have j:∀n(K:List Int),Zd n (K.map I)=true:=λn K=>ZN _<|Zw (λt=>rfl) K
 have k:∀n(V:List Bool),Zd n (Ye V)=true:=λn V=>ZN _<|Zw (λt=>rfl) V
 have n0:((0:Int)).toNat=0:=rfl;have L:((1:Int)).toNat=1:=rfl;have P:((1:Int)==0)=false:=rfl
 suffices G:∀(e d:List bf)(K:List Int)(V:List Bool),l=d++e->V.length=K.length->
  ∃fr' h',Zg rE [1,3,4,17,18,19,24,25,26] c143L0b [(1,p),(3,.mp 0),(4,.int .i64 1),(17,g),(18,.int .i64 2),(19,.int .i64 1),(24,Iy 2<|l.map bf.enc),(25,I l.length),(26,I d.length)] [.map (K.map I)<|Ye V] =
  some (if e.all Y2=true then .exit 2 else .ret,fr',h')/\
  (e.all Y2=true->(get fr' 1=p/\get fr' 2=.bot/\get fr' 3=.mp 0/\get fr' 17=g/\get fr' 18=.int .i64 2/\get fr' 19=.int .i64 1)/\∃o,h'=[o]/\∀n,Zj n o=true)/\(e.all Y2=false->get fr' 2=.bool false/\get fr' 1=p/\get fr' 3=.mp 0/\get fr' 17=g/\get fr' 18=.int .i64 2/\get fr' 19=.int .i64 1)from G l [] E H rfl F
 intro e;induction e with
 |nil=>
  intro d K V A q;have w:l.length=d.length:=by rw[A];simp
  have U:decide ((d.length:Int)<(l.length:Int))=false:=by rw[w];exact ZG _
  refine⟨_,_,Q7 rfl (by simp only[go_sem,c143L0b,U];rfl) (by simp),λ_=>⟨?_,_,rfl,λn=>by simp only[go_sem,j,k]⟩,λh=>by simp at h⟩
  refine⟨?_,?_,?_,?_,?_,?_⟩<;>simp only[go_sem]
 |cons x e O=>
  intro d K V A q;have D:l[d.length]?=some x:=by rw[A];simp
  have C:=Z6 (f:=bf.enc) D;have B:=Zh<|Z7 D;have R:=Z7 D;have Q:=Zx (n:=d.length)<|by omega
  rw[ZTE];cases s:QM x.a 0 0 with
  |false=>
   have r:Y2 x=false:=by simp[Y2,s]
   rw[r,ZSO];refine⟨_,_,Q7 rfl (by simp only[go_sem,c143L0b,C,B,bf.enc,WJ,n0,ZTg,if_true,Qc,s,j,k,i,m];rfl) (by simp),λh=>(by cases h),λ_=>?_⟩
   refine⟨?_,?_,?_,?_,?_,?_⟩<;>simp only[go_sem]
  |true=>
  cases v:QM x.b 0 0 with
  |false=>
   have r:Y2 x=false:=by simp[Y2,v]
   rw[r,ZSO];refine⟨_,_,Q7 rfl (by simp only[go_sem,c143L0b,C,B,bf.enc,WJ,XL,n0,L,ZTg,if_true,Qc,s,v,j,k,i,m];rfl) (by simp),λh=>(by cases h),λ_=>?_⟩
   refine⟨?_,?_,?_,?_,?_,?_⟩<;>simp only[go_sem]
  |true=>
  cases z:x.a==x.b with
  |true=>
   have r:Y2 x=false:=by simp only[Y2,z,ZSI,ZU2]
   rw[r,ZSO];refine⟨_,_,Q7 rfl (by simp only[go_sem,c143L0b,C,B,bf.enc,WJ,XL,n0,L,ZTg,if_true,Qc,s,v,z,j,k,i,m];rfl) (by simp),λh=>(by cases h),λ_=>?_⟩
   refine⟨?_,?_,?_,?_,?_,?_⟩<;>simp only[go_sem]
  |false=>
   have r:Y2 x=true:=by simp only[Y2,s,v,z,ZSK,ZTl]
   rw[r,ZSB];have⟨c,M⟩:=Z2W K V q x.b (h:=[.map (K.map I)<|Ye V,.row 2 [.agg [I x.a,I x.b]]]) (b:=0) rfl;have⟨S,T,u,_,y⟩:=Z2X K V q x.b c (h:=[.map (K.map I)<|Ye V,.row 2 [.agg [I x.a,I x.b]]]) (b:=0) rfl;have⟨fr',h',N,W⟩:=O (d++[x]) S T (by simp[A]) u
   refine⟨fr',h',?_,W⟩;rw[<-N];have J:((d++[x]).length:Int)=((d.length+1:Nat):Int):=by simp
   rw[J];cases c<;>exact(Yt rfl (by simp only[go_sem,c143L0b,C,B,Q,bf.enc,WJ,XL,n0,L,ZTg,if_true,Qc,s,v,z,P,M,y,j,k,i,m];rfl)).trans (by simp only[go_sem])
def chN(s:Sta):Nat->Int->Bool
 |0,at'=>!decide (at'>=0)
 |k+1,at'=>bif decide (at'>=0)then chN s k (XJ s at')else true
def Fl(s:Sta)(i:StS s)(b d c:AV)(h:Hp):∀k n a,n+k=s.Gc.length+1->
 ∃fr',Zg rE [1,10,11,71,72,73] c143L2b [(1,.iptr false [Iy 6<|s.Fa.map Gk.enc,Iy 5<|s.Gm.map By.enc,Iy 4<|s.Bt.map Ev.enc,Iy 16<|s.Bc.map Ga.enc,Iy 6<|s.Nk.map be.enc,Iy 2<|s.Gc.map bf.enc,Iy 2<|s.ba.map bf.enc]),(10,I a),(11,I (n:Nat)),(71,b),(72,d),(73,c)] h =
  some (if chN s k a=true then .exit 6 else .ret,fr',h)/\(chN s k a=true->get fr' 2=.bot/\get fr' 1=.iptr false [Iy 6<|s.Fa.map Gk.enc,Iy 5<|s.Gm.map By.enc,Iy 4<|s.Bt.map Ev.enc,Iy 16<|s.Bc.map Ga.enc,Iy 6<|s.Nk.map be.enc,Iy 2<|s.Gc.map bf.enc,Iy 2<|s.ba.map bf.enc]/\get fr' 71=b/\get fr' 72=d/\get fr' 73=c)/\(chN s k a=false->get fr' 2=.bool false/\get fr' 1=.iptr false [Iy 6<|s.Fa.map Gk.enc,Iy 5<|s.Gm.map By.enc,Iy 4<|s.Bt.map Ev.enc,Iy 16<|s.Bc.map Ga.enc,Iy 6<|s.Nk.map be.enc,Iy 2<|s.Gc.map bf.enc,Iy 2<|s.ba.map bf.enc]/\get fr' 71=b/\get fr' 72=d/\get fr' 73=c):=by
 intro k;induction k with
 |zero=>
  intro n a j;unfold chN;cases f:decide (a>=0)with
  |false=>
   refine⟨_,Q7 rfl (by simp only[go_sem,c143L2b,f,GH];rfl) (by simp),λ_=>?_,λe=>(by simp at e)⟩
   refine⟨?_,?_,?_,?_,?_⟩<;>simp only[go_sem]
  |true=>
   have g:decide ((n:Int)>(s.Gc.length:Int))=true:=decide_eq_true<|by omega
   refine⟨_,Q7 rfl (by simp only[go_sem,c143L2b,f,g,GH];rfl) (by simp),λe=>(by simp at e),λ_=>?_⟩
   refine⟨?_,?_,?_,?_,?_⟩<;>simp only[go_sem]
 |succ k p=>
  intro n a j;unfold chN;cases f:decide (a>=0)with
  |false=>
   refine⟨_,Q7 rfl (by simp only[go_sem,c143L2b,f,GH];rfl) (by simp),λ_=>?_,λe=>(by simp at e)⟩
   refine⟨?_,?_,?_,?_,?_⟩<;>simp only[go_sem]
  |true=>
   have g:decide ((n:Int)>(s.Gc.length:Int))=false:=decide_eq_false<|by omega
   have r:=i.merged;have q:=Zx (n:=n)<|by omega
   have l:=NJ s i a;have⟨fr',m,o⟩:=p (n+1) (XJ s a)<|by omega
   rw[cond_true];refine⟨fr',?_,o⟩;rw[<-m];exact(Yt rfl (by simp only[go_sem,c143L2b,f,g,q,l,GH];rfl)).trans (by simp only[go_sem])
def WK(s:Sta):Bool:=UB s.Gc&&(s.ba.all Y2&&s.Gc.all (λp=>chN s (s.Gc.length+1) p.b))
def Z30(s:Sta)(y:StS s)(o:AObj)(z:∀n,Zj n o=true):
 ∃fr',Zg rE [1,71,72,73] c143L3b [(1,.iptr false [Iy 6<|s.Fa.map Gk.enc,Iy 5<|s.Gm.map By.enc,Iy 4<|s.Bt.map Ev.enc,Iy 16<|s.Bc.map Ga.enc,Iy 6<|s.Nk.map be.enc,Iy 2<|s.Gc.map bf.enc,Iy 2<|s.ba.map bf.enc]),(71,Iy 2<|s.Gc.map bf.enc),(72,I s.Gc.length),(73,.int .i64 0)] [o] =
  some (if s.Gc.all (λp=>chN s (s.Gc.length+1) p.b)=true then .exit 4 else .ret,fr',[o])/\(s.Gc.all (λp=>chN s (s.Gc.length+1) p.b)=false->get fr' 2=.bool false):=by
 have A:((1:Int)).toNat=1:=rfl;generalize k:AV.iptr false [Iy 6<|s.Fa.map Gk.enc,Iy 5<|s.Gm.map By.enc,Iy 4<|s.Bt.map Ev.enc,Iy 16<|s.Bc.map Ga.enc,Iy 6<|s.Nk.map be.enc,Iy 2<|s.Gc.map bf.enc,Iy 2<|s.ba.map bf.enc]=a;have l:∀n,bel n a=true:=λn=>by rw[<-k];rfl
 have L:=Uf (E:=rE) (live:=[1,71,72,73]) (b:=c143L3b) (h:=[o]) s.Gc (λ_ p=>chN s (s.Gc.length+1) p.b) (λi=>[(1,a),(71,Iy 2<|s.Gc.map bf.enc),(72,I s.Gc.length),(73,I i)]) 4 (λfr=>get fr 2=.bool false) (λi=>rfl)
  (λi x j r=>by
   have w:=Z6 (f:=bf.enc) j;have v:=Zh<|Z7 j;have B:=Zx (n:=i) (by have:=Z7 j;have:=y.merged;omega)
   have⟨fr',q,t,_⟩:=Fl s y (Iy 2<|s.Gc.map bf.enc) (I s.Gc.length) (I i) [o,.row 2 [.agg [I x.a,I x.b]]] (s.Gc.length+1) 0 x.b<|by omega
   rw[r,if_pos rfl,k]at q;have⟨u,m,c,g,d⟩:=t r;rw[k]at m;have e:Zg rE [1,10,11,71,72,73] c143L2b [(1,a),(10,I x.b),(11,.int .i64 0),(71,Iy 2<|s.Gc.map bf.enc),(72,I s.Gc.length),(73,I i)] [o,.row 2 [.agg [I x.a,I x.b]]]=_:=q;refine⟨_,by simp only[go_sem,c143L3b,c143L2,w,v,B,bf.enc,XL,A,ZTg,if_true,e,m,u,c,g,d,z,l];rfl,?_⟩
   simp only[go_sem])
  (λi x j r=>by
   have w:=Z6 (f:=bf.enc) j;have v:=Zh<|Z7 j;have⟨fr',q,_,t⟩:=Fl s y (Iy 2<|s.Gc.map bf.enc) (I s.Gc.length) (I i) [o,.row 2 [.agg [I x.a,I x.b]]] (s.Gc.length+1) 0 x.b<|by omega
   rw[r,k]at q;have⟨u,m,c,g,d⟩:=t r;rw[k]at m;have e:Zg rE [1,10,11,71,72,73] c143L2b [(1,a),(10,I x.b),(11,.int .i64 0),(71,Iy 2<|s.Gc.map bf.enc),(72,I s.Gc.length),(73,I i)] [o,.row 2 [.agg [I x.a,I x.b]]]=_:=q;refine⟨_,by simp only[go_sem,c143L3b,c143L2,w,v,bf.enc,XL,A,ZTg,if_true,e,m,u,c,g,d,z,l,ZSH];rfl,?_⟩
   simp only[go_sem])
  (⟨_,by simp only[go_sem,c143L3b,ZG];rfl⟩)
 rw[QE]at L;exact L
def Z31(s:Sta)(O:StS s):pfn rE 143 [stA s]=some (.bool<|WK s):=by
 have U:∀n(K:List Int),Zd n (K.map I)=true:=λn K=>ZN _<|Zw (λt=>rfl) K
 have W:∀n(V:List Bool),Zd n (Ye V)=true:=λn V=>ZN _<|Zw (λt=>rfl) V
 have S:ixG [Iy 2<|s.Gc.map bf.enc,Iy 2<|s.ba.map bf.enc] 0=some (Iy 2<|s.Gc.map bf.enc):=rfl;have T:ixG [Iy 2<|s.Gc.map bf.enc,Iy 2<|s.ba.map bf.enc] 1=some (Iy 2<|s.ba.map bf.enc):=rfl;have u:decide ((0:Int)<2)=true:=rfl;have r:decide ((1:Int)<2)=true:=rfl;have F:decide ((2:Int)<2)=false:=rfl;have w0:IntKind.i64.wrap ((0:Int)+1)=1:=rfl;have Y:IntKind.i64.wrap ((1:Int)+1)=2:=rfl;have c2:(((0+1+1:Nat):Nat):Int)=2:=rfl;have d:((2:Nat):Int)=2:=rfl;have⟨f1,g1,g,D,G⟩:=Z2Y (Iy 1 [Iy 2<|s.Gc.map bf.enc,Iy 2<|s.ba.map bf.enc]) (.iptr false [Iy 6<|s.Fa.map Gk.enc,Iy 5<|s.Gm.map By.enc,Iy 4<|s.Bt.map Ev.enc,Iy 16<|s.Bc.map Ga.enc,Iy 6<|s.Nk.map be.enc,Iy 2<|s.Gc.map bf.enc,Iy 2<|s.ba.map bf.enc]) (λn=>rfl) (λn=>rfl) s.Gc O.merged
 rw[Z5 (f:=143) rfl rfl];unfold WK;cases x:UB s.Gc with
 |false=>
  rw[x]at g;have⟨B,H,L,i,m,j⟩:=G x;have R:∃fr h,Zg rE [1,3,17,18,19] c143L1b [(1,.iptr false [Iy 6<|s.Fa.map Gk.enc,Iy 5<|s.Gm.map By.enc,Iy 4<|s.Bt.map Ev.enc,Iy 16<|s.Bc.map Ga.enc,Iy 6<|s.Nk.map be.enc,Iy 2<|s.Gc.map bf.enc,Iy 2<|s.ba.map bf.enc]),(3,.mp 0),(17,Iy 1 [Iy 2<|s.Gc.map bf.enc,Iy 2<|s.ba.map bf.enc]),(18,.int .i64 2),(19,.int .i64 0)] [.map [] []]=some (.ret,fr,h)/\get fr 2=.bool false:=by
   refine⟨_,_,Q7 rfl (by simp only[go_sem,c143L1b,c143L0,S,u,g,H,B,L,i,m,j,ZSH];rfl) (by simp),?_⟩
   simp only[go_sem]
  have⟨fr,h,M,z⟩:=R;simp only[go_sem,c143,c143L1,d,M,z]
 |true=>
  rw[x,if_pos rfl]at g;obtain⟨⟨H,B,L,i,m,j⟩,K,V,hKV,rfl⟩:=D x;have⟨f2,Z,e,A,N⟩:=Z2Z (Iy 1 [Iy 2<|s.Gc.map bf.enc,Iy 2<|s.ba.map bf.enc]) (.iptr false [Iy 6<|s.Fa.map Gk.enc,Iy 5<|s.Gm.map By.enc,Iy 4<|s.Bt.map Ev.enc,Iy 16<|s.Bc.map Ga.enc,Iy 6<|s.Nk.map be.enc,Iy 2<|s.Gc.map bf.enc,Iy 2<|s.ba.map bf.enc]) (λn=>rfl) (λn=>rfl) s.ba O.rulings K V hKV
  have w:=Yt (E:=rE) (live:=[1,3,17,18,19]) (b:=c143L1b) (fr:=[(1,.iptr false [Iy 6<|s.Fa.map Gk.enc,Iy 5<|s.Gm.map By.enc,Iy 4<|s.Bt.map Ev.enc,Iy 16<|s.Bc.map Ga.enc,Iy 6<|s.Nk.map be.enc,Iy 2<|s.Gc.map bf.enc,Iy 2<|s.ba.map bf.enc]),(3,.mp 0),(17,Iy 1 [Iy 2<|s.Gc.map bf.enc,Iy 2<|s.ba.map bf.enc]),(18,.int .i64 2),(19,.int .i64 0)]) (h:=[.map [] []]) rfl (by simp only[go_sem,c143L1b,c143L0,S,u,w0,g,H,B,L,i,m,j];rfl)
  simp only[go_sem]at w;cases a:s.ba.all Y2 with
  |false=>
   rw[a]at e;have⟨y,J,C,l,k,q⟩:=N a;have R:∃fr h,Zg rE [1,3,17,18,19] c143L1b [(1,.iptr false [Iy 6<|s.Fa.map Gk.enc,Iy 5<|s.Gm.map By.enc,Iy 4<|s.Bt.map Ev.enc,Iy 16<|s.Bc.map Ga.enc,Iy 6<|s.Nk.map be.enc,Iy 2<|s.Gc.map bf.enc,Iy 2<|s.ba.map bf.enc]),(3,.mp 0),(17,Iy 1 [Iy 2<|s.Gc.map bf.enc,Iy 2<|s.ba.map bf.enc]),(18,.int .i64 2),(19,.int .i64 1)] [.map (K.map I)<|Ye V]=some (.ret,fr,h)/\get fr 2=.bool false:=by
    refine⟨_,_,Q7 rfl (by simp only[go_sem,c143L1b,c143L0,T,r,e,J,y,C,l,k,q,ZSH];rfl) (by simp),?_⟩
    simp only[go_sem]
   have⟨fr,h,M,z⟩:=R;simp only[go_sem,c143,c143L1,d,w,M,z]
  |true=>
   rw[a,if_pos rfl]at e;obtain⟨⟨J,y,C,l,k,q⟩,o,rfl,ho⟩:=A a;have P:=Yt (E:=rE) (live:=[1,3,17,18,19]) (b:=c143L1b) (fr:=[(1,.iptr false [Iy 6<|s.Fa.map Gk.enc,Iy 5<|s.Gm.map By.enc,Iy 4<|s.Bt.map Ev.enc,Iy 16<|s.Bc.map Ga.enc,Iy 6<|s.Nk.map be.enc,Iy 2<|s.Gc.map bf.enc,Iy 2<|s.ba.map bf.enc]),(3,.mp 0),(17,Iy 1 [Iy 2<|s.Gc.map bf.enc,Iy 2<|s.ba.map bf.enc]),(18,.int .i64 2),(19,.int .i64 1)]) (h:=[.map (K.map I)<|Ye V]) rfl (by simp only[go_sem,c143L1b,c143L0,T,r,Y,e,J,y,C,l,k,q];rfl)
   simp only[go_sem]at P;have Q:=Q7 (E:=rE) (live:=[1,3,17,18,19]) (b:=c143L1b) (fr:=[(1,.iptr false [Iy 6<|s.Fa.map Gk.enc,Iy 5<|s.Gm.map By.enc,Iy 4<|s.Bt.map Ev.enc,Iy 16<|s.Bc.map Ga.enc,Iy 6<|s.Nk.map be.enc,Iy 2<|s.Gc.map bf.enc,Iy 2<|s.ba.map bf.enc]),(3,.mp 0),(17,Iy 1 [Iy 2<|s.Gc.map bf.enc,Iy 2<|s.ba.map bf.enc]),(18,.int .i64 2),(19,.int .i64 2)]) (h:=[o]) rfl (by simp only[go_sem,c143L1b,F];rfl) (by simp)
   have⟨f4,v,X⟩:=Z30 s O o ho;cases c:s.Gc.all (λp=>chN s (s.Gc.length+1) p.b)with
   |true=>rw[c,if_pos rfl]at v;simp only[go_sem,c143,c143L1,c143L3,d,w,P,Q,v]
   |false=>rw[c]at v;simp only[go_sem,c143,c143L1,c143L3,d,w,P,Q,v,X c,ZSH]
def c141_eq:c141=.seq s141p0 (.seq s141p1<|.seq s141p2<|.seq s141p3<|.seq s141p4<|.seq s141p5<|.seq s141p6<|.seq s141p7<|.seq s141p8<|.seq s141p9<|.seq s141p10 .ret):=rfl
def Zo(d:Ga):AV:=.agg [.str d.Id,.str d.Ev,.str d.By,I d.bh,I d.An.N,.str d.An.bn,I d.An.Num,I d.An.Den,I d.bg.X,I d.bg.Y,I d.From,I d.Ld,.isl false d.After.ex 1<|d.After.l.map encS,I d.Why,I d.bz,.str d.Veil]
def exD(d:Ga):Bool:=d.Ld==-1
def K8(s:Sta)(i:Int)(d:Ga):Bool:=d.After.l.all λid=>!decide (Zn s id<=i)
def Yf(d:Ga):Int:=(d.After.l.length:Int)
def He(d:Ga):Bool:=
 bif d.Why==12 then Yf d==0 else bif d.Why==11 then Yf d==0&&Z3 d.Veil emp else bif d.Why==9 then ZD (Yf d) 2 8&&Z3 d.Veil emp else bif d.Why==10 then Yf d==1&&Z3 d.Veil emp else false
def UC(d:Ga):Bool:=(((!(exD d==(d.Why==0)))||(exD d&&decide (Yf d>0)))||(!exD d&&!He d))||!Jq d.After.l
def NM(d:Ga):Gt:=⟨0,0,0,0,d.bz,d.Id,emp,d.Veil,⟨false,[]⟩,⟨false,[]⟩,⟨0,emp,0,0⟩,⟨0,0⟩,⟨false,[]⟩,⟨false,[]⟩⟩
def Hf(d:Ga):Gt:=⟨0,0,0,0,0,d.Id,d.Ev,d.By,⟨false,[]⟩,⟨false,[]⟩,d.An,d.bg,⟨false,[]⟩,⟨false,[]⟩⟩
def NN(d:Ga):Bool:=Z3 d.Ev emp&&(Z3 d.By emp&&(QL d.An ⟨0,emp,0,0⟩&&(QK d.bg ⟨0,0⟩&&Q9 {NM d with br:=15})))
def WL(s:Sta)(k:Int):Int:=match s.Bt[k.toNat]? with|some b=>b.Ld|none=>0
def QF(s:Sta)(k:Int):Int:=match s.Gm[k.toNat]? with|some b=>b.Ld|none=>0
def NO(s:Sta)(d:Ga):Bool:=((d.bz != 0||decide (Y1 s d.Ev<0))||decide (ZL s d.By<0))||(exD d&&(WL s (Y1 s d.Ev) != -1||QF s (ZL s d.By) != -1))
def Hg(s:Sta)(i:Int)(d:Ga):Bool:=
 K8 s i d&&(!UC d&&(bif Z3 d.Veil emp then !NO s d&&Q9 {Hf d with br:=6}else NN d))
structure DoS(d:Ga):Prop where
 after:d.After.l.length<=100
 id:d.Id.size<=1000
 building:d.Ev.size<=1000
 street:d.By.size<=1000
 veil:d.Veil.size<=1000
abbrev stI(s:Sta):AV:=.iptr false [Iy 6<|s.Fa.map Gk.enc,Iy 5<|s.Gm.map By.enc,Iy 4<|s.Bt.map Ev.enc,Iy 16<|s.Bc.map Ga.enc,Iy 6<|s.Nk.map be.enc,Iy 2<|s.Gc.map bf.enc,Iy 2<|s.ba.map bf.enc]
def Z32(s:Sta)(o:StS s)(i:Int)(d:Ga)(q:DoS d):∃fr',Zg rE [1,2,5,6,22,23,24] c141L0b [(1,I i),(2,stI s),(5,.ptr 0 0 0 1),(6,.bool<|exD d),(22,.isl false d.After.ex 1<|d.After.l.map encS),(23,I d.After.l.length),(24,.int .i64 0)] [.row 16 [Zo d]] =
 some (if K8 s i d=true then .exit 0 else .ret,fr',[.row 16 [Zo d]])/\(K8 s i d=true->get fr' 2=stI s/\get fr' 4=.bot/\get fr' 5=.ptr 0 0 0 1/\get fr' 6=.bool (exD d))/\(K8 s i d=false->get fr' 4=.bool false):=by
 have L:=QT (E:=rE) (live:=[1,2,5,6,22,23,24]) (b:=c141L0b) (h:=[.row 16 [Zo d]]) d.After.l (λ_ id=>!decide (Zn s id<=i))
  (λj=>[(1,I i),(2,stI s),(5,.ptr 0 0 0 1),(6,.bool<|exD d),(22,.isl false d.After.ex 1<|d.After.l.map encS),(23,I d.After.l.length),(24,I j)]) 0
  (λfr=>get fr 2=stI s/\get fr 4=.bot/\get fr 5=.ptr 0 0 0 1/\get fr 6=.bool (exD d)) (λfr=>get fr 4=.bool false) (λj=>rfl)
  (λj x c e=>by
   have m:=Z6 (f:=encS) c;have g:=Zh<|Z7 c;have p:=Zx (n:=j) (by have:=Z7 c;have:=q.after;omega)
   have k:=find_ok s o x;have a:decide (Zn s x<=i)=false:=by simpa using e
   refine⟨_,by simp only[go_sem,c141L0b,m,g,p,encS,k,a];rfl,?_⟩
   simp only[go_sem])
  (λj x c e=>by
   have m:=Z6 (f:=encS) c;have g:=Zh<|Z7 c;have k:=find_ok s o x;have a:decide (Zn s x<=i)=true:=by simpa using e
   refine⟨_,by simp only[go_sem,c141L0b,m,g,encS,k,a];rfl,?_⟩
   simp only[go_sem])
  (⟨_,by simp only[go_sem,c141L0b,ZG];rfl,by refine⟨?_,?_,?_,?_⟩<;>simp only[go_sem]⟩)
 rw[QE]at L;exact L
def Fm(s:Sta)(n:StS s)(i:Nat)(d:Ga)(r:DoS d)(k:s.Bc[i]?=some d)(a:ACode):
 (K8 s i d=true->Zb rE (.seq s141p0<|.seq s141p1<|.seq s141p2<|.seq s141p3 a) [(0,stA s),(1,I i)] []=Zb rE a [(2,stI s),(4,.bot),(5,.ptr 0 0 0 1),(6,.bool<|exD d)] [.row 16 [Zo d]])/\
 (K8 s i d=false->∃fr h,Zb rE (.seq s141p0<|.seq s141p1<|.seq s141p2<|.seq s141p3 a) [(0,stA s),(1,I i)] []=some (.ret,fr,h)/\get fr 4=.bool false):=by
 have⟨fr',b,l,o⟩:=Z32 s n i d r;have j:=Z6 (f:=Ga.enc) k;have e:(d.Ld==-1)=exD d:=rfl;unfold Zo at b⊢;constructor
 .intro c;rw[if_pos c]at b;have⟨q,g,m,p⟩:=l c;simp only[go_sem,s141p0,s141p1,s141p2,s141p3,c141L0,j,Ga.enc,NL.enc,e,b,q,g,m,p]
 .intro c;rw[c]at b;have g:=o c;simp only[ZSH,if_false]at b;refine⟨_,_,by simp only[go_sem,s141p0,s141p1,s141p2,s141p3,c141L0,j,Ga.enc,NL.enc,e,b,g];rfl,?_⟩
  simp only[go_sem]
def XM(d:Ga):AObj:=.map [.int .i64 12,.int .i64 11,.int .i64 9,.int .i64 10] [.bool<|Yf d==0,.bool<|Yf d==0&&Z3 d.Veil emp,.bool<|ZD (Yf d) 2 8&&Z3 d.Veil emp,.bool<|Yf d==1&&Z3 d.Veil emp]
def Z33(d a:Bool)(c b:List Nat)(e f:Option Nat)(k v j u:AV):Kp ⟨d,c,e,some (k,v)⟩ ⟨a,b,f,some (j,u)⟩=YF k j:=(rfl)
def Fo(a b:Int):YF (.int .i64 a) (.int .i64 b)=(a != b):=by simp[YF]
def Z34(x:AObj)(a vs:List AV)(k:Int)(v:AV)(b:ZW false [1] (I k) a 0=some none):YK [x,.map a vs] false [1] (.mp 1) (I k) v=some (.bot,[x,.map (a++[I k])<|vs++[v]]):=by
 simp only[YK,ZTp,ZT6,Yo,Wi,b,ZM,ZH,GN,GM]
def Js(b:Nat)(v:AV):Bool:=match v with| .mp c=>c==b|_=>false
def Z35(b:Nat):Js b (.mp b)=true:=by simp[Js]
def Z36{b:Nat}{v:AV}(h:Js b v=true):v=.mp b:=by
 cases v with
 |mp c=>have:c=b:=by simpa[Js]using h
        rw[this]
 |_=>simp[Js]at h
def Z37(fr:Fr)(x:AObj)(a vs:List AV)(k:Int)(t:Nat)(d:Js 1 (get fr 37)=true)(m:ZW false [1] (I k) a 0=some none)(e:t≠37):
 Za rE (.ins false [1] (.t 37) (.c<|.int .i64 k)<|.t t) fr [x,.map a vs]=⟨false,[],some 1,some (I k,get fr t)⟩:=by
 have g:=Z36 d;obtain⟨v,l⟩:∃v,get fr t=v:=⟨_,rfl⟩;rw[l];have b:get (Z2 (AOp.ins false [1] (.t 37) (.c<|.int .i64 k)<|.t t).slots fr) 37=.mp 1:=by
  simp[AOp.slots,Arg.slots,Z2,get,g]
 have i:get (Z2 (AOp.ins false [1] (.t 37) (.c<|.int .i64 k)<|.t t).slots fr) t=v:=by
  have:(37==t)=false:=by rw[beq_eq_false_iff_ne];exact λh=>e h.symm
  simp[AOp.slots,Arg.slots,Z2,get,this,l]
 have j:YF (I k) (I k)=false:=by rw[Fo];simp
 have p:Za rE (.ins false [1] (.t 37) (.c<|.int .i64 k)<|.t t) fr [x,.map a vs]=QG rE (Z2 (AOp.ins false [1] (.t 37) (.c<|.int .i64 k)<|.t t).slots fr) [x,.map a vs] (.ins false [1] (.t 37) (.c<|.int .i64 k)<|.t t) (match Z8 rE (Z2 (AOp.ins false [1] (.t 37) (.c<|.int .i64 k)<|.t t).slots fr) [x,.map a vs] ([x,.map a vs]:Hp).length (.ins false [1] (.t 37) (.c<|.int .i64 k)<|.t t)with|some r=>r.2.2|none=>none):=rfl
 rw[p];generalize Z2 (AOp.ins false [1] (.t 37) (.c<|.int .i64 k)<|.t t).slots fr=f at b i;have n:Z8 rE f [x,.map a vs] ([x,.map a vs]:Hp).length (.ins false [1] (.t 37) (.c<|.int .i64 k)<|.t t)=some (.bot,[1],some (1,.map (a++[I k])<|vs++[v])):=by
  simp only[Z8,ev,b,i,ZTp,ZT6,Yo,Wi,m]
 have o:Wm rE f [x,.map a vs] (.ins false [1] (.t 37) (.c<|.int .i64 k)<|.t t)=some (I k,v):=by
  simp only[Wm,ev,b,i,ZTp,ZT6,m,j,cond_false]
 rw[n];simp only[QG,o,ZT3]
def Z38(s:Sta)(d:Ga)(a:ACode):
 Zb rE (.seq s141p4<|.seq s141p5 a) [(2,stI s),(4,.bot),(5,.ptr 0 0 0 1),(6,.bool<|exD d)] [.row 16 [Zo d]] =
  Zb rE a [(2,stI s),(5,.ptr 0 0 0 1),(6,.bool<|exD d),(9,I<|Yf d),(10,.mp 1)] [.row 16 [Zo d],XM d]:=by
 have r:((d.After.l.length:Nat):Int)=Yf d:=rfl;have f:ZW false [1] (.int .i64 12) [] 0=some none:=rfl;have g:ZW false [1] (.int .i64 11) [.int .i64 12] 0=some none:=rfl;have o:ZW false [1] (.int .i64 9) [.int .i64 12,.int .i64 11] 0=some none:=rfl;have m:ZW false [1] (.int .i64 10) [.int .i64 12,.int .i64 11,.int .i64 9] 0=some none:=rfl;have p:((11:Int) != 12)=true:=rfl;have k:((9:Int) != 12)=true:=rfl;have i:((9:Int) != 11)=true:=rfl;have e:((10:Int) != 12)=true:=rfl;have h:((10:Int) != 11)=true:=rfl;have n:((10:Int) != 9)=true:=rfl;have t:∀x:AV,Zd 1 [x]=bel 1 x:=λx=>by simp[Zd]
 unfold XM Zo;cases q:Yf d==0<;>cases j:Yf d==1<;>cases b:ZD (Yf d) 2 8<;>cases c:Z3 d.Veil emp<;>
  simp only[go_sem,s141p4,s141p5,r,q,j,b,c,DY,Z37,Z35,Z34,f,g,o,m,Z33,Fo,p,k,i,e,h,n,ne_eq,Nat.reduceEqDiff,not_false_eq_true]
def Z39(d:Ga)(x:AObj):W5 [x,XM d] false [1] false (.bool false) (.mp 1) (I d.Why)=some (.bool<|He d):=by
 unfold XM He;simp only[W5,ZTp,ZT6,QW,Wi,ZW];cases c:d.Why==12<;>cases e:d.Why==11<;>cases a:d.Why==9<;>cases b:d.Why==10<;>rfl
set_option maxHeartbeats 4000000 in
def Fp(s:Sta)(d:Ga)(q:DoS d)(b:ACode):
 (UC d=false->Zb rE (.seq s141p6 b) [(2,stI s),(5,.ptr 0 0 0 1),(6,.bool<|exD d),(9,I<|Yf d),(10,.mp 1)] [.row 16 [Zo d],XM d]=Zb rE b [(2,stI s),(5,.ptr 0 0 0 1),(6,.bool<|exD d),(90,.bool false)] [.row 16 [Zo d],XM d])/\
 (UC d=true->∃fr h,Zb rE (.seq s141p6 b) [(2,stI s),(5,.ptr 0 0 0 1),(6,.bool<|exD d),(9,I<|Yf d),(10,.mp 1)] [.row 16 [Zo d],XM d]=some (.ret,fr,h)/\get fr 4=.bool false):=by
 have g:=Z39 d;have c:=Fj d.After.l d.After.ex (by have:=q.after;omega)
 have k:(true==true)=true:=rfl;have o:(true==false)=false:=rfl;have n:(false==true)=false:=rfl;have i:(false==false)=true:=rfl;generalize XM d=m at g⊢;unfold UC Zo;cases r:exD d<;>cases j:d.Why==0<;>cases a:decide (Yf d>0)<;>cases f:He d<;>cases e:Jq d.After.l<;>rw[f]at g<;>rw[e]at c<;>
  (constructor<;>intro p<;>first|(exact absurd p<|by decide)|skip)
 all_goals first
  |(simp only[go_sem,s141p6,j,a,g,c,k,o,n,i];done)
  |(refine⟨_,_,by simp only[go_sem,s141p6,j,a,g,c,k,o,n,i];rfl,?_⟩;simp only[go_sem])
def Z3a(d:Ga)(a:DoS d):EvS (NM d):=⟨ZSt _,ZSt _,ZSt _,ZSt _,a.id,ZSt _,a.veil⟩
def Z3b(d:Ga)(a:DoS d):EvS (Hf d):=⟨ZSt _,ZSt _,ZSt _,ZSt _,a.id,a.building,a.street⟩
def Fq(s:Sta)(d:Ga)(n:DoS d)(m:AObj)(b:ACode):
 (Z3 d.Veil emp=true->Zb rE (.seq s141p7 b) [(2,stI s),(5,.ptr 0 0 0 1),(6,.bool<|exD d),(90,.bool false)] [.row 16 [Zo d],m]=Zb rE b [(2,stI s),(5,.ptr 0 0 0 1),(6,.bool<|exD d),(93,.bool false)] [.row 16 [Zo d],m])/\
 (Z3 d.Veil emp=false->∃fr h,Zb rE (.seq s141p7 b) [(2,stI s),(5,.ptr 0 0 0 1),(6,.bool<|exD d),(90,.bool false)] [.row 16 [Zo d],m]=some (.ret,fr,h)/\get fr 4=.bool (NN d)):=by
 have l:=Wg 15 (NM d)<|Z3a d n;have k:pfn rE 140 [I 15,.agg [I 0,I 0,I 0,I 0,I d.bz,.str d.Id,.str emp,.str d.Veil,Iy 1 [],Iy 3 [],I 0,.str emp,I 0,I 0,I 0,I 0,Iy 2 [],Iy 7 []]]=_:=l;have f:(d.An.N==0&&(Z3 d.An.bn emp&&(d.An.Num==0&&d.An.Den==0)))=QL d.An ⟨0,emp,0,0⟩:=rfl;have g:(d.bg.X==0&&d.bg.Y==0)=QK d.bg ⟨0,0⟩:=rfl;unfold NN Zo;constructor
 .intro e;simp only[go_sem,s141p7,e]
 .intro e;cases i:Z3 d.Ev emp with
  |false=>refine⟨_,_,by simp only[go_sem,s141p7,e,i];rfl,?_⟩;simp only[go_sem]
  |true=>
  cases j:Z3 d.By emp with
  |false=>refine⟨_,_,by simp only[go_sem,s141p7,e,i,j];rfl,?_⟩;simp only[go_sem]
  |true=>
  cases a:QL d.An ⟨0,emp,0,0⟩with
  |false=>refine⟨_,_,by simp only[go_sem,s141p7,e,i,j,f,a];rfl,?_⟩;simp only[go_sem]
  |true=>
  cases c:QK d.bg ⟨0,0⟩with
  |false=>refine⟨_,_,by simp only[go_sem,s141p7,e,i,j,f,a,g,c];rfl,?_⟩;simp only[go_sem]
  |true=>refine⟨_,_,by simp only[go_sem,s141p7,e,i,j,f,a,g,c,k];rfl,?_⟩;simp only[go_sem]
def QC{b:Type}{P:b->Bool}{l:List b}(h:decide (Zp P l 0<0)=false):∃(j:Nat)(x:b),Zp P l 0=(j:Int)/\l[j]?=some x:=by
 rcases UA P l 0 with⟨a,_⟩|⟨j,x,a,h2,_⟩
 .rw[a]at h;simp at h
 .exact⟨j,x,by rw[a];omega,h2⟩
def Z3c(s:Sta)(A:StS s)(d:Ga)(C:DoS d)(m:AObj):
 ∃fr h,Zb rE (.seq s141p8<|.seq s141p9<|.seq s141p10 .ret) [(2,stI s),(5,.ptr 0 0 0 1),(6,.bool<|exD d),(93,.bool false)] [.row 16 [Zo d],m]=some (.ret,fr,h)/\get fr 4=.bool (!NO s d&&Q9 {Hf d with br:=6}):=by
 have B:=Wg 6 (Hf d)<|Z3b d C;have n:pfn rE 140 [I 6,.agg [I 0,I 0,I 0,I 0,I 0,.str d.Id,.str d.Ev,.str d.By,Iy 1 [],Iy 3 [],I d.An.N,.str d.An.bn,I d.An.Num,I d.An.Den,I d.bg.X,I d.bg.Y,Iy 2 [],Iy 7 []]]=_:=B;have e:=Hb s A d.Ev;have g:=K7 s A d.By;unfold NO Zo;cases l:d.bz != 0 with
 |true=>refine⟨_,_,by simp only[go_sem,s141p8,s141p9,s141p10,e,g,l];rfl,?_⟩;simp only[go_sem]
 |false=>
 cases i:decide (Y1 s d.Ev<0)with
 |true=>refine⟨_,_,by simp only[go_sem,s141p8,s141p9,s141p10,e,g,l,i];rfl,?_⟩;simp only[go_sem]
 |false=>
 cases a:decide (ZL s d.By<0)with
 |true=>refine⟨_,_,by simp only[go_sem,s141p8,s141p9,s141p10,e,g,l,i,a];rfl,?_⟩;simp only[go_sem]
 |false=>
 have⟨j,x,E,w⟩:=QC i;have⟨k,y,D,z⟩:=QC a;have p:Y1 s d.Ev=(j:Int):=E;have o:ZL s d.By=(k:Int):=D;have q:WL s (Y1 s d.Ev)=x.Ld:=by rw[p];simp[WL,w]
 have r:QF s (ZL s d.By)=y.Ld:=by rw[o];simp[QF,z]
 have u:=Z6 (f:=Ev.enc) w;have v:=Z6 (f:=By.enc) z;rw[q,r];rw[p]at e i;rw[o]at g a;cases t:exD d with
 |false=>refine⟨_,_,by simp only[go_sem,s141p8,s141p9,s141p10,e,g,l,i,a,n];rfl,?_⟩;simp only[go_sem]
 |true=>
 cases b:x.Ld != -1 with
 |true=>refine⟨_,_,by simp only[go_sem,s141p8,s141p9,s141p10,e,g,l,i,a,u,Ev.enc,NL.enc,b];rfl,?_⟩;simp only[go_sem]
 |false=>
 cases c:y.Ld != -1 with
 |true=>refine⟨_,_,by simp only[go_sem,s141p8,s141p9,s141p10,e,g,l,i,a,u,v,Ev.enc,By.enc,NL.enc,b,c];rfl,?_⟩;simp only[go_sem]
 |false=>refine⟨_,_,by simp only[go_sem,s141p8,s141p9,s141p10,e,g,l,i,a,u,v,Ev.enc,By.enc,NL.enc,b,c,n];rfl,?_⟩;simp only[go_sem]
def Fs(s:Sta)(l:StS s)(i:Nat)(d:Ga)(k:DoS d)(m:s.Bc[i]?=some d):pfn rE 141 [stA s,I i]=some (.bool<|Hg s i d):=by
 rw[Z5 (f:=141) (c:=c141) rfl rfl,c141_eq];have p:QP 0 [stA s,I i]=[(0,stA s),(1,I i)]:=rfl;rw[p];unfold Hg;have e:∀(fr:Fr)(h:Hp)(b:Bool),get fr 4=.bool b->frz (fnd [ResVar.tmp 4]<|some (.ret,fr,h))=some (.bool b):=by
  intro fr h b q;simp only[go_sem,q]
 cases o:K8 s i d with
 |false=>
  obtain⟨fr,h,j,g⟩:=(Fm s l i d k m _).2 o;rw[j];exact e fr h false g
 |true=>
  rw[(Fm s l i d k m _).1 o,Z38];cases n:UC d with
  |true=>
   obtain⟨fr,h,j,g⟩:=(Fp s d k _).2 n;rw[j];exact e fr h false g
  |false=>
   rw[(Fp s d k _).1 n];cases a:Z3 d.Veil emp with
   |false=>
    obtain⟨fr,h,j,g⟩:=(Fq s d k (XM d) _).2 a;rw[j];exact e fr h _ g
   |true=>
    rw[(Fq s d k (XM d) _).1 a];obtain⟨fr,h,j,g⟩:=Z3c s l d k<|XM d;rw[j];exact e fr h _ g
structure StE(s:Sta):Prop where
 sizes:StS s
 regions:∀x∈s.Fa,x.bm.l.length<=100/\x.Ring.l.length<=100/\x.Id.size<=1000
 streets:∀x∈s.Gm,x.bm.l.length<=100/\x.Line.l.length<=100/\x.Id.size<=1000
 buildings:∀x∈s.Bt,x.Ring.l.length<=100/\x.Id.size<=1000
 doors:∀x∈s.Bc,DoS x
 units:∀x∈s.Nk,x.Id.size<=1000/\x.Ga.size<=1000/\x.Text.size<=1000
def Jt(x:Gk):Gt:=⟨0,0,x.br,0,0,x.Id,emp,emp,⟨false,[]⟩,⟨false,[]⟩,⟨0,emp,0,0⟩,⟨0,0⟩,x.Ring,⟨false,[]⟩⟩
def Ju(x:By):Gt:=⟨0,0,0,0,0,x.Id,emp,emp,⟨false,[]⟩,⟨false,[]⟩,⟨0,emp,0,0⟩,⟨0,0⟩,x.Line,⟨false,[]⟩⟩
def Jv(x:Ev):Gt:=⟨0,0,0,0,0,x.Id,emp,emp,⟨false,[]⟩,⟨false,[]⟩,⟨0,emp,0,0⟩,⟨0,0⟩,x.Ring,⟨false,[]⟩⟩
def Vn(x:be):Gt:=⟨0,0,0,0,0,x.Id,x.Ga,x.Text,⟨false,[]⟩,⟨false,[]⟩,⟨0,emp,0,0⟩,⟨0,0⟩,⟨false,[]⟩,⟨false,[]⟩⟩
def Vo(x:Gk):Bool:=QM x.bh x.Ld 0&&(Jp x.bm.l x.bm.ex&&Q9 {Jt x with br:=1})
def Vp(x:By):Bool:=QM x.bh x.Ld 0&&(Jp x.bm.l x.bm.ex&&Q9 {Ju x with br:=2})
def Vq(x:Ev):Bool:=QM x.bh x.Ld 0&&Q9 {Jv x with br:=5}
def Vr(s:Sta)(i:Nat)(x:Ga):Bool:=QM x.bh x.Ld x.From&&Hg s i x
def QN(s:Sta)(k:Int):Int:=match s.Bc[k.toNat]? with|some d=>d.Ld|none=>0
def Jw(s:Sta)(x:be):Bool:=(x.Ld==-1&&(x.Why != 0||QN s (Zn s x.Ga) != -1))||((x.Ld != -1&&x.Why != 12)&&x.Why != 11)
def Vs(s:Sta)(x:be):Bool:=!decide (Zn s x.Ga<0)&&(QM 0 x.Ld x.From&&(Q9 {Vn x with br:=7}&&!Jw s x))
def Jx(s:Sta):Bool:=s.Fa.all Vo&&(s.Gm.all Vp&&(s.Bt.all Vq&&(Zu (Vr s) 0 s.Bc&&(s.Nk.all (Vs s)&&(Jq (Qp s)&&(Wh s.Bc&&WK s))))))
def Z3d(s:Sta)(p:StE s):∃fr',Zg rE [1,15,16,17] c77L0b [(1,stI s),(15,Iy 6<|s.Fa.map Gk.enc),(16,I s.Fa.length),(17,.int .i64 0)] [] =
 some (if Zu (λ_ x=>Vo x) 0 s.Fa=true then .exit 0 else .ret,fr',[])/\(Zu (λ_ x=>Vo x) 0 s.Fa=true->get fr' 1=stI s/\get fr' 2=.bot)/\(Zu (λ_ x=>Vo x) 0 s.Fa=false->get fr' 2=.bool false):=by
 have L:=QT (E:=rE) (live:=[1,15,16,17]) (b:=c77L0b) (h:=[]) s.Fa (λ_ x=>Vo x)
  (λi=>[(1,stI s),(15,Iy 6<|s.Fa.map Gk.enc),(16,I s.Fa.length),(17,I i)]) 0
  (λfr=>get fr 1=stI s/\get fr 2=.bot) (λfr=>get fr 2=.bool false) (λi=>rfl)
  (λi x c g=>by
   have m:=Z6 (f:=Gk.enc) c;have k:=Zh<|Z7 c;have v:=Zx (n:=i) (by have:=Z7 c;have:=p.sizes.regions;omega)
   have t:=ZSy c;have⟨r,o,q⟩:=p.regions x t;have a:=Hc x.bm.l x.bm.ex r;have d:pfn rE 140 [I 1,.agg [I 0,I 0,I x.br,I 0,I 0,.str x.Id,.str emp,.str emp,Iy 1 [],Iy 3 [],I 0,.str emp,I 0,I 0,I 0,I 0,.isl false x.Ring.ex 2<|x.Ring.l.map Pt.enc,Iy 7 []]]=some (.bool<|Q9 {Jt x with br:=1}):=Wg 1 (Jt x) ⟨ZSt _,ZSt _,o,ZSt _,q,ZSt _,ZSt _⟩
   simp only[Vo,ZSq]at g;have⟨e,j,u⟩:=g;refine⟨_,by simp only[go_sem,c77L0b,m,k,v,Gk.enc,NL.enc,Qc,a,d,e,j,u];rfl,?_⟩
   simp only[go_sem])
  (λi x c g=>by
   have m:=Z6 (f:=Gk.enc) c;have k:=Zh<|Z7 c;have t:=ZSy c;have⟨r,o,q⟩:=p.regions x t;have a:=Hc x.bm.l x.bm.ex r;have d:pfn rE 140 [I 1,.agg [I 0,I 0,I x.br,I 0,I 0,.str x.Id,.str emp,.str emp,Iy 1 [],Iy 3 [],I 0,.str emp,I 0,I 0,I 0,I 0,.isl false x.Ring.ex 2<|x.Ring.l.map Pt.enc,Iy 7 []]]=some (.bool<|Q9 {Jt x with br:=1}):=Wg 1 (Jt x) ⟨ZSt _,ZSt _,o,ZSt _,q,ZSt _,ZSt _⟩
   unfold Vo at g;cases e:QM x.bh x.Ld 0 with
   |false=>
    refine⟨_,by simp only[go_sem,c77L0b,m,k,Gk.enc,NL.enc,Qc,e];rfl,?_⟩
    simp only[go_sem]
   |true=>
   cases j:Jp x.bm.l x.bm.ex with
   |false=>
    refine⟨_,by simp only[go_sem,c77L0b,m,k,Gk.enc,NL.enc,Qc,a,e,j];rfl,?_⟩
    simp only[go_sem]
   |true=>
    have u:Q9 {Jt x with br:=1}=false:=by simpa[e,j]using g
    refine⟨_,by simp only[go_sem,c77L0b,m,k,Gk.enc,NL.enc,Qc,a,d,e,j,u];rfl,?_⟩
    simp only[go_sem])
  (⟨_,by simp only[go_sem,c77L0b,ZG];rfl,by refine⟨?_,?_⟩<;>simp only[go_sem]⟩)
 exact L
def Z3e(s:Sta)(p:StE s):∃fr',Zg rE [1,46,47,48] c77L1b [(1,stI s),(46,Iy 5<|s.Gm.map By.enc),(47,I s.Gm.length),(48,.int .i64 0)] [] =
 some (if Zu (λ_ x=>Vp x) 0 s.Gm=true then .exit 2 else .ret,fr',[])/\(Zu (λ_ x=>Vp x) 0 s.Gm=true->get fr' 1=stI s/\get fr' 2=.bot)/\(Zu (λ_ x=>Vp x) 0 s.Gm=false->get fr' 2=.bool false):=by
 have L:=QT (E:=rE) (live:=[1,46,47,48]) (b:=c77L1b) (h:=[]) s.Gm (λ_ x=>Vp x)
  (λi=>[(1,stI s),(46,Iy 5<|s.Gm.map By.enc),(47,I s.Gm.length),(48,I i)]) 2
  (λfr=>get fr 1=stI s/\get fr 2=.bot) (λfr=>get fr 2=.bool false) (λi=>rfl)
  (λi x c g=>by
   have m:=Z6 (f:=By.enc) c;have k:=Zh<|Z7 c;have v:=Zx (n:=i) (by have:=Z7 c;have:=p.sizes.streets;omega)
   have t:=ZSy c;have⟨r,o,q⟩:=p.streets x t;have a:=Hc x.bm.l x.bm.ex r;have d:pfn rE 140 [I 2,.agg [I 0,I 0,I 0,I 0,I 0,.str x.Id,.str emp,.str emp,Iy 1 [],Iy 3 [],I 0,.str emp,I 0,I 0,I 0,I 0,.isl false x.Line.ex 2<|x.Line.l.map Pt.enc,Iy 7 []]]=some (.bool<|Q9 {Ju x with br:=2}):=Wg 2 (Ju x) ⟨ZSt _,ZSt _,o,ZSt _,q,ZSt _,ZSt _⟩
   simp only[Vp,ZSq]at g;have⟨e,j,u⟩:=g;refine⟨_,by simp only[go_sem,c77L1b,m,k,v,By.enc,NL.enc,Qc,a,d,e,j,u];rfl,?_⟩
   simp only[go_sem])
  (λi x c g=>by
   have m:=Z6 (f:=By.enc) c;have k:=Zh<|Z7 c;have t:=ZSy c;have⟨r,o,q⟩:=p.streets x t;have a:=Hc x.bm.l x.bm.ex r;have d:pfn rE 140 [I 2,.agg [I 0,I 0,I 0,I 0,I 0,.str x.Id,.str emp,.str emp,Iy 1 [],Iy 3 [],I 0,.str emp,I 0,I 0,I 0,I 0,.isl false x.Line.ex 2<|x.Line.l.map Pt.enc,Iy 7 []]]=some (.bool<|Q9 {Ju x with br:=2}):=Wg 2 (Ju x) ⟨ZSt _,ZSt _,o,ZSt _,q,ZSt _,ZSt _⟩
   unfold Vp at g;cases e:QM x.bh x.Ld 0 with
   |false=>
    refine⟨_,by simp only[go_sem,c77L1b,m,k,By.enc,NL.enc,Qc,e];rfl,?_⟩
    simp only[go_sem]
   |true=>
   cases j:Jp x.bm.l x.bm.ex with
   |false=>
    refine⟨_,by simp only[go_sem,c77L1b,m,k,By.enc,NL.enc,Qc,a,e,j];rfl,?_⟩
    simp only[go_sem]
   |true=>
    have u:Q9 {Ju x with br:=2}=false:=by simpa[e,j]using g
    refine⟨_,by simp only[go_sem,c77L1b,m,k,By.enc,NL.enc,Qc,a,d,e,j,u];rfl,?_⟩
    simp only[go_sem])
  (⟨_,by simp only[go_sem,c77L1b,ZG];rfl,by refine⟨?_,?_⟩<;>simp only[go_sem]⟩)
 exact L
def Z3f(s:Sta)(m:StE s):∃fr',Zg rE [1,75,76,77] c77L2b [(1,stI s),(75,Iy 4<|s.Bt.map Ev.enc),(76,I s.Bt.length),(77,.int .i64 0)] [] =
 some (if Zu (λ_ x=>Vq x) 0 s.Bt=true then .exit 4 else .ret,fr',[])/\(Zu (λ_ x=>Vq x) 0 s.Bt=true->get fr' 1=stI s/\get fr' 2=.bot)/\(Zu (λ_ x=>Vq x) 0 s.Bt=false->get fr' 2=.bool false):=by
 have L:=QT (E:=rE) (live:=[1,75,76,77]) (b:=c77L2b) (h:=[]) s.Bt (λ_ x=>Vq x)
  (λi=>[(1,stI s),(75,Iy 4<|s.Bt.map Ev.enc),(76,I s.Bt.length),(77,I i)]) 4
  (λfr=>get fr 1=stI s/\get fr 2=.bot) (λfr=>get fr 2=.bool false) (λi=>rfl)
  (λi x a d=>by
   have j:=Z6 (f:=Ev.enc) a;have g:=Zh<|Z7 a;have r:=Zx (n:=i) (by have:=Z7 a;have:=m.sizes.buildings;omega)
   have p:=ZSy a;have⟨k,o⟩:=m.buildings x p;have c:pfn rE 140 [I 5,.agg [I 0,I 0,I 0,I 0,I 0,.str x.Id,.str emp,.str emp,Iy 1 [],Iy 3 [],I 0,.str emp,I 0,I 0,I 0,I 0,.isl false x.Ring.ex 2<|x.Ring.l.map Pt.enc,Iy 7 []]]=some (.bool<|Q9 {Jv x with br:=5}):=Wg 5 (Jv x) ⟨ZSt _,ZSt _,k,ZSt _,o,ZSt _,ZSt _⟩
   simp only[Vq,ZSq]at d;have⟨e,q⟩:=d;refine⟨_,by simp only[go_sem,c77L2b,j,g,r,Ev.enc,NL.enc,Qc,c,e,q];rfl,?_⟩
   simp only[go_sem])
  (λi x a d=>by
   have j:=Z6 (f:=Ev.enc) a;have g:=Zh<|Z7 a;have p:=ZSy a;have⟨k,o⟩:=m.buildings x p;have c:pfn rE 140 [I 5,.agg [I 0,I 0,I 0,I 0,I 0,.str x.Id,.str emp,.str emp,Iy 1 [],Iy 3 [],I 0,.str emp,I 0,I 0,I 0,I 0,.isl false x.Ring.ex 2<|x.Ring.l.map Pt.enc,Iy 7 []]]=some (.bool<|Q9 {Jv x with br:=5}):=Wg 5 (Jv x) ⟨ZSt _,ZSt _,k,ZSt _,o,ZSt _,ZSt _⟩
   unfold Vq at d;cases e:QM x.bh x.Ld 0 with
   |false=>
    refine⟨_,by simp only[go_sem,c77L2b,j,g,Ev.enc,NL.enc,Qc,e];rfl,?_⟩
    simp only[go_sem]
   |true=>
    have q:Q9 {Jv x with br:=5}=false:=by simpa[e]using d
    refine⟨_,by simp only[go_sem,c77L2b,j,g,Ev.enc,NL.enc,Qc,c,e,q];rfl,?_⟩
    simp only[go_sem])
  (⟨_,by simp only[go_sem,c77L2b,ZG];rfl,by refine⟨?_,?_⟩<;>simp only[go_sem]⟩)
 exact L
def Z3g(s:Sta)(g:StE s):∃fr',Zg rE [1,98,99,100] c77L3b [(1,stI s),(98,Iy 16<|s.Bc.map Ga.enc),(99,I s.Bc.length),(100,.int .i64 0)] [] =
 some (if Zu (Vr s) 0 s.Bc=true then .exit 6 else .ret,fr',[])/\(Zu (Vr s) 0 s.Bc=true->get fr' 1=stI s/\get fr' 2=.bot)/\(Zu (Vr s) 0 s.Bc=false->get fr' 2=.bool false):=by
 have L:=QT (E:=rE) (live:=[1,98,99,100]) (b:=c77L3b) (h:=[]) s.Bc (Vr s)
  (λi=>[(1,stI s),(98,Iy 16<|s.Bc.map Ga.enc),(99,I s.Bc.length),(100,I i)]) 6
  (λfr=>get fr 1=stI s/\get fr 2=.bot) (λfr=>get fr 2=.bool false) (λi=>rfl)
  (λi x a d=>by
   have k:=Z6 (f:=Ga.enc) a;have j:=Zh<|Z7 a;have o:=Zx (n:=i) (by have:=Z7 a;have:=g.sizes.doors;omega)
   have l:=ZSy a;have c:=Fs s g.sizes i x (g.doors x l) a;simp only[Vr,ZSq]at d;have⟨e,m⟩:=d;refine⟨_,by simp only[go_sem,c77L3b,k,j,o,Ga.enc,NL.enc,Qc,c,e,m];rfl,?_⟩
   simp only[go_sem])
  (λi x a d=>by
   have k:=Z6 (f:=Ga.enc) a;have j:=Zh<|Z7 a;have l:=ZSy a;have c:=Fs s g.sizes i x (g.doors x l) a;unfold Vr at d;cases e:QM x.bh x.Ld x.From with
   |false=>
    refine⟨_,by simp only[go_sem,c77L3b,k,j,Ga.enc,NL.enc,Qc,e];rfl,?_⟩
    simp only[go_sem]
   |true=>
    have m:Hg s i x=false:=by simpa[e]using d
    refine⟨_,by simp only[go_sem,c77L3b,k,j,Ga.enc,NL.enc,Qc,c,e,m];rfl,?_⟩
    simp only[go_sem])
  (⟨_,by simp only[go_sem,c77L3b,ZG];rfl,by refine⟨?_,?_⟩<;>simp only[go_sem]⟩)
 exact L
def Z3h(s:Sta)(z:StE s):∃fr',Zg rE [1,121,122,123] c77L4b [(1,stI s),(121,Iy 6<|s.Nk.map be.enc),(122,I s.Nk.length),(123,.int .i64 0)] [] =
 some (if Zu (λ_ x=>Vs s x) 0 s.Nk=true then .exit 8 else .ret,fr',[])/\(Zu (λ_ x=>Vs s x) 0 s.Nk=true->get fr' 1=stI s/\get fr' 2=.bot)/\(Zu (λ_ x=>Vs s x) 0 s.Nk=false->get fr' 2=.bool false):=by
 have L:=QT (E:=rE) (live:=[1,121,122,123]) (b:=c77L4b) (h:=[]) s.Nk (λ_ x=>Vs s x)
  (λi=>[(1,stI s),(121,Iy 6<|s.Nk.map be.enc),(122,I s.Nk.length),(123,I i)]) 8
  (λfr=>get fr 1=stI s/\get fr 2=.bot) (λfr=>get fr 2=.bool false) (λi=>rfl)
  (λi x q B=>by
   have o:=Z6 (f:=be.enc) q;have m:=Zh<|Z7 q;have G:=Zx (n:=i) (by have:=Z7 q;have:=z.sizes.units;omega)
   have H:=ZSy q;have⟨K,C,M⟩:=z.units x H;have g:=find_ok s z.sizes x.Ga;have a:pfn rE 140 [I 7,.agg [I 0,I 0,I 0,I 0,I 0,.str x.Id,.str x.Ga,.str x.Text,Iy 1 [],Iy 3 [],I 0,.str emp,I 0,I 0,I 0,I 0,Iy 2 [],Iy 7 []]]=some (.bool<|Q9 {Vn x with br:=7}):=Wg 7 (Vn x) ⟨ZSt _,ZSt _,ZSt _,ZSt _,K,C,M⟩
   unfold Vs at B;have c:decide (Zn s x.Ga<0)=false:=by cases h:decide (Zn s x.Ga<0)<;>simp_all
   have l:QM 0 x.Ld x.From=true:=by cases h:QM 0 x.Ld x.From<;>simp_all
   have p:Q9 {Vn x with br:=7}=true:=by cases h:Q9 {Vn x with br:=7}<;>simp_all
   have r:Jw s x=false:=by cases h:Jw s x<;>simp_all
   have⟨j,y,N,w⟩:=QC c;have k:Zn s x.Ga=(j:Int):=N;have D:=Z6 (f:=Ga.enc) w;have t:QN s (Zn s x.Ga)=y.Ld:=by rw[k];simp[QN,w]
   unfold Jw at r;rw[t]at r;rw[k]at g c;have u:(x.Ld != -1) = !(x.Ld==-1):=rfl;rw[u]at r;cases e:x.Ld==-1 with
   |true=>
    have d:(x.Ld != -1)=false:=by rw[u,e];rfl
    have v:(x.Why != 0)=false:=by cases h:x.Why != 0<;>simp_all
    have J:(y.Ld != -1)=false:=by cases h:y.Ld != -1<;>simp_all
    refine⟨_,by simp only[go_sem,c77L4b,o,m,G,D,be.enc,Ga.enc,NL.enc,Qc,g,a,c,l,p,e,v,J,d];rfl,?_⟩
    simp only[go_sem]
   |false=>
    have d:(x.Ld != -1)=true:=by rw[u,e];rfl
    cases A:x.Why != 12 with
    |false=>
     refine⟨_,by simp only[go_sem,c77L4b,o,m,G,be.enc,Qc,g,a,c,l,p,e,d,A];rfl,?_⟩
     simp only[go_sem]
    |true=>
     have F:(x.Why != 11)=false:=by cases h:x.Why != 11<;>simp_all
     refine⟨_,by simp only[go_sem,c77L4b,o,m,G,be.enc,Qc,g,a,c,l,p,e,d,A,F];rfl,?_⟩
     simp only[go_sem])
  (λi x q B=>by
   have o:=Z6 (f:=be.enc) q;have m:=Zh<|Z7 q;have H:=ZSy q;have⟨K,C,M⟩:=z.units x H;have g:=find_ok s z.sizes x.Ga;have a:pfn rE 140 [I 7,.agg [I 0,I 0,I 0,I 0,I 0,.str x.Id,.str x.Ga,.str x.Text,Iy 1 [],Iy 3 [],I 0,.str emp,I 0,I 0,I 0,I 0,Iy 2 [],Iy 7 []]]=some (.bool<|Q9 {Vn x with br:=7}):=Wg 7 (Vn x) ⟨ZSt _,ZSt _,ZSt _,ZSt _,K,C,M⟩
   unfold Vs at B;cases c:decide (Zn s x.Ga<0)with
   |true=>
    refine⟨_,by simp only[go_sem,c77L4b,o,m,be.enc,g,c];rfl,?_⟩
    simp only[go_sem]
   |false=>
   cases l:QM 0 x.Ld x.From with
   |false=>
    refine⟨_,by simp only[go_sem,c77L4b,o,m,be.enc,g,c,Qc,l];rfl,?_⟩
    simp only[go_sem]
   |true=>
   cases p:Q9 {Vn x with br:=7}with
   |false=>
    refine⟨_,by simp only[go_sem,c77L4b,o,m,be.enc,g,c,Qc,l,a,p];rfl,?_⟩
    simp only[go_sem]
   |true=>
   have r:Jw s x=true:=by simpa[c,l,p]using B
   have⟨j,y,N,w⟩:=QC c;have k:Zn s x.Ga=(j:Int):=N;have D:=Z6 (f:=Ga.enc) w;have t:QN s (Zn s x.Ga)=y.Ld:=by rw[k];simp[QN,w]
   unfold Jw at r;rw[t]at r;rw[k]at g c;have u:(x.Ld != -1) = !(x.Ld==-1):=rfl;rw[u]at r;cases e:x.Ld==-1 with
   |true=>
    have d:(x.Ld != -1)=false:=by rw[u,e];rfl
    cases v:x.Why != 0 with
    |true=>
     refine⟨_,by simp only[go_sem,c77L4b,o,m,be.enc,Qc,g,a,c,l,p,e,v];rfl,?_⟩
     simp only[go_sem]
    |false=>
     have J:(y.Ld != -1)=true:=by simpa[e,v]using r
     refine⟨_,by simp only[go_sem,c77L4b,o,m,D,be.enc,Ga.enc,NL.enc,Qc,g,a,c,l,p,e,v,J];rfl,?_⟩
     simp only[go_sem]
   |false=>
    have d:(x.Ld != -1)=true:=by rw[u,e];rfl
    have A:(x.Why != 12)=true:=by cases h:x.Why != 12<;>simp_all
    have F:(x.Why != 11)=true:=by cases h:x.Why != 11<;>simp_all
    refine⟨_,by simp only[go_sem,c77L4b,o,m,be.enc,Qc,g,a,c,l,p,e,d,A,F];rfl,?_⟩
    simp only[go_sem])
  (⟨_,by simp only[go_sem,c77L4b,ZG];rfl,by refine⟨?_,?_⟩<;>simp only[go_sem]⟩)
 exact L
def Z3i(s:Sta)(c:StE s):pfn rE 77 [stA s]=some (.bool<|Jx s):=by
 have⟨S,d,x,w⟩:=Z3d s c;have⟨W,e,G,F⟩:=Z3e s c;have⟨T,h,z,D⟩:=Z3f s c;have⟨R,n,N,K⟩:=Z3g s c;have⟨U,j,C,E⟩:=Z3h s c;rw[QE]at d x w e G F h z D j C E;have L:=Fd s c.sizes;have m:=Fj (Qp s) false (by have V:=c.sizes.regions;have O:=c.sizes.streets;have P:=c.sizes.buildings;have Q:=c.sizes.doors;have X:=c.sizes.units;simp[Qp];omega)
 have B:=Fk s c.sizes;have H:=Z31 s c.sizes;rw[Z5 (f:=77) rfl rfl];unfold Jx;cases q:s.Fa.all Vo with
 |false=>rw[q]at d;simp only[go_sem,c77,c77L0,d,w q,ZSH]
 |true=>
 rw[q,if_pos rfl]at d;have⟨l,k⟩:=x q;cases t:s.Gm.all Vp with
 |false=>rw[t]at e;simp only[go_sem,c77,c77L0,c77L1,d,l,k,e,F t,ZSH]
 |true=>
 rw[t,if_pos rfl]at e;have⟨p,o⟩:=G t;cases r:s.Bt.all Vq with
 |false=>rw[r]at h;simp only[go_sem,c77,c77L0,c77L1,c77L2,d,l,k,e,p,o,h,D r,ZSH]
 |true=>
 rw[r,if_pos rfl]at h;have⟨u,v⟩:=z r;cases a:Zu (Vr s) 0 s.Bc with
 |false=>rw[a]at n;simp only[go_sem,c77,c77L0,c77L1,c77L2,c77L3,d,l,k,e,p,o,h,u,v,n,K a,ZSH]
 |true=>
 rw[a,if_pos rfl]at n;have⟨y,A⟩:=N a;cases b:s.Nk.all (Vs s)with
 |false=>rw[b]at j;simp only[go_sem,c77,c77L0,c77L1,c77L2,c77L3,c77L4,d,l,k,e,p,o,h,u,v,n,y,A,j,E b,ZSH]
 |true=>
 rw[b,if_pos rfl]at j;have⟨M,J⟩:=C b;cases i:Jq (Qp s)<;>cases g:Wh s.Bc<;>rw[i]at m<;>rw[g]at B<;>
  simp only[go_sem,c77,c77L0,c77L1,c77L2,c77L3,c77L4,d,l,k,e,p,o,h,u,v,n,y,A,j,M,J,L,m,B,H]
def Z3j(e a d c:AObj)(b:Bool):trimB 4 [e,a,d,c] b=[e,a,d,c]:=by cases b<;>rfl
def Z3k(c e a f d:AObj)(b:Bool):trimB 5 [c,e,a,f,d] b=[c,e,a,f,d]:=by cases b<;>rfl
def Z3l(c f a g d e:AObj)(b:Bool):trimB 6 [c,f,a,g,d,e] b=[c,f,a,g,d,e]:=by cases b<;>rfl
def Z3m(c g a h e f d:AObj)(b:Bool):trimB 7 [c,g,a,h,e,f,d] b=[c,g,a,h,e,f,d]:=by cases b<;>rfl
attribute [go_sem] Z3j Z3k Z3l Z3m
structure Wk where
 s:Sta
 owner:Int
 e:Gt
 kn:List Str
abbrev wkC(w:Wk):List AV:=[Iy 6<|w.s.Fa.map Gk.enc,Iy 5<|w.s.Gm.map By.enc,Iy 4<|w.s.Bt.map Ev.enc,Iy 16<|w.s.Bc.map Ga.enc,
 Iy 6 (w.s.Nk.map be.enc),Iy 2<|w.s.Gc.map bf.enc,Iy 2<|w.s.ba.map bf.enc,I w.owner,
 I w.e.br,I w.e.Day,I w.e.A,I w.e.B,I w.e.bz,.str w.e.Id,.str w.e.bv,.str w.e.Text,.isl false w.e.Ids.ex 1<|w.e.Ids.l.map encS,.isl false w.e.bm.ex 3<|w.e.bm.l.map Nm.enc,
 I w.e.An.N,.str w.e.An.bn,I w.e.An.Num,I w.e.An.Den,I w.e.bg.X,I w.e.bg.Y,.isl false w.e.Path.ex 2<|w.e.Path.l.map Pt.enc,.isl false w.e.Lst.ex 7<|w.e.Lst.l.map Ent.enc,
 Iy 1 (w.kn.map encS)]
abbrev wH(o0 o1:AObj)(w:Wk):Hp:=[o0,o1,.row 27 [.agg<|wkC w]]
structure WkS(w:Wk):Prop where
 s:StS w.s
 e:EvS w.e
 kn:w.kn.length<=100000
def Z3o(b i off g:Nat):Zy (.ptr b i off g)=false:=(rfl)
def Z3p(b g off a:Nat)(ex:Bool):Zy (.sl b g off a ex)=false:=(rfl)
def Z3q(b:Nat):Zy (.mp b)=false:=(rfl)
attribute [go_sem] Z3o Z3p Z3q
def Z3r(n:Nat):bounds none (some<|I n) (some<|I n) n=some (0,n,some n):=by
 simp[bounds,Vz,Wl,VA,numOf,VB,Ue]
def clC(sz:Nat):ACode:=
 .seq (.region [o 2<|.mv<|.c<|.isl false false sz []])<|
 .seq (.keep [2]<|.region [o 3<|.mv<|.t 0,o 4<|.mv<|.t 0,o 5<|.len 1<|.t 4,o 6<|.mv<|.t 0,o 7<|.len 1<|.t 6,o 8<|.slc sz (.t 3) none (some<|.t 5)<|some<|.t 7,o 2<|.mv<|.t 8])<|
 .ret
def Jy{sz f:Nat}(b:rE.sum f=none)(d:rE.fn f=some ⟨[.tmp 2],clC sz⟩)(ex:Bool)(es:List AV):pfn rE f [.isl false ex sz es]=some (.isl false true sz es):=by
 have a:=Z3r es.length;have c:List.take (es.length-0) es=es:=ZSR<|by omega
 have e:(match some es.length with|none=>ex&&es.length==es.length|some m=>m==es.length)=true:=by simp
 rw[Z5 (f:=f) b d];simp only[go_sem,clC,a,e,c]
def Z3s(es:List AV):pfn rE 147 [Iy 6 es]=some (.isl false true 6 es):=Jy rfl rfl false es
def Z3t(es:List AV):pfn rE 150 [Iy 5 es]=some (.isl false true 5 es):=Jy rfl rfl false es
def Z3u(es:List AV):pfn rE 157 [Iy 4 es]=some (.isl false true 4 es):=Jy rfl rfl false es
def Ft(es:List AV):pfn rE 267 [Iy 16 es]=some (.isl false true 16 es):=Jy rfl rfl false es
def Z3v(es:List AV):pfn rE 160 [Iy 6 es]=some (.isl false true 6 es):=Jy rfl rfl false es
def Fu(es:List AV):pfn rE 177 [Iy 2 es]=some (.isl false true 2 es):=Jy rfl rfl false es
def Vt{h:Hp}{aid sz bytes:Nat}{es ys:List AV}{bw bw2 ex:Bool}(b:ys.isEmpty=false)(c:0<sz)(d:0<bytes)(a:(es.length+ys.length)*bytes<=140737488355328)(e:Z4 (es++ys)=true):
 Qt h aid true sz bytes (.isl bw true sz es) (.isl bw2 ex sz ys)=some (Iy sz<|es++ys,[],none):=by
 simp only[Qt,Q2,Qq,beq_self_eq_true,ZSU,c,d,a,and_self,if_true,b,cond_false,Yp,Zs,ZSC,cond_true,e]
def chC(sz f:Nat):ACode:=
 .seq (.region [o 6<|.mv<|.c<|.isl false false sz []])<|
 .seq (.keep [1,2,7]<|.region [o 8<|.rel<|.t 0,o 9<|.call false f [(.t 8)],o 7<|.mv<|.t 9])<|
 .seq (.keep [7]<|.region [o 10<|.mv<|.t 2,o 11<|.mv<|.t 7,o 12<|.mv<|.t 1,o 13<|.iadr sz (.t 11)<|.t 12,o 14<|.callv false (.t 10) [(.t 13)]])<|
 .seq (.region [o 15<|.mv<|.t 7,o 6<|.mv<|.t 15])<|
 .ret
def Xj{a:Type}{f:a->AV}{sz:Nat}(h:∀x,fits sz (f x)=true)(l:List a):(l.map f).all (fits sz)=true:=by
 rw[ZU3,ZSw];intro x _;exact h x
def Xk{sz f g d:Nat}(n:rE.sum d=none)(q:rE.fn d=some ⟨[.tmp 6],chC sz f⟩)(h:rE.sum f=some (ZO3 sz))(es es' cap:List AV)(v:AV)(ex:Bool)(k:Nat)(p:k<es.length)(c:es.all (fits sz)=true)(e:es.length<=1000000)
 (m:fnV rE g (.ptr 0 k 0 es.length::cap) [.row sz es]=some (v,[.row sz es'])) (s:es'.length=es.length) (u:Z4 es'=true):
 pfn rE d [.isl false ex sz es,I k,.clo (.func g) [] cap]=some (Iy sz es'):=by
 have t:fnV rE f [.isl false ex sz es] []=some (.sl 0 es.length 0 es.length false,[.row sz es]):=by
  have b:Nat.ble es.length 1000000=true:=ZTn e;have l:es.isEmpty=false:=by cases es with|nil=>simp at p|cons a r=>rfl
  rw[V8 h];simp only[ZO3,Q2,Qq,c,b,l,beq_self_eq_true,ZSU,ZSW,ZSK,cond_true,ZSz,ZT1]
 have i:(0<=(k:Int)/\(k:Int)<(es.length:Int)):=by omega
 have j:iaP 0 es.length 0 sz (k:Int) es.length (some (sz,es))=some (.ptr 0 k 0 es.length):=by
  rw[VT _ _ _ _ _ _ _ i];simp
 have o:List.take es.length es'=es':=ZSR<|by omega
 rw[Z5 (f:=d) n q];simp only[go_sem,chC,t,j,RL,m,beq_self_eq_true,s,o,u]
def twB(w:Wk)(id:Str):Bool:=w.kn.any<|λx=>Z3 id x
def Wj(w:Wk)(a:WkS w)(id:Str):pfn rE 146 [.iptr true<|wkC w,.str id]=some (.bool<|twB w id):=by
 have h:=Nz (f:=333) (enc:=encS) (p:=λx=>Z3 id x) (v:=.str id) rfl rfl w.kn (by have:=a.kn;omega) (λx _=>rfl) rfl (λx _=>rfl) false false
 have b:pfn rE 248 [Iy 1<|w.kn.map encS,.str id]=some (.bool<|w.kn.any<|λx=>Z3 id x):=by
  rw[Z5 (f:=248) rfl rfl,<-Vg];unfold WG;simp only[go_sem,c248,h]
 rw[Z5 (f:=146) rfl rfl];unfold twB;simp only[go_sem,c146,b]
def NP(w:Wk):By:=⟨w.e.Id,w.owner,w.e.Path,⟨false,[]⟩,-1⟩
def NQ(w:Wk):Ev:=⟨w.e.Id,w.owner,w.e.Path,-1⟩
def Jz(w:Wk):Wk:={w with s:={w.s with Gm:=w.s.Gm++[NP w]}}
def JA(w:Wk):Wk:={w with s:={w.s with Bt:=w.s.Bt++[NQ w]}}
def Hh(w:Wk):Wk:={w with s:={w.s with ba:=w.s.ba++[⟨w.e.A,w.e.B⟩]}}
def Z3w(d g:AObj)(w:Wk)(i:WkS w):∃t,fnV rE 80 [.ptr 2 0 0 1] (wH d g w)=some (I<|bif twB w w.e.Id then 8 else 0,wH d g (bif twB w w.e.Id then w else Jz w)++t):=by
 have a:=Wj w i w.e.Id;have b:Z4 (w.s.Gm.map By.enc)=true:=Zw (λt=>rfl) _
 have j:=λ(h:Hp)(aid:Nat)=>Vt (h:=h) (aid:=aid) (sz:=5) (bytes:=80) (es:=w.s.Gm.map By.enc) (ys:=[.agg [.str w.e.Id,I w.owner,.isl false w.e.Path.ex 2<|w.e.Path.l.map Pt.enc,Iy 3 [],I<|-1]]) (bw:=false) (bw2:=false) (ex:=false) rfl (by omega) (by omega) (by have:=i.s.streets;simp;omega) (by simp only[XA,b];rfl)
 rw[Q6 (f:=80) rfl rfl];cases c:twB w w.e.Id with
 |true=>
  rw[c]at a;refine⟨[],?_⟩;simp only[go_sem,c80,a,ZSC]
 |false=>
  rw[c]at a;refine⟨[],?_⟩;simp only[go_sem,c80,a,Z3t,wrB,appW,j,ZM,ZH,Jz,NP,ZSF,wH,wkC,By.enc,NL.enc,ZSC]
def Z3x(d g:AObj)(w:Wk)(i:WkS w):∃t,fnV rE 83 [.ptr 2 0 0 1] (wH d g w)=some (I<|bif twB w w.e.Id then 8 else 0,wH d g (bif twB w w.e.Id then w else JA w)++t):=by
 have a:=Wj w i w.e.Id;have b:Z4 (w.s.Bt.map Ev.enc)=true:=Zw (λt=>rfl) _
 have j:=λ(h:Hp)(aid:Nat)=>Vt (h:=h) (aid:=aid) (sz:=4) (bytes:=56) (es:=w.s.Bt.map Ev.enc) (ys:=[.agg [.str w.e.Id,I w.owner,.isl false w.e.Path.ex 2<|w.e.Path.l.map Pt.enc,I<|-1]]) (bw:=false) (bw2:=false) (ex:=false) rfl (by omega) (by omega) (by have:=i.s.buildings;simp;omega) (by simp only[XA,b];rfl)
 rw[Q6 (f:=83) rfl rfl];cases c:twB w w.e.Id with
 |true=>
  rw[c]at a;refine⟨[],?_⟩;simp only[go_sem,c83,a,ZSC]
 |false=>
  rw[c]at a;refine⟨[],?_⟩;simp only[go_sem,c83,a,Z3u,wrB,appW,j,ZM,ZH,JA,NQ,ZSF,wH,wkC,Ev.enc,NL.enc,ZSC]
def Z3y(b c:AObj)(w:Wk)(g:WkS w):∃t,fnV rE 92 [.ptr 2 0 0 1] (wH b c w)=some (I 0,wH b c (Hh w)++t):=by
 have a:Z4 (w.s.ba.map bf.enc)=true:=Zw (λt=>rfl) _
 have d:=λ(h:Hp)(aid:Nat)=>Vt (h:=h) (aid:=aid) (sz:=2) (bytes:=16) (es:=w.s.ba.map bf.enc) (ys:=[.agg [I w.e.A,I w.e.B]]) (bw:=false) (bw2:=false) (ex:=false) rfl (by omega) (by omega) (by have:=g.s.rulings;simp;omega) (by simp only[XA,a];rfl)
 rw[Q6 (f:=92) rfl rfl];refine⟨[],?_⟩;simp only[go_sem,c92,Fu,wrB,appW,d,ZM,ZH,Hh,ZSF,wH,wkC,bf.enc,ZSC]
def NR(w:Wk):be:=⟨w.e.Id,w.e.bv,w.e.Text,w.e.Day,-1,0⟩
def JB(w:Wk):Int:=bif twB w w.e.Id then 8 else bif decide (Zn w.s w.e.bv<0)then 10 else bif QN w.s (Zn w.s w.e.bv) != -1 then 11 else 0
def JC(w:Wk):Wk:={w with s:={w.s with Nk:=w.s.Nk++[NR w]}}
def Z3z(o r:AObj)(w:Wk)(n:WkS w):∃t,fnV rE 85 [.ptr 2 0 0 1] (wH o r w)=some (I<|JB w,wH o r (bif JB w==0 then JC w else w)++t):=by
 have a:=Wj w n w.e.Id;have b:=find_ok w.s n.s w.e.bv;have i:Z4 (w.s.Nk.map be.enc)=true:=Zw (λt=>rfl) _
 have x:=λ(h:Hp)(aid:Nat)=>Vt (h:=h) (aid:=aid) (sz:=6) (bytes:=72) (es:=w.s.Nk.map be.enc) (ys:=[.agg [.str w.e.Id,.str w.e.bv,.str w.e.Text,I w.e.Day,I<|-1,I 0]]) (bw:=false) (bw2:=false) (ex:=false) rfl (by omega) (by omega) (by have:=n.s.units;simp;omega) (by simp only[XA,i];rfl)
 have v:((8:Int)==0)=false:=rfl;have k:((10:Int)==0)=false:=rfl;have m:((11:Int)==0)=false:=rfl;have z:((0:Int)==0)=true:=rfl;rw[Q6 (f:=85) rfl rfl];unfold JB;refine⟨[],?_⟩;cases c:twB w w.e.Id with
 |true=>
  rw[c]at a;simp only[go_sem,c85,a,b,v,ZSC]
 |false=>
 rw[c]at a;cases g:decide (Zn w.s w.e.bv<0)with
 |true=>simp only[go_sem,c85,a,b,g,k,ZSC]
 |false=>
 have⟨j,y,A,q⟩:=QC g;have d:Zn w.s w.e.bv=(j:Int):=A;have p:=Z6 (f:=Ga.enc) q;have l:QN w.s (Zn w.s w.e.bv)=y.Ld:=by rw[d];simp[QN,q]
 rw[l];rw[d]at b g;cases u:y.Ld != -1 with
 |true=>simp only[go_sem,c85,a,b,g,p,Ga.enc,NL.enc,u,m,ZSC]
 |false=>simp only[go_sem,c85,a,b,g,p,Ga.enc,NL.enc,u,z,Z3v,wrB,appW,x,ZM,ZH,JC,NR,ZSF,wH,wkC,be.enc,ZSC]
def Xl(w:Wk)(d:Ga):Ga:={d with bh:=w.owner,From:=w.e.Day,Ld:=-1}
def Qw(w:Wk)(d:Ga):Wk:={w with s:={w.s with Bc:=w.s.Bc++[Xl w d]}}
def Fv(c e:AObj)(w:Wk)(i:WkS w)(d:Ga)(t:Hp)(g:t=[]\/(∃x,t=[x])\/(∃x y,t=[x,y])\/∃x y z,t=[x,y,z]):
 ∃q,fnV rE 159 [.ptr 2 0 0 1,Zo d] (wH c e w++t)=some (.tup [],wH c e (Qw w d)++t++[q])/\∀n,Zj n q=true:=by
 have a:Z4 (w.s.Bc.map Ga.enc)=true:=Zw (λt=>rfl) _
 have b:=λ(h:Hp)(aid:Nat)=>Vt (h:=h) (aid:=aid) (sz:=16) (bytes:=184) (es:=w.s.Bc.map Ga.enc) (ys:=[Zo<|Xl w d]) (bw:=false) (bw2:=false) (ex:=false) rfl (by omega) (by omega) (by have:=i.s.doors;simp;omega) (by simp only[XA,a];rfl)
 refine⟨.row 16 [Zo<|Xl w d],?_,λn=>rfl⟩
 unfold Zo Xl at b⊢;simp only at b⊢;rw[Q6 (f:=159) rfl rfl];rcases g with rfl|⟨x,rfl⟩|⟨x,y,rfl⟩|⟨x,y,z,rfl⟩<;>
  simp only[go_sem,c159,Ft,wrB,appW,b,ZM,ZH,Qw,Xl,ZSF,wH,wkC,Ga.enc,NL.enc,ZSC]
def UD(w:Wk):Ga:=⟨w.e.Id,emp,emp,0,⟨0,emp,0,0⟩,⟨0,0⟩,0,0,⟨false,[]⟩,0,w.e.bz,w.e.Text⟩
def UE(w:Wk):Ga:=⟨w.e.Id,w.e.bv,w.e.Text,0,w.e.An,w.e.bg,0,0,⟨false,[]⟩,0,0,emp⟩
def Z3A(b d:AObj)(j:∀n,Zj n b=true)(k:∀n,Zj n d=true)(w:Wk)(i:WkS w):∃t,fnV rE 93 [.ptr 2 0 0 1] (wH b d w)=some (I<|bif twB w w.e.Id then 8 else 0,wH b d (bif twB w w.e.Id then w else Qw w<|UD w)++t):=by
 have a:=Wj w i w.e.Id;have⟨q,h,l⟩:=Fv b d w i (UD w) []<|Or.inl rfl;rw[ZSC,ZSC]at h;have g:fnV rE 159 [.ptr 2 0 0 1,.agg [.str w.e.Id,.str emp,.str emp,I 0,I 0,.str emp,I 0,I 0,I 0,I 0,I 0,I 0,Iy 1 [],I 0,I w.e.bz,.str w.e.Text]] (wH b d w)=_:=h;rw[Q6 (f:=93) rfl rfl];refine⟨[],?_⟩;cases c:twB w w.e.Id with
 |true=>
  rw[c]at a;simp only[go_sem,c93,a,ZSC]
 |false=>
  rw[c]at a;simp only[go_sem,c93,a,g,wH,j,k,ZSC]
def JD(w:Wk):Int:=bif twB w w.e.Id then 8 else bif decide (Y1 w.s w.e.bv<0)||decide (ZL w.s w.e.Text<0)then 10 else bif WL w.s (Y1 w.s w.e.bv) != -1||QF w.s (ZL w.s w.e.Text) != -1 then 11 else 0
def Z3B(r o:AObj)(L:∀n,Zj n r=true)(M:∀n,Zj n o=true)(w:Wk)(z:WkS w):∃t,fnV rE 84 [.ptr 2 0 0 1] (wH r o w)=some (I<|JD w,wH r o (bif JD w==0 then Qw w (UE w)else w)++t):=by
 have a:=Wj w z w.e.Id;have g:=Hb w.s z.s w.e.bv;have h:=K7 w.s z.s w.e.Text;have⟨q,G,Q⟩:=Fv r o w z (UE w) []<|Or.inl rfl;rw[ZSC,ZSC]at G;have C:fnV rE 159 [.ptr 2 0 0 1,.agg [.str w.e.Id,.str w.e.bv,.str w.e.Text,I 0,I w.e.An.N,.str w.e.An.bn,I w.e.An.Num,I w.e.An.Den,I w.e.bg.X,I w.e.bg.Y,I 0,I 0,Iy 1 [],I 0,I 0,.str emp]] (wH r o w)=_:=G;have K:((8:Int)==0)=false:=rfl;have v:((10:Int)==0)=false:=rfl;have p:((11:Int)==0)=false:=rfl;have J:((0:Int)==0)=true:=rfl;rw[Q6 (f:=84) rfl rfl];unfold JD;refine⟨[],?_⟩;cases c:twB w w.e.Id with
 |true=>rw[c]at a;simp only[go_sem,c84,a,g,h,K,ZSC]
 |false=>
 rw[c]at a;cases i:decide (Y1 w.s w.e.bv<0)with
 |true=>simp only[go_sem,c84,a,g,h,i,v,ZSC]
 |false=>
 cases l:decide (ZL w.s w.e.Text<0)with
 |true=>simp only[go_sem,c84,a,g,h,i,l,v,ZSC]
 |false=>
 have⟨j,x,P,F⟩:=QC i;have⟨k,y,O,H⟩:=QC l;have u:Y1 w.s w.e.bv=(j:Int):=P;have m:ZL w.s w.e.Text=(k:Int):=O;have A:WL w.s (Y1 w.s w.e.bv)=x.Ld:=by rw[u];simp[WL,F]
 have B:QF w.s (ZL w.s w.e.Text)=y.Ld:=by rw[m];simp[QF,H]
 have D:=Z6 (f:=Ev.enc) F;have E:=Z6 (f:=By.enc) H;rw[A,B];rw[u]at g i;rw[m]at h l;cases b:x.Ld != -1 with
 |true=>simp only[go_sem,c84,a,g,h,i,l,D,Ev.enc,NL.enc,b,p,ZSC]
 |false=>
 cases d:y.Ld != -1 with
 |true=>simp only[go_sem,c84,a,g,h,i,l,D,E,Ev.enc,By.enc,NL.enc,b,d,p,ZSC]
 |false=>simp only[go_sem,c84,a,g,h,i,l,D,E,Ev.enc,By.enc,NL.enc,b,d,J,C,L,M,ZSC]
def ZK{a:Type}(l:List a)(k:Nat)(f:a->a):List a:=match l[k]? with|some x=>l.set k (f x)|none=>l
def YA{a:Type}{l:List a}{k:Nat}{x:a}(h:l[k]?=some x)(f:a->a):ZK l k f=l.set k (f x):=by simp[ZK,h]
def NS(p:NL Pt)(x:Gk):Gk:={x with Ring:=p}
def NT(p:NL Nm)(x:Gk):Gk:={x with bm:=p}
def XN(p:NL Nm)(x:By):By:={x with bm:=p}
def Z3C(w:Wk)(l:List Gk)(k:Nat)(x:Gk)(b:l[k]?=some x)(a:l.length<=1000000):pfn rE 148 [Iy 6<|l.map Gk.enc,I k,.clo (.func 149) [] [.iptr true [.iptr true<|wkC w]]]=some (Iy 6<|(ZK l k<|NS w.e.Path).map Gk.enc):=by
 have c:=Z7 b;have d:=Z6 (f:=Gk.enc) b;rw[YA b,ZSX];refine Xk (sz:=6) (f:=261) rfl rfl rfl _ _ _ (.tup []) false k (by simpa using c) (Xj (λ_=>rfl) _) (by simpa using a) ?_ (by simp) ?_
 .rw[Q6 (f:=149) rfl rfl];simp only[go_sem,c149,beq_self_eq_true,d,Gk.enc,NL.enc,NS]
 .rw[<-ZSX];exact Zw (λt=>rfl) _
def Z3D(w:Wk)(l:List Gk)(k:Nat)(x:Gk)(b:l[k]?=some x)(a:l.length<=1000000):pfn rE 148 [Iy 6<|l.map Gk.enc,I k,.clo (.func 152) [] [.iptr true [.iptr true<|wkC w]]]=some (Iy 6<|(ZK l k<|NT w.e.bm).map Gk.enc):=by
 have c:=Z7 b;have d:=Z6 (f:=Gk.enc) b;rw[YA b,ZSX];refine Xk (sz:=6) (f:=261) rfl rfl rfl _ _ _ (.tup []) false k (by simpa using c) (Xj (λ_=>rfl) _) (by simpa using a) ?_ (by simp) ?_
 .rw[Q6 (f:=152) rfl rfl];simp only[go_sem,c152,beq_self_eq_true,d,Gk.enc,NL.enc,NT]
 .rw[<-ZSX];exact Zw (λt=>rfl) _
def Z3E(w:Wk)(l:List By)(k:Nat)(x:By)(b:l[k]?=some x)(a:l.length<=1000000):pfn rE 153 [Iy 5<|l.map By.enc,I k,.clo (.func 154) [] [.iptr true [.iptr true<|wkC w]]]=some (Iy 5<|(ZK l k<|XN w.e.bm).map By.enc):=by
 have c:=Z7 b;have d:=Z6 (f:=By.enc) b;rw[YA b,ZSX];refine Xk (sz:=5) (f:=264) rfl rfl rfl _ _ _ (.tup []) false k (by simpa using c) (Xj (λ_=>rfl) _) (by simpa using a) ?_ (by simp) ?_
 .rw[Q6 (f:=154) rfl rfl];simp only[go_sem,c154,beq_self_eq_true,d,By.enc,NL.enc,XN]
 .rw[<-ZSX];exact Zw (λt=>rfl) _
def Z3F(p:NL Nm)(l:List By)(k:Nat)(x:By)(b:l[k]?=some x)(a:l.length<=1000000):pfn rE 153 [Iy 5<|l.map By.enc,I k,.clo (.func 155) [] [.iptr true [.isl false p.ex 3<|p.l.map Nm.enc]]]=some (Iy 5<|(ZK l k<|XN p).map By.enc):=by
 have c:=Z7 b;have d:=Z6 (f:=By.enc) b;rw[YA b,ZSX];refine Xk (sz:=5) (f:=264) rfl rfl rfl _ _ _ (.tup []) false k (by simpa using c) (Xj (λ_=>rfl) _) (by simpa using a) ?_ (by simp) ?_
 .rw[Q6 (f:=155) rfl rfl];simp only[go_sem,c155,beq_self_eq_true,d,By.enc,NL.enc,XN]
 .rw[<-ZSX];exact Zw (λt=>rfl) _
def Z3G(p:NL Nm)(l:List By)(k:Nat)(x:By)(b:l[k]?=some x)(a:l.length<=1000000):pfn rE 153 [Iy 5<|l.map By.enc,I k,.clo (.func 156) [] [.iptr true [.isl false p.ex 3<|p.l.map Nm.enc]]]=some (Iy 5<|(ZK l k<|XN p).map By.enc):=by
 have c:=Z7 b;have d:=Z6 (f:=By.enc) b;rw[YA b,ZSX];refine Xk (sz:=5) (f:=264) rfl rfl rfl _ _ _ (.tup []) false k (by simpa using c) (Xj (λ_=>rfl) _) (by simpa using a) ?_ (by simp) ?_
 .rw[Q6 (f:=156) rfl rfl];simp only[go_sem,c156,beq_self_eq_true,d,By.enc,NL.enc,XN]
 .rw[<-ZSX];exact Zw (λt=>rfl) _
def Fw(w:Wk):Gk:=⟨w.e.Id,w.e.A,w.owner,w.e.Path,⟨false,[]⟩,-1⟩
def WM(s:Sta)(k:Int):Int:=match s.Fa[k.toNat]? with|some b=>b.Ld|none=>0
def NU(s:Sta)(k:Int):Int:=match s.Fa[k.toNat]? with|some b=>b.br|none=>0
def Hi(w:Wk):Int:=bif decide (Qo w.s w.e.Id<0)then(bif twB w w.e.Id then 8 else 0)else bif WM w.s (Qo w.s w.e.Id) != -1||NU w.s (Qo w.s w.e.Id) != w.e.A then 11 else 0
def Hj(w:Wk):Wk:={w with s:={w.s with Fa:=bif decide (Qo w.s w.e.Id<0)then w.s.Fa++[Fw w]else ZK w.s.Fa (Qo w.s w.e.Id).toNat (NS w.e.Path)}}
def Z3H(r p:AObj)(H:∀n,Zj n r=true)(J:∀n,Zj n p=true)(w:Wk)(o:WkS w):∃t,fnV rE 79 [.ptr 2 0 0 1] (wH r p w)=some (I<|Hi w,wH r p (bif Hi w==0 then Hj w else w)++t):=by
 have d:=Wj w o w.e.Id;have i:=NI w.s o.s w.e.Id;have v:Z4 (w.s.Fa.map Gk.enc)=true:=Zw (λt=>rfl) _
 have D:=λ(h:Hp)(aid:Nat)=>Vt (h:=h) (aid:=aid) (sz:=6) (bytes:=88) (es:=w.s.Fa.map Gk.enc) (ys:=[.agg [.str w.e.Id,I w.e.A,I w.owner,.isl false w.e.Path.ex 2<|w.e.Path.l.map Pt.enc,Iy 3 [],I<|-1]]) (bw:=false) (bw2:=false) (ex:=false) rfl (by omega) (by omega) (by have:=o.s.regions;simp;omega) (by simp only[XA,v];rfl)
 have E:((8:Int)==0)=false:=rfl;have k:((11:Int)==0)=false:=rfl;have z:((0:Int)==0)=true:=rfl;rw[Q6 (f:=79) rfl rfl];unfold Hi Hj;refine⟨[.row 1 [.ptr 2 0 0 1]],?_⟩;cases g:decide (Qo w.s w.e.Id<0)with
 |true=>
  cases c:twB w w.e.Id with
  |true=>rw[c]at d;simp only[go_sem,c79,wH,d,i,g,E]
  |false=>
   rw[c]at d;simp only[go_sem,c79,d,i,g,z,Z3s,wrB,appW,D,ZM,ZH,Fw,ZSF,wH,wkC,Gk.enc,NL.enc]
 |false=>
  have⟨j,x,F,m⟩:=QC g;have u:Qo w.s w.e.Id=(j:Int):=F;have y:=Z6 (f:=Gk.enc) m;have C:WM w.s (j:Int)=x.Ld:=by simp[WM,m]
  have B:NU w.s (j:Int)=x.br:=by simp[NU,m]
  have G:((j:Int)).toNat=j:=rfl;have q:=Z3C w w.s.Fa j x m (by have:=o.s.regions;omega)
  rw[u]at i g⊢;rw[C,B,G];cases a:x.Ld != -1 with
  |true=>simp only[go_sem,c79,wH,i,g,y,Gk.enc,NL.enc,a,k]
  |false=>
  cases b:x.br != w.e.A with
  |true=>simp only[go_sem,c79,wH,i,g,y,Gk.enc,NL.enc,a,b,k]
  |false=>simp only[go_sem,c79,wH,i,g,y,Gk.enc,NL.enc,a,b,z,q]
def Hk(w:Wk):Int:=
 bif decide (Qo w.s w.e.Id<0)&&decide (ZL w.s w.e.Id<0)then 10
 else bif (decide (Qo w.s w.e.Id>=0)&&WM w.s (Qo w.s w.e.Id) != -1)||(decide (ZL w.s w.e.Id>=0)&&QF w.s (ZL w.s w.e.Id) != -1)then 11 else 0
def Hl(w:Wk):Wk:=
 bif decide (Qo w.s w.e.Id>=0)then {w with s:={w.s with Fa:=ZK w.s.Fa (Qo w.s w.e.Id).toNat (NT w.e.bm)}}
 else {w with s:={w.s with Gm:=ZK w.s.Gm (ZL w.s w.e.Id).toNat (XN w.e.bm)}}
def K9{n:Int}(h:decide (n<0)=false):decide (n>=0)=true:=decide_eq_true (by have:=of_decide_eq_false h;omega)
def JE{n:Int}(h:decide (n<0)=true):decide (n>=0)=false:=decide_eq_false (by have:=of_decide_eq_true h;omega)
def Z3I(D B:AObj)(M:∀n,Zj n D=true)(N:∀n,Zj n B=true)(w:Wk)(v:WkS w):∃t,fnV rE 81 [.ptr 2 0 0 1] (wH D B w)=some (I<|Hk w,wH D B (bif Hk w==0 then Hl w else w)++t):=by
 have l:=NI w.s v.s w.e.Id;have h:=K7 w.s v.s w.e.Id;have J:((10:Int)==0)=false:=rfl;have p:((11:Int)==0)=false:=rfl;have C:((0:Int)==0)=true:=rfl;rw[Q6 (f:=81) rfl rfl];unfold Hk Hl;refine⟨[.row 1 [.ptr 2 0 0 1]],?_⟩;cases d:decide (Qo w.s w.e.Id<0)with
 |true=>
  have m:=JE d;cases c:decide (ZL w.s w.e.Id<0)with
  |true=>simp only[go_sem,c81,wH,l,h,d,c,J]
  |false=>
   have i:=K9 c;have⟨k,y,G,r⟩:=QC c;have o:ZL w.s w.e.Id=(k:Int):=G;have u:=Z6 (f:=By.enc) r;have q:QF w.s (k:Int)=y.Ld:=by simp[QF,r]
   have K:((k:Int)).toNat=k:=rfl;have g:=Z3E w w.s.Gm k y r (by have:=v.s.streets;omega)
   rw[o]at h c i⊢;rw[q,K];cases a:y.Ld != -1 with
   |true=>simp only[go_sem,c81,wH,l,h,d,c,m,i,u,By.enc,NL.enc,a,p]
   |false=>simp only[go_sem,c81,wH,l,h,d,c,m,i,u,By.enc,NL.enc,a,C,g]
 |false=>
  have m:=K9 d;have⟨j,x,L,A⟩:=QC d;have E:Qo w.s w.e.Id=(j:Int):=L;have z:=Z6 (f:=Gk.enc) A;have F:WM w.s (j:Int)=x.Ld:=by simp[WM,A]
  have H:((j:Int)).toNat=j:=rfl;have g:=Z3D w w.s.Fa j x A (by have:=v.s.regions;omega)
  rw[E]at l d m⊢;rw[F,H];cases a:x.Ld != -1 with
  |true=>simp only[go_sem,c81,wH,l,h,d,m,z,Gk.enc,NL.enc,a,p]
  |false=>
  cases c:decide (ZL w.s w.e.Id<0)with
  |true=>
   have i:=JE c;simp only[go_sem,c81,wH,l,h,d,m,i,z,Gk.enc,NL.enc,a,C,g]
  |false=>
   have i:=K9 c;have⟨k,y,G,r⟩:=QC c;have o:ZL w.s w.e.Id=(k:Int):=G;have u:=Z6 (f:=By.enc) r;have q:QF w.s (k:Int)=y.Ld:=by simp[QF,r]
   rw[o]at h c i⊢;rw[q];cases b:y.Ld != -1 with
   |true=>simp only[go_sem,c81,wH,l,h,d,m,i,z,u,Gk.enc,By.enc,NL.enc,a,b,p]
   |false=>simp only[go_sem,c81,wH,l,h,d,m,i,z,u,Gk.enc,By.enc,NL.enc,a,b,C,g]
def Hm(w:Wk):Int:=
 bif decide (ZL w.s w.e.Id<0)||decide (ZL w.s w.e.bv<0)then 10 else bif QF w.s (ZL w.s w.e.Id) != -1||QF w.s (ZL w.s w.e.bv) != -1 then 11 else 0
def JF(s:Sta)(k:Nat):NL Nm:=match s.Gm[k]? with|some x=>x.bm|none=>⟨false,[]⟩
def exW(w:Wk):Wk:={w with s:={w.s with Gm:=ZK (ZK w.s.Gm (ZL w.s w.e.Id).toNat<|XN<|JF w.s (ZL w.s w.e.bv).toNat) (ZL w.s w.e.bv).toNat (XN<|JF w.s (ZL w.s w.e.Id).toNat)}}
def Xm{a:Type}(l:List a)(k:Nat)(f:a->a):(ZK l k f).length=l.length:=by
 unfold ZK;cases l[k]?<;>simp
def Z3J(B v:AObj)(O:∀n,Zj n B=true)(P:∀n,Zj n v=true)(w:Wk)(q:WkS w):∃t,fnV rE 82 [.ptr 2 0 0 1] (wH B v w)=some (I<|Hm w,wH B v (bif Hm w==0 then exW w else w)++t):=by
 have d:=K7 w.s q.s w.e.Id;have g:=K7 w.s q.s w.e.bv;have o:((10:Int)==0)=false:=rfl;have i:((11:Int)==0)=false:=rfl;have N:((0:Int)==0)=true:=rfl;rw[Q6 (f:=82) rfl rfl];unfold Hm exW;cases c:decide (ZL w.s w.e.Id<0)with
 |true=>refine⟨[],?_⟩;simp only[go_sem,c82,wH,d,g,c,o,ZSC]
 |false=>
 cases h:decide (ZL w.s w.e.bv<0)with
 |true=>refine⟨[],?_⟩;simp only[go_sem,c82,wH,d,g,c,h,o,ZSC]
 |false=>
 have⟨j,x,R,p⟩:=QC c;have⟨k,y,Q,r⟩:=QC h;have G:ZL w.s w.e.Id=(j:Int):=R;have u:ZL w.s w.e.bv=(k:Int):=Q;have K:=Z6 (f:=By.enc) p;have M:=Z6 (f:=By.enc) r;have C:QF w.s (j:Int)=x.Ld:=by simp[QF,p]
 have A:QF w.s (k:Int)=y.Ld:=by simp[QF,r]
 have J:((j:Int)).toNat=j:=rfl;have D:((k:Int)).toNat=k:=rfl;have H:JF w.s j=x.bm:=by simp[JF,p]
 have L:JF w.s k=y.bm:=by simp[JF,r]
 rw[G]at d c⊢;rw[u]at g h⊢;rw[C,A,J,D,H,L];cases a:x.Ld != -1 with
 |true=>refine⟨[],?_⟩;simp only[go_sem,c82,wH,d,g,c,h,K,By.enc,NL.enc,a,i,ZSC]
 |false=>
 cases b:y.Ld != -1 with
 |true=>refine⟨[],?_⟩;simp only[go_sem,c82,wH,d,g,c,h,K,M,By.enc,NL.enc,a,b,i,ZSC]
 |false=>
  have z:=Z3F y.bm w.s.Gm j x p (by have:=q.s.streets;omega)
  obtain⟨E,F⟩:∃E,(ZK w.s.Gm j<|XN y.bm)[k]?=some E:=⟨_,ZSu<|by rw[Xm];exact Z7 r⟩
  have m:=Z3G x.bm (ZK w.s.Gm j<|XN y.bm) k E F (by have:=q.s.streets;rw[Xm];omega)
  refine⟨[.row 1 [.isl false x.bm.ex 3<|x.bm.l.map Nm.enc],.row 1 [.isl false y.bm.ex 3<|y.bm.l.map Nm.enc]],?_⟩;simp only[go_sem,c82,wH,d,g,c,h,K,M,By.enc,NL.enc,a,b,N,z,m,O,P]
def WN(s:Sta)(b:Int):Nat->Int->Bool
 |0,_=>false
 |k+1,at'=>bif decide (at'>=0)then(bif at'==b then true else WN s b k<|XJ s at')else false
def Hn(w:Wk):Int:=bif decide (XJ w.s w.e.B>=0)then 11 else bif WN w.s w.e.B (w.s.Gc.length+2) w.e.A then 12 else 0
def Ho(w:Wk):Wk:={w with s:={w.s with Gc:=w.s.Gc++[⟨w.e.A,w.e.B⟩]}}
def Z3K(g i:AObj)(w:Wk)(o:WkS w):∀k a,chN w.s k a=true->
 ∃fr',Zg rE [0,3] c91L0b [(0,.ptr 2 0 0 1),(3,I a)] (wH g i w)=some (if WN w.s w.e.B (k+1) a=true then .ret else .exit 0,fr',wH g i w)/\
  (WN w.s w.e.B (k+1) a=true->get fr' 2=.int .i64 12)/\(WN w.s w.e.B (k+1) a=false->get fr' 0=.ptr 2 0 0 1/\get fr' 2=.bot):=by
 intro k;induction k with
 |zero=>
  intro a d;have b:decide (a>=0)=false:=by simpa[chN]using d
  have c:WN w.s w.e.B (0+1) a=false:=by rw[WN,b];rfl
  rw[c];refine⟨_,Q7 rfl (by simp only[go_sem,c91L0b,b];rfl) (by simp),λh=>(by cases h),λ_=>⟨?_,?_⟩⟩<;>simp only[go_sem]
 |succ k n=>
  intro a d;rw[WN];cases b:decide (a>=0)with
  |false=>
   rw[cond_false];refine⟨_,Q7 rfl (by simp only[go_sem,c91L0b,b];rfl) (by simp),λh=>(by cases h),λ_=>⟨?_,?_⟩⟩<;>simp only[go_sem]
  |true=>
   rw[cond_true];cases c:a==w.e.B with
   |true=>
    rw[cond_true];refine⟨_,Q7 rfl (by simp only[go_sem,c91L0b,b,c];rfl) (by simp),λ_=>?_,λh=>(by cases h)⟩
    simp only[go_sem]
   |false=>
    rw[cond_false];have f:chN w.s k (XJ w.s a)=true:=by
     rw[chN,b,cond_true]at d;exact d
    have j:=NJ w.s o.s a;have⟨fr',l,m⟩:=n (XJ w.s a) f;refine⟨fr',?_,m⟩;rw[<-l];exact(Yt rfl (by simp only[go_sem,c91L0b,b,c,j];rfl)).trans (by simp only[go_sem])
def Z3L(s:Sta)(e:WK s=true)(a:Int):chN s (s.Gc.length+1) a=true:=by
 simp only[WK,ZSq]at e;have⟨_,_,d⟩:=e;rw[ZSw]at d;cases c:s.Gc.find? (λp=>p.b==a)with
 |some p=>
  have h:=ZUI c;have f:=d p<|ZUm c;have:p.b=a:=by simpa using h
  rw[<-this];exact f
 |none=>
  have g:XJ s a=-1:=by unfold XJ;rw[c]
  rw[chN];cases decide (a>=0)with
  |false=>rfl
  |true=>
   rw[cond_true,g];cases s.Gc.length<;>rfl
def Z3M(d g:AObj)(w:Wk)(l:WkS w)(r:WK w.s=true):∃t,fnV rE 91 [.ptr 2 0 0 1] (wH d g w)=some (I<|Hn w,wH d g (bif Hn w==0 then Ho w else w)++t):=by
 have j:=NJ w.s l.s w.e.B;have c:Z4 (w.s.Gc.map bf.enc)=true:=Zw (λt=>rfl) _
 have q:=λ(h:Hp)(aid:Nat)=>Vt (h:=h) (aid:=aid) (sz:=2) (bytes:=16) (es:=w.s.Gc.map bf.enc) (ys:=[.agg [I w.e.A,I w.e.B]]) (bw:=false) (bw2:=false) (ex:=false) rfl (by omega) (by omega) (by have:=l.s.merged;simp;omega) (by simp only[XA,c];rfl)
 have i:((12:Int)==0)=false:=rfl;have k:((11:Int)==0)=false:=rfl;have u:((0:Int)==0)=true:=rfl;have⟨fr',b,n,o⟩:=Z3K d g w l (w.s.Gc.length+1) w.e.A<|Z3L w.s r w.e.A;rw[Q6 (f:=91) rfl rfl];unfold Hn;refine⟨[],?_⟩;cases m:decide (XJ w.s w.e.B>=0)with
 |true=>simp only[go_sem,c91,j,m,k,ZSC]
 |false=>
 have e:w.s.Gc.length+2=w.s.Gc.length+1+1:=rfl;rw[e];cases a:WN w.s w.e.B (w.s.Gc.length+1+1) w.e.A with
 |true=>
  rw[a,if_pos rfl]at b;simp only[go_sem,c91,c91L0,j,m,b,n a,i,ZSC]
 |false=>
  rw[a]at b;have⟨p,v⟩:=o a;simp only[go_sem,c91,c91L0,j,m,b,p,v,u,ZSH,Fu,wrB,appW,q,ZM,ZH,Ho,ZSF,wH,wkC,bf.enc,ZSC]
def UF(e:Gt)(a:NL Str)(d:Ga):Ga:={d with Ld:=e.Day,Why:=e.br,After:=a}
def UG(e:Gt)(a:NL Str)(u:be):be:=
 match a.l with
 |x::_=>{u with Ga:=x}
 |[]=>{u with Ld:=e.Day,Why:=e.br}
def Z3N(w:Wk)(a:NL Str)(l:List Ga)(k:Nat)(x:Ga)(c:l[k]?=some x)(b:l.length<=1000000):pfn rE 164 [Iy 16<|l.map Ga.enc,I k,.clo (.func 270) [] [.iptr true [.iptr true<|wkC w],.iptr false [.isl false a.ex 1<|a.l.map encS]]]=some (Iy 16<|(ZK l k<|UF w.e a).map Ga.enc):=by
 have d:=Z7 c;have h:=Z6 (f:=Ga.enc) c;have g:∀v,((l.map Ga.enc).set k v)[k]?=some v:=λv=>by simp[d]
 rw[YA c,ZSX];refine Xk (sz:=16) (f:=269) rfl rfl rfl _ _ _ (.tup []) false k (by simpa using d) (Xj (λ_=>rfl) _) (by simpa using b) ?_ (by simp) ?_
 .rw[Q6 (f:=270) rfl rfl];simp only[go_sem,c270,beq_self_eq_true,h,g,List.set_set,ZTP,ZSs,Ga.enc,NL.enc,UF]
 .rw[<-ZSX];exact Zw (λt=>rfl) _
def Z3O(w:Wk)(a:NL Str)(l:List be)(k:Nat)(x:be)(c:l[k]?=some x)(b:l.length<=1000000):pfn rE 174 [Iy 6<|l.map be.enc,I k,.clo (.func 271) [] [.iptr false [.isl false a.ex 1<|a.l.map encS],.iptr true [.iptr true<|wkC w]]]=some (Iy 6<|(ZK l k<|UG w.e a).map be.enc):=by
 have i:=Z7 c;have h:=Z6 (f:=be.enc) c;have j:∀v,((l.map be.enc).set k v)[k]?=some v:=λv=>by simp[i]
 rw[YA c,ZSX];refine Xk (sz:=6) (f:=275) rfl rfl rfl _ _ _ (.tup []) false k (by simpa using i) (Xj (λ_=>rfl) _) (by simpa using b) ?_ (by simp) ?_
 .rw[Q6 (f:=271) rfl rfl];unfold UG;cases m:a.l with
  |nil=>
   have d:decide (((0:Nat):Int)>0)=false:=rfl;simp only[go_sem,c271,beq_self_eq_true,h,j,List.set_set,ZTP,ZSs,be.enc,ZSS,ZT1,d]
  |cons y r=>
   have d:decide (((r.length+1:Nat):Int)>0)=true:=decide_eq_true<|by omega
   have g:ixG (.str y::r.map encS) 0=some (.str y):=rfl;simp only[go_sem,c271,beq_self_eq_true,h,ZSs,be.enc,ZSx,ZSG,ZSs,d,g,encS]
 .rw[<-ZSX];exact Zw (λt=>rfl) _
def Z3P(id:Str)(u:be):Bool:=Z3 u.Ga id&&!(u.Ld != -1)
def XO(e:Gt)(id:Str)(a:NL Str)(u:be):be:=bif Z3P id u then UG e a u else u
def UH(e:Gt)(id:Str)(a:NL Str)(l:List be):List be:=l.map<|XO e id a
def Ym(w:Wk)(l:List Ga):Wk:={w with s:={w.s with Bc:=l}}
def Qx(w:Wk)(l:List be):Wk:={w with s:={w.s with Nk:=l}}
def Qf(w:Wk)(k:Nat)(a:NL Str):Wk:=
 match w.s.Bc[k]? with
 |some x=>Qx (Ym w<|ZK w.s.Bc k<|UF w.e a)<|UH w.e x.Id a w.s.Nk
 |none=>w
def Y3{a:Type}(f:a->a)(l:List a)(i:Nat):List a:=(l.take i).map f++l.drop i
def Z3Q{a:Type}(f:a->a)(l:List a):Y3 f l 0=l:=by simp[Y3]
def Z3R{a:Type}(f:a->a)(l:List a):Y3 f l l.length=l.map f:=by simp[Y3]
def Z3S{a:Type}(f:a->a)(l:List a)(i:Nat):(Y3 f l i).length=l.length:=by
 unfold Y3;simp;omega
def UI{a:Type}(f:a->a){l:List a}{i:Nat}{x:a}(h:l[i]?=some x):(Y3 f l i)[i]?=some x:=by
 have b:=Z7 h;unfold Y3;rw[ZTd<|by simp;omega]
 have:i-(List.map f<|List.take i l).length=0:=by simp;omega
 rw[this,ZU9];simpa using h
def Fx{a:Type}(f:a->a){l:List a}{i:Nat}{x:a}(h:l[i]?=some x):Y3 f l (i+1)=(Y3 f l i).set i (f x):=by
 have b:=Z7 h;have c:l[i]=x:=by rw[ZSu b]at h;exact Option.some.inj h
 unfold Y3;rw[ZUK b,c,ZSF,ZSN,ZUP _ _<|by simp;omega]
 have:i-(List.map f<|List.take i l).length=0:=by simp;omega
 rw[this,ZTD b];rfl
def Fy{a:Type}(f:a->a){l:List a}{i:Nat}{x:a}(h:l[i]?=some x)(d:f x=x):Y3 f l (i+1)=Y3 f l i:=by
 rw[Fx f h,d];have b:=UI f h;have c:=Z7 b;rw[ZSu c]at b;have:=Option.some.inj b;rw[<-this,ZVa]
def Z3T(A z:AObj)(m:∀n,Zj n A=true)(o:∀n,Zj n z=true)(id:Str)(a:NL Str)(w:Wk)(J:w.s.Nk.length<=1000)(t:Hp)
 (B:(∃x,t=[x]/\∀n,3<=n->Zj n x=true)\/∃x y,t=[x,y]/\(∀n,3<=n->Zj n x=true)/\∀n,3<=n->Zj n y=true):
 ∃fr',Zg rE [3,5,6,34,35,36] c166L0b [(3,.ptr (3+t.length) 0 0 1),(5,.iptr false [.isl false a.ex 1<|a.l.map encS]),(6,.str id),(34,Iy 6<|w.s.Nk.map be.enc),(35,I w.s.Nk.length),(36,.int .i64 0)] (wH A z w++t++[.row 1 [.ptr 2 0 0 1]]) =
  some (.exit 0,fr',wH A z (Qx w<|UH w.e id a w.s.Nk)++t++[.row 1 [.ptr 2 0 0 1]]):=by
 have L:=Y8 (E:=rE) (live:=[3,5,6,34,35,36]) (b:=c166L0b) w.s.Nk.length
  (λi=>[(3,.ptr (3+t.length) 0 0 1),(5,.iptr false [.isl false a.ex 1<|a.l.map encS]),(6,.str id),(34,Iy 6<|w.s.Nk.map be.enc),(35,I w.s.Nk.length),(36,I i)])
  (λi=>wH A z (Qx w<|Y3 (XO w.e id a) w.s.Nk i)++t++[.row 1 [.ptr 2 0 0 1]]) (λi=>rfl)
  (λi F=>by
   obtain⟨x,k⟩:∃x,w.s.Nk[i]?=some x:=⟨_,ZSu F⟩;have u:=Z6 (f:=be.enc) k;have d:=Zh F;have r:=Zx (n:=i)<|by omega
   have g:=Z3O (Qx w<|Y3 (XO w.e id a) w.s.Nk i) a (Y3 (XO w.e id a) w.s.Nk i) i x (UI _ k)<|by rw[Z3S];omega
   have D:XO w.e id a x=bif Z3 x.Ga id&&!(x.Ld != -1)then UG w.e a x else x:=rfl;have G:Z3 x.Ga id=true->(x.Ld != -1)=false->ZK (Y3 (XO w.e id a) w.s.Nk i) i (UG w.e a)=Y3 (XO w.e id a) w.s.Nk (i+1):=λj p=>by
    rw[Fx _ k,YA<|UI _ k,D,j,p];rfl
   rw[YA<|UI _ k]at g;refine⟨[(3,.ptr (3+t.length) 0 0 1),(5,.iptr false [.isl false a.ex 1<|a.l.map encS]),(6,.str id),(34,Iy 6<|w.s.Nk.map be.enc),(35,I w.s.Nk.length),(36,I (i+1:Nat))],?_,rfl⟩;cases j:Z3 x.Ga id with
   |false=>
    have C:=Fy (XO w.e id a) k<|by rw[D,j];rfl
    rw[C];rcases B with⟨q,rfl,c⟩|⟨q,y0,rfl,c,b1⟩
    .simp only[go_sem,c166L0b,wH,Qx,u,d,r,be.enc,j,m,o,c]
    .simp only[go_sem,c166L0b,wH,Qx,u,d,r,be.enc,j,m,o,c,b1]
   |true=>
   cases p:x.Ld != -1 with
   |true=>
    have C:=Fy (XO w.e id a) k<|by rw[D,j,p];rfl
    rw[C];rcases B with⟨q,rfl,c⟩|⟨q,y0,rfl,c,b1⟩
    .simp only[go_sem,c166L0b,wH,Qx,u,d,r,be.enc,j,p,m,o,c]
    .simp only[go_sem,c166L0b,wH,Qx,u,d,r,be.enc,j,p,m,o,c,b1]
   |false=>
    have v:=G j p;rw[YA<|UI _ k]at v;have H:(Qx w<|Y3 (XO w.e id a) w.s.Nk i).e=w.e:=rfl;rw[H,v]at g;simp only[Qx]at g;rcases B with⟨q,rfl,c⟩|⟨q,y0,rfl,c,b1⟩
    .simp only[go_sem,c166L0b,wH,Qx,u,d,r,be.enc,j,p,m,o,c,g]
    .simp only[go_sem,c166L0b,wH,Qx,u,d,r,be.enc,j,p,m,o,c,b1,g])
  (e:=.exit 0) (fr:=[(3,.ptr (3+t.length) 0 0 1),(5,.iptr false [.isl false a.ex 1<|a.l.map encS]),(6,.str id),(34,Iy 6<|w.s.Nk.map be.enc),(35,I w.s.Nk.length),(36,I w.s.Nk.length)]) (h:=wH A z (Qx w<|Y3 (XO w.e id a) w.s.Nk w.s.Nk.length)++t++[.row 1 [.ptr 2 0 0 1]]) (by
   rcases B with⟨q,rfl,c⟩|⟨q,y0,rfl,c,b1⟩
   .simp only[go_sem,c166L0b,ZG,wH,Qx,m,o]
   .simp only[go_sem,c166L0b,ZG,wH,Qx,m,o]) (by simp)
 simp only[Z3Q,Z3R]at L;exact⟨_,L⟩
def Hq(c d:AObj)(j:∀n,Zj n c=true)(m:∀n,Zj n d=true)(a:NL Str)(w:Wk)(u:w.s.Nk.length<=1000)(h:w.s.Bc.length<=1000000)(k:Nat)(x:Ga)(i:w.s.Bc[k]?=some x)(t:Hp)
 (p:(∃x,t=[x]/\∀n,3<=n->Zj n x=true)\/∃x y,t=[x,y]/\(∀n,3<=n->Zj n x=true)/\∀n,3<=n->Zj n y=true):
 fnV rE 166 [.ptr 2 0 0 1,I k,.isl false a.ex 1<|a.l.map encS] (wH c d w++t)=some (.tup [],wH c d (Qf w k a)++t++[.row 1 [.ptr 2 0 0 1]]):=by
 have q:=Z6 (f:=Ga.enc) i;have b:=Z3N w a w.s.Bc k x i h;have⟨fr',g⟩:=Z3T c d j m x.Id a (Ym w<|ZK w.s.Bc k<|UF w.e a) u t p;have e:Qf w k a=Qx (Ym w<|ZK w.s.Bc k<|UF w.e a) (UH w.e x.Id a w.s.Nk):=by unfold Qf;rw[i]
 rw[e,Q6 (f:=166) rfl rfl];rcases p with⟨r,rfl,o⟩|⟨r,y0,rfl,o,b1⟩
 .simp only[wH,Ym,Qx,ZSv,ZSz,ZSG,ZT1,Nat.reduceAdd]at g⊢;simp only[go_sem,c166,c166L0,q,b,Ga.enc,NL.enc,j,m,o,g]
 .simp only[wH,Ym,Qx,ZSv,ZSz,ZSG,ZT1,Nat.reduceAdd]at g⊢;simp only[go_sem,c166,c166L0,q,b,Ga.enc,NL.enc,j,m,o,b1,g]
def Fz(c e:AObj)(w:Wk)(i:w.s.Bc.length<=100000)(d:Ga)(t:Hp)(g:t=[]\/(∃x,t=[x])\/(∃x y,t=[x,y])\/∃x y z,t=[x,y,z]):
 ∃q,fnV rE 159 [.ptr 2 0 0 1,Zo d] (wH c e w++t)=some (.tup [],wH c e (Qw w d)++t++[q])/\∀n,Zj n q=true:=by
 have a:Z4 (w.s.Bc.map Ga.enc)=true:=Zw (λt=>rfl) _
 have b:=λ(h:Hp)(aid:Nat)=>Vt (h:=h) (aid:=aid) (sz:=16) (bytes:=184) (es:=w.s.Bc.map Ga.enc) (ys:=[Zo<|Xl w d]) (bw:=false) (bw2:=false) (ex:=false) rfl (by omega) (by omega) (by simp;omega) (by simp only[XA,a];rfl)
 refine⟨.row 16 [Zo<|Xl w d],?_,λn=>rfl⟩
 unfold Zo Xl at b⊢;simp only at b⊢;rw[Q6 (f:=159) rfl rfl];rcases g with rfl|⟨x,rfl⟩|⟨x,y,rfl⟩|⟨x,y,z,rfl⟩<;>
  simp only[go_sem,c159,Ft,wrB,appW,b,ZM,ZH,Qw,Xl,ZSF,wH,wkC,Ga.enc,NL.enc,ZSC]
def Hr(d:Ga)(x:Ent):Ga:=⟨x.Id,d.Ev,d.By,0,x.An,x.bg,0,0,⟨false,[]⟩,0,0,emp⟩
def Y5(w:Wk)(d:Ga)(l:List Ent):Wk:={w with s:={w.s with Bc:=w.s.Bc++l.map (λx=>Xl w<|Hr d x)}}
def Z3U(w:Wk)(d:Ga){l:List Ent}{i:Nat}{x:Ent}(h:l[i]?=some x):Y5 w d (l.take<|i+1)=Qw (Y5 w d<|l.take i) (Hr d x):=by
 unfold Y5 Qw;rw[YW _ h,ZSN];rfl
def WO(w:Wk)(l:List Ent):Bool:=Zu (λ_ x=>!twB w x.Id) 0 l
def Z3V(m d:AObj)(u:∀n,Zj n m=true)(y:∀n,Zj n d=true)(w:Wk)(r:WkS w):
 ∃fr' h',Zg rE [0,3,14,15,16] c87L0b [(0,.ptr 2 0 0 1),(3,.sl 3 0 0 0 false),(14,.isl false w.e.Lst.ex 7<|w.e.Lst.l.map Ent.enc),(15,I w.e.Lst.l.length),(16,.int .i64 0)] (wH m d w++[.row 1 []]) =
  some (if WO w w.e.Lst.l=true then .exit 0 else .ret,fr',h')/\
  (WO w w.e.Lst.l=true->(get fr' 0=.ptr 2 0 0 1/\get fr' 2=.bot/\get fr' 3=.sl 3 w.e.Lst.l.length 0 w.e.Lst.l.length false)/\h'=wH m d w++[.row 1 ((w.e.Lst.l.map (·.Id)).map encS)])/\
  (WO w w.e.Lst.l=false->get fr' 2=.int .i64 8/\∃K,h'=wH m d w++[.row 1 K]):=by
 have j:∀n(K:List Str),Zd n (K.map encS)=true:=λn K=>ZN _<|Zw (λt=>rfl) K
 have J:=r.e.lst;have L:=Jk (E:=rE) (live:=[0,3,14,15,16]) (b:=c87L0b) w.e.Lst.l (λ_ x=>!twB w x.Id)
  (λi=>[(0,.ptr 2 0 0 1),(3,.sl 3 i 0 i false),(14,.isl false w.e.Lst.ex 7<|w.e.Lst.l.map Ent.enc),(15,I w.e.Lst.l.length),(16,I i)])
  (λi=>wH m d w++[.row 1 (((w.e.Lst.l.take i).map (·.Id)).map encS)]) 0
  (λfr' h'=>(get fr' 0=.ptr 2 0 0 1/\get fr' 2=.bot/\get fr' 3=.sl 3 w.e.Lst.l.length 0 w.e.Lst.l.length false)/\h'=wH m d w++[.row 1 ((w.e.Lst.l.map (·.Id)).map encS)])
  (λfr' h'=>get fr' 2=.int .i64 8/\∃K,h'=wH m d w++[.row 1 K])
  (λi=>rfl)
  (λi x c p=>by
   have v:=Z7 c;have z:=Z6 (f:=Ent.enc) c;have k:=Zh v;have s:=Zx (n:=i)<|by omega
   have G:=YW (λx:Ent=>x.Id) c
   have A:((w.e.Lst.l.take i).map (·.Id)).length=i:=by rw[ZSs,take_len c]
   have H:((w.e.Lst.l.take<|i+1).map (·.Id)).map encS=((w.e.Lst.l.take i).map (·.Id)).map encS++[.str x.Id]:=by
    rw[G,ZSF];rfl
   have a:=Wj w r x.Id;have o:twB w x.Id=false:=by simpa using p
   rw[o]at a;rw[H];generalize(w.e.Lst.l.take i).map (·.Id)=KS at A⊢;have C:=λD F B q=>XC (h:=[D,F,B,.row 1<|KS.map encS,q]) (fz:=false) (b:=3) (g:=i) (sz:=1) (es:=KS.map encS) (bw:=false) (ex:=false) (ys:=[.str x.Id]) (bytes:=16) (by simp[rowAt,A]) rfl (by simp[Qq];rfl) (by omega) (by omega) (by simp;omega)
   refine⟨[(0,.ptr 2 0 0 1),(2,.bot),(3,.sl 3 (i+1) 0 (i+1) false),(14,.isl false w.e.Lst.ex 7<|w.e.Lst.l.map Ent.enc),(15,I w.e.Lst.l.length),(16,I (i+1:Nat))],?_,rfl⟩;simp only[go_sem,c87L0b,wH,z,k,s,Ent.enc,a,C,beq_self_eq_true,j,u,y])
  (λi x c p=>by
   have v:=Z7 c;have z:=Z6 (f:=Ent.enc) c;have k:=Zh v;have a:=Wj w r x.Id;have o:twB w x.Id=true:=by simpa using p
   rw[o]at a;refine⟨_,_,by simp only[go_sem,c87L0b,wH,z,k,Ent.enc,a,beq_self_eq_true,j,u,y];rfl,?_,_,rfl⟩
   simp only[go_sem])
  ⟨_,_,by simp only[go_sem,c87L0b,wH,ZG,ZSZ,j,u,y];rfl,⟨by simp only[go_sem],by simp only[go_sem],by simp only[go_sem]⟩,rfl⟩
 simp only[List.take_zero,ZSS]at L;exact L
def Z3W(a c:AObj)(u:∀n,Zj n a=true)(v:∀n,Zj n c=true)(w:Wk)(C:w.s.Bc.length<=1000)(B:w.e.Lst.l.length<=100)(k:Int)(n:Nat)(K:List Str)(d:Ga):
 ∃fr',Zg rE [0,3,6,7,78,79,80] c87L1b [(0,.ptr 2 0 0 1),(3,.sl 3 n 0 n false),(6,I k),(7,.ptr 4 0 0 1),(78,.isl false w.e.Lst.ex 7<|w.e.Lst.l.map Ent.enc),(79,I w.e.Lst.l.length),(80,.int .i64 0)] (wH a c w++[.row 1<|K.map encS,.row 16 [Zo d]]) =
  some (.exit 3,fr',wH a c (Y5 w d w.e.Lst.l)++[.row 1<|K.map encS,.row 16 [Zo d]])/\get fr' 0=.ptr 2 0 0 1/\get fr' 3=.sl 3 n 0 n false/\get fr' 6=I k:=by
 have g:∀n(K:List Str),Zd n (K.map encS)=true:=λn K=>ZN _<|Zw (λt=>rfl) K
 have L:=Y8 (E:=rE) (live:=[0,3,6,7,78,79,80]) (b:=c87L1b) w.e.Lst.l.length
  (λi=>[(0,.ptr 2 0 0 1),(3,.sl 3 n 0 n false),(6,I k),(7,.ptr 4 0 0 1),(78,.isl false w.e.Lst.ex 7<|w.e.Lst.l.map Ent.enc),(79,I w.e.Lst.l.length),(80,I i)])
  (λi=>wH a c (Y5 w d<|w.e.Lst.l.take i)++[.row 1<|K.map encS,.row 16 [Zo d]]) (λi=>rfl)
  (λi r=>by
   obtain⟨x,p⟩:∃x,w.e.Lst.l[i]?=some x:=⟨_,ZSu r⟩;have y:=Z6 (f:=Ent.enc) p;have o:=Zh r;have m:=Zx (n:=i)<|by omega
   have⟨q,j,A⟩:=Fz a c (Y5 w d<|w.e.Lst.l.take i) (by simp[Y5];omega) (Hr d x) [.row 1<|K.map encS,.row 16 [Zo d],.row 7 [x.enc]]<|Or.inr<|Or.inr<|Or.inr ⟨_,_,_,rfl⟩
   rw[Z3U w d p];refine⟨[(0,.ptr 2 0 0 1),(3,.sl 3 n 0 n false),(6,I k),(7,.ptr 4 0 0 1),(78,.isl false w.e.Lst.ex 7<|w.e.Lst.l.map Ent.enc),(79,I w.e.Lst.l.length),(80,I (i+1:Nat))],?_,rfl⟩;generalize Y5 w d (w.e.Lst.l.take i)=W at j⊢;unfold Hr Zo at j⊢;simp only[wH,ZSv,ZSz,ZSS,Ent.enc]at j⊢;simp only[go_sem,c87L1b,y,o,m,Ent.enc,j,beq_self_eq_true,g,u,v])
  (e:=.exit 3) (fr:=[(0,.ptr 2 0 0 1),(3,.sl 3 n 0 n false),(6,I k),(7,.ptr 4 0 0 1),(78,.isl false w.e.Lst.ex 7<|w.e.Lst.l.map Ent.enc),(79,I w.e.Lst.l.length),(80,I w.e.Lst.l.length)]) (h:=wH a c (Y5 w d<|w.e.Lst.l.take w.e.Lst.l.length)++[.row 1<|K.map encS,.row 16 [Zo d]])
  (by simp only[go_sem,c87L1b,ZG,wH,g,u,v,Zo]) (by simp)
 have z:Y5 w d (w.e.Lst.l.take 0)=w:=by simp[Y5]
 rw[z,ZSZ]at L;exact⟨_,L,by simp only[go_sem],by simp only[go_sem],by simp only[go_sem]⟩
def Vu(s:Sta)(k:Int):Str:=match s.Bc[k.toNat]? with|some d=>d.Veil|none=>emp
def Ka(w:Wk):Int:=
 bif !WO w w.e.Lst.l then 8 else bif decide (Zn w.s w.e.Id<0)then 10
 else bif QN w.s (Zn w.s w.e.Id) != -1||!Z3 (Vu w.s<|Zn w.s w.e.Id) emp then 11 else 0
def Kb(w:Wk):Wk:=
 match w.s.Bc[(Zn w.s w.e.Id).toNat]? with
 |some d=>Qf (Y5 w d w.e.Lst.l) (Zn w.s w.e.Id).toNat ⟨false,w.e.Lst.l.map (·.Id)⟩
 |none=>w
def Z3X(m i:AObj)(g:∀n,Zj n m=true)(h:∀n,Zj n i=true)(w:Wk)(d:WkS w):∃t,fnV rE 87 [.ptr 2 0 0 1] (wH m i w)=some (I<|Ka w,wH m i (bif Ka w==0 then Kb w else w)++t):=by
 have b:∀n(K:List Str),Zd n (K.map encS)=true:=λn K=>ZN _<|Zw (λt=>rfl) K
 have C:∀K:List Str,Z4 (K.map encS)=true:=λK=>Zw (λt=>rfl) K
 have u:=find_ok w.s d.s w.e.Id;have O:((8:Int)==0)=false:=rfl;have H:((10:Int)==0)=false:=rfl;have q:((11:Int)==0)=false:=rfl;have L:((0:Int)==0)=true:=rfl;have⟨V,W,c,S,M⟩:=Z3V m i g h w d;rw[Q6 (f:=87) rfl rfl];unfold Ka;cases z:WO w w.e.Lst.l with
 |false=>
  rw[z]at c;obtain⟨k,K,rfl⟩:=M z;simp only[wH,ZSv,ZSz,ZSH,if_false]at c;refine⟨[.row 1 K],?_⟩;simp only[go_sem,c87,c87L0,wH,c,k,O]
 |true=>
 rw[z,if_pos rfl]at c;obtain⟨⟨x,k,A⟩,rfl⟩:=S z;simp only[wH,ZSv,ZSz]at c;cases p:decide (Zn w.s w.e.Id<0)with
 |true=>
  refine⟨[.row 1 ((w.e.Lst.l.map (·.Id)).map encS)],?_⟩;simp only[go_sem,c87,c87L0,wH,c,x,k,A,b,g,h,u,p,H]
 |false=>
 have⟨j,y,R,o⟩:=QC p;have r:Zn w.s w.e.Id=(j:Int):=R;have B:=Z6 (f:=Ga.enc) o;have D:QN w.s (j:Int)=y.Ld:=by simp[QN,o]
 have F:Vu w.s (j:Int)=y.Veil:=by simp[Vu,o]
 have Q:((j:Int)).toNat=j:=rfl;rw[r]at u p⊢;rw[D,F];cases G:y.Ld != -1 with
 |true=>
  refine⟨[.row 1 ((w.e.Lst.l.map (·.Id)).map encS)],?_⟩;simp only[go_sem,c87,c87L0,wH,c,x,k,A,b,g,h,u,p,B,Ga.enc,NL.enc,G,q]
 |false=>
 cases a:Z3 y.Veil emp with
 |false=>
  refine⟨[.row 1 ((w.e.Lst.l.map (·.Id)).map encS)],?_⟩;simp only[go_sem,c87,c87L0,wH,c,x,k,A,b,g,h,u,p,B,Ga.enc,NL.enc,G,a,q]
 |true=>
  have⟨X,E,P,N,T⟩:=Z3W m i g h w d.s.doors (ZTa d.e.lst<|by decide) j w.e.Lst.l.length (w.e.Lst.l.map (·.Id)) y
  have v:=Hq m i g h ⟨false,w.e.Lst.l.map (·.Id)⟩ (Y5 w y w.e.Lst.l) d.s.units (by have:=d.s.doors;have:=d.e.lst;simp[Y5];omega) j y (by
   have:=Z7 o;unfold Y5;rw[ZT2 this,o]) [.gone,.row 16 [Zo y]] (Or.inr ⟨_,_,rfl,λn _=>rfl,λn _=>rfl⟩)
  have U:Kb w=Qf (Y5 w y w.e.Lst.l) j ⟨false,w.e.Lst.l.map (·.Id)⟩:=by unfold Kb;rw[r,Q,o]
  rw[U];generalize Qf (Y5 w y w.e.Lst.l) j ⟨false,w.e.Lst.l.map (·.Id)⟩=W2 at v⊢;unfold Zo at E v;simp only[wH,ZSv,ZSz]at E v;refine⟨[.gone,.row 16 [Zo y]],?_⟩;have J:List.take w.e.Lst.l.length ((w.e.Lst.l.map (·.Id)).map encS)=(w.e.Lst.l.map (·.Id)).map encS:=ZSR<|by simp
  simp only[go_sem,c87,c87L0,c87L1,wH,c,x,k,A,b,C,g,h,u,p,B,Ga.enc,NL.enc,G,a,L,E,P,N,T,v,beq_self_eq_true,J,Zo]
def FA(w:Wk)(k:Nat)(a:NL Str):(Qf w k a).e=w.e:=by unfold Qf;split<;>rfl
def FB(w:Wk)(k:Nat)(a:NL Str):(Qf w k a).s.Bc.length=w.s.Bc.length:=by
 unfold Qf;split
 .simp[Qx,Ym,Xm]
 .rfl
def FC(w:Wk)(k:Nat)(a:NL Str):(Qf w k a).s.Nk.length=w.s.Nk.length:=by
 unfold Qf;split
 .simp[Qx,Ym,UH]
 .rfl
def Yg(w:Wk)(l:List Int)(a:NL Str):Wk:=l.foldl (λw k=>Qf w k.toNat a) w
def UJ(w:Wk)(k:Int)(l:List Int)(a:NL Str):Yg w (k::l) a=Yg (Qf w k.toNat a) l a:=rfl
def Z3Y(w:Wk){l:List Int}{i:Nat}{x:Int}(h:l[i]?=some x)(a:NL Str):Yg w (l.take<|i+1) a=Qf (Yg w (l.take i) a) x.toNat a:=by
 have b:=Z7 h;have c:l[i]=x:=by rw[ZSu b]at h;exact Option.some.inj h
 unfold Yg;rw[ZUK b,c,ZUL];rfl
def Z3Z(l:List Int)(a:NL Str):∀w:Wk,(Yg w l a).e=w.e:=by
 induction l with
 |nil=>intro w;rfl
 |cons x r b=>intro w;rw[UJ,b,FA]
def Z40(l:List Int)(a:NL Str):∀w:Wk,(Yg w l a).s.Bc.length=w.s.Bc.length:=by
 induction l with
 |nil=>intro w;rfl
 |cons x r b=>intro w;rw[UJ,b,FB]
def Z41(l:List Int)(a:NL Str):∀w:Wk,(Yg w l a).s.Nk.length=w.s.Nk.length:=by
 induction l with
 |nil=>intro w;rfl
 |cons x r b=>intro w;rw[UJ,b,FC]
def Z42(l:List Int)(ex:Bool)(v:Int)(a:l.length<=1000000):pfn rE 135 [.isl true ex 1<|l.map I,I v]=some (.bool<|l.any<|λx=>v==x):=by
 have h:=Nz (f:=254) (enc:=I) (p:=λx=>v==x) (v:=I v) rfl rfl l (by omega) (λx _=>rfl) rfl (λx _=>rfl) true ex
 rw[Z5 (f:=135) rfl rfl,<-Vg];unfold WG;simp only[go_sem,c135,h]
def Zf(w:Wk):List Int:=w.e.Ids.l.map<|λid=>Zn w.s id
def XP(s:Sta)(k:Int):Str:=match s.Bc[k.toNat]? with|some d=>d.By|none=>emp
def JG(s:Sta)(a:Str)(k:Int):Bool:=!((QN s k != -1||!Z3 (Vu s k) emp)||!Z3 (XP s k) a)
def Kc(w:Wk):Int:=
 bif twB w w.e.Id then 8 else bif (Zf w).any (λx=>-1==x)then 10
 else bif Zu (λ_ k=>JG w.s (XP w.s<|(Zf w).headD 0) k) 0 (Zf w)then 0 else 11
def WP(w:Wk)(d:Ga):Ga:=⟨w.e.Id,d.Ev,d.By,0,w.e.An,w.e.bg,0,0,⟨false,[]⟩,0,0,emp⟩
def Kd(w:Wk):Wk:=
 match w.s.Bc[((Zf w).headD 0).toNat]? with
 |some d=>Yg (Qw w<|WP w d) (Zf w) ⟨false,[w.e.Id]⟩
 |none=>w
def Z43(d a:AObj)(p:∀n,Zj n d=true)(r:∀n,Zj n a=true)(w:Wk)(o:WkS w):
 ∃fr',Zg rE [0,3,23,24,25] c88L0b [(0,.ptr 2 0 0 1),(3,.sl 3 0 0 0 false),(23,.isl false w.e.Ids.ex 1<|w.e.Ids.l.map encS),(24,I w.e.Ids.l.length),(25,.int .i64 0)] (wH d a w++[.row 1 []]) =
  some (.exit 0,fr',wH d a w++[.row 1<|(Zf w).map I])/\get fr' 0=.ptr 2 0 0 1/\get fr' 3=.sl 3 (Zf w).length 0 (Zf w).length false:=by
 have c:∀n(K:List Int),Zd n (K.map I)=true:=λn K=>ZN _<|Zw (λt=>rfl) K
 have H:=o.e.ids;have L:=Y8 (E:=rE) (live:=[0,3,23,24,25]) (b:=c88L0b) w.e.Ids.l.length
  (λi=>[(0,.ptr 2 0 0 1),(3,.sl 3 i 0 i false),(23,.isl false w.e.Ids.ex 1<|w.e.Ids.l.map encS),(24,I w.e.Ids.l.length),(25,I i)])
  (λi=>wH d a w++[.row 1<|((w.e.Ids.l.take i).map (λid=>Zn w.s id)).map I]) (λi=>rfl)
  (λi q=>by
   obtain⟨x,j⟩:∃x,w.e.Ids.l[i]?=some x:=⟨_,ZSu q⟩;have D:=Z6 (f:=encS) j;have k:=Zh q;have m:=Zx (n:=i)<|by omega
   have C:=YW (λid=>Zn w.s id) j
   have u:((w.e.Ids.l.take i).map (λid=>Zn w.s id)).length=i:=by rw[ZSs,take_len j]
   have G:((w.e.Ids.l.take<|i+1).map (λid=>Zn w.s id)).map I=((w.e.Ids.l.take i).map (λid=>Zn w.s id)).map I++[I<|Zn w.s x]:=by
    rw[C,ZSF];rfl
   have F:=find_ok w.s o.s x;rw[G];generalize(w.e.Ids.l.take i).map (λid=>Zn w.s id)=KS at u⊢
   have z:=λA B v=>XC (h:=[A,B,v,.row 1<|KS.map I]) (fz:=false) (b:=3) (g:=i) (sz:=1) (es:=KS.map I) (bw:=false) (ex:=false) (ys:=[I<|Zn w.s x]) (bytes:=8) (by simp[rowAt,u]) rfl (by simp[Qq];rfl) (by omega) (by omega) (by simp;omega)
   refine⟨[(0,.ptr 2 0 0 1),(3,.sl 3 (i+1) 0 (i+1) false),(23,.isl false w.e.Ids.ex 1<|w.e.Ids.l.map encS),(24,I w.e.Ids.l.length),(25,I (i+1:Nat))],?_,rfl⟩;simp only[go_sem,c88L0b,wH,D,k,m,encS,F,z,beq_self_eq_true,c,p,r])
  (e:=.exit 0) (fr:=[(0,.ptr 2 0 0 1),(3,.sl 3 w.e.Ids.l.length 0 w.e.Ids.l.length false),(23,.isl false w.e.Ids.ex 1<|w.e.Ids.l.map encS),(24,I w.e.Ids.l.length),(25,I w.e.Ids.l.length)]) (h:=wH d a w++[.row 1<|((w.e.Ids.l.take w.e.Ids.l.length).map (λid=>Zn w.s id)).map I])
  (by simp only[go_sem,c88L0b,ZG,wH,c,p,r]) (by simp)
 rw[ZSZ]at L;have y:(Zf w).length=w.e.Ids.l.length:=by simp[Zf]
 rw[y];exact⟨_,L,by simp only[go_sem],by simp only[go_sem]⟩
def Z44{l:List Int}(h:l.any (λx=>-1==x)=false){i:Nat}{k:Int}(a:l[i]?=some k):k≠-1:=by
 intro e;rw[ZTB]at h;exact h k (ZSy a)<|by rw[e];rfl
def UK(w:Wk)(h:(Zf w).any (λx=>-1==x)=false){i:Nat}{k:Int}(a:(Zf w)[i]?=some k):∃(j:Nat)(d:Ga),k=(j:Int)/\w.s.Bc[j]?=some d:=by
 have f:=Z44 h a;unfold Zf at a;rw[ZT7]at a;cases g:w.e.Ids.l[i]? with
 |none=>rw[g]at a;cases a
 |some id=>
  rw[g]at a;have b:Zn w.s id=k:=Option.some.inj a;have n:decide (Zn w.s id<0)=false:=by
   rcases UA (λx:Ga=>Z3 x.Id id) w.s.Bc 0 with⟨c,_⟩|⟨j,x,c,m,_⟩
   .exact absurd (show k=-1 by rw[<-b];exact c) f
   .have:Zn w.s id=0+(j:Int):=c;rw[this];exact decide_eq_false<|by omega
  have⟨j,d,c,m⟩:=QC n;exact⟨j,d,by rw[<-b];exact c,m⟩
def Z45(r q:AObj)(D:∀n,Zj n r=true)(F:∀n,Zj n q=true)(w:Wk)(P:WkS w)(O:(Zf w).any (λx=>-1==x)=false)(d:Ga):
 ∃fr' h',Zg rE [0,3,6,51,52,53] c88L1b [(0,.ptr 2 0 0 1),(3,.sl 3 (Zf w).length 0 (Zf w).length false),(6,.ptr 4 0 0 1),(51,.sl 3 (Zf w).length 0 (Zf w).length false),(52,I (Zf w).length),(53,.int .i64 0)] (wH r q w++[.row 1<|(Zf w).map I,.row 16 [Zo d]]) =
  some (if Zu (λ_ k=>JG w.s d.By k) 0 (Zf w)=true then .exit 2 else .ret,fr',h')/\
  (Zu (λ_ k=>JG w.s d.By k) 0 (Zf w)=true->(get fr' 0=.ptr 2 0 0 1/\get fr' 2=.bot/\get fr' 3=.sl 3 (Zf w).length 0 (Zf w).length false/\get fr' 6=.ptr 4 0 0 1)/\h'=wH r q w++[.row 1<|(Zf w).map I,.row 16 [Zo d]])/\
  (Zu (λ_ k=>JG w.s d.By k) 0 (Zf w)=false->(get fr' 0=.ptr 2 0 0 1/\get fr' 2=.int .i64 11/\get fr' 3=.sl 3 (Zf w).length 0 (Zf w).length false/\get fr' 6=.ptr 4 0 0 1)/\h'=wH r q w++[.row 1<|(Zf w).map I,.row 16 [Zo d]]):=by
 have g:∀n(K:List Int),Zd n (K.map I)=true:=λn K=>ZN _<|Zw (λt=>rfl) K
 have N:(Zf w).length<=100:=by simp[Zf];exact P.e.ids
 have L:=Jk (E:=rE) (live:=[0,3,6,51,52,53]) (b:=c88L1b) (Zf w) (λ_ k=>JG w.s d.By k)
  (λi=>[(0,.ptr 2 0 0 1),(3,.sl 3 (Zf w).length 0 (Zf w).length false),(6,.ptr 4 0 0 1),(51,.sl 3 (Zf w).length 0 (Zf w).length false),(52,I (Zf w).length),(53,I i)])
  (λi=>wH r q w++[.row 1<|(Zf w).map I,.row 16 [Zo d]]) 2
  (λfr' h'=>(get fr' 0=.ptr 2 0 0 1/\get fr' 2=.bot/\get fr' 3=.sl 3 (Zf w).length 0 (Zf w).length false/\get fr' 6=.ptr 4 0 0 1)/\h'=wH r q w++[.row 1<|(Zf w).map I,.row 16 [Zo d]])
  (λfr' h'=>(get fr' 0=.ptr 2 0 0 1/\get fr' 2=.int .i64 11/\get fr' 3=.sl 3 (Zf w).length 0 (Zf w).length false/\get fr' 6=.ptr 4 0 0 1)/\h'=wH r q w++[.row 1<|(Zf w).map I,.row 16 [Zo d]])
  (λi=>rfl)
  (λi k A H=>by
   have M:=Z7 A;obtain⟨j,y,rfl,m⟩:=UK w O A;have G:=Z6 (f:=I) A;have C:=Z6 (f:=Ga.enc) m;have l:=Zh M;have J:=Zx (n:=i)<|by omega
   have u:QN w.s (j:Int)=y.Ld:=by simp[QN,m]
   have v:Vu w.s (j:Int)=y.Veil:=by simp[Vu,m]
   have p:XP w.s (j:Int)=y.By:=by simp[XP,m]
   have c:(!((y.Ld != -1||!Z3 y.Veil emp)||!Z3 y.By d.By))=true:=by rw[<-u,<-v,<-p];exact H
   have o:(y.Ld != -1)=false:=by revert c;cases(y.Ld != -1)<;>simp
   have B:Z3 y.Veil emp=true:=by revert c;rw[o];cases Z3 y.Veil emp<;>simp
   have a:Z3 y.By d.By=true:=by revert c;rw[o,B];cases Z3 y.By d.By<;>simp
   have z:((i:Int)<((Zf w).length:Int)):=by omega
   refine⟨[(0,.ptr 2 0 0 1),(2,.bot),(3,.sl 3 (Zf w).length 0 (Zf w).length false),(6,.ptr 4 0 0 1),(51,.sl 3 (Zf w).length 0 (Zf w).length false),(52,I (Zf w).length),(53,I (i+1:Nat))],?_,rfl⟩;have h:iaP 3 (Zf w).length 0 1 (i:Int) (Zf w).length (some (1,(Zf w).map I))=some (.ptr 3 i 0 (Zf w).length):=by
    rw[VT _ _ _ _ _ _ _ ⟨by omega,z⟩];simp
   simp only[go_sem,c88L1b,wH,Zo,G,C,l,J,h,Ga.enc,NL.enc,o,B,a,beq_self_eq_true,g,D,F])
  (λi k A H=>by
   have M:=Z7 A;obtain⟨j,y,rfl,m⟩:=UK w O A;have G:=Z6 (f:=I) A;have C:=Z6 (f:=Ga.enc) m;have l:=Zh M;have u:QN w.s (j:Int)=y.Ld:=by simp[QN,m]
   have v:Vu w.s (j:Int)=y.Veil:=by simp[Vu,m]
   have p:XP w.s (j:Int)=y.By:=by simp[XP,m]
   have c:(!((y.Ld != -1||!Z3 y.Veil emp)||!Z3 y.By d.By))=false:=by rw[<-u,<-v,<-p];exact H
   have z:((i:Int)<((Zf w).length:Int)):=by omega
   have h:iaP 3 (Zf w).length 0 1 (i:Int) (Zf w).length (some (1,(Zf w).map I))=some (.ptr 3 i 0 (Zf w).length):=by
    rw[VT _ _ _ _ _ _ _ ⟨by omega,z⟩];simp
   cases o:(y.Ld != -1)with
   |true=>exact⟨_,_,by simp only[go_sem,c88L1b,wH,Zo,G,C,l,h,Ga.enc,NL.enc,o,beq_self_eq_true,g,D,F];rfl,⟨by simp only[go_sem],by simp only[go_sem],by simp only[go_sem],by simp only[go_sem]⟩,rfl⟩
   |false=>
   cases B:Z3 y.Veil emp with
   |false=>exact⟨_,_,by simp only[go_sem,c88L1b,wH,Zo,G,C,l,h,Ga.enc,NL.enc,o,B,beq_self_eq_true,g,D,F];rfl,⟨by simp only[go_sem],by simp only[go_sem],by simp only[go_sem],by simp only[go_sem]⟩,rfl⟩
   |true=>
   cases a:Z3 y.By d.By with
   |true=>rw[o,B,a]at c;cases c
   |false=>exact⟨_,_,by simp only[go_sem,c88L1b,wH,Zo,G,C,l,h,Ga.enc,NL.enc,o,B,a,beq_self_eq_true,g,D,F];rfl,⟨by simp only[go_sem],by simp only[go_sem],by simp only[go_sem],by simp only[go_sem]⟩,rfl⟩)
  ⟨_,_,by simp only[go_sem,c88L1b,wH,Zo,ZG,g,D,F];rfl,⟨by simp only[go_sem],by simp only[go_sem],by simp only[go_sem],by simp only[go_sem]⟩,rfl⟩
 exact L
def Z46(m g:AObj)(z:∀n,Zj n m=true)(A:∀n,Zj n g=true)(l:List Int)(G:l.length<=100)(w:Wk)(H:w.s.Nk.length<=1000)(p:w.s.Bc.length<=1000000)(x:∀(i:Nat)(k:Int),l[i]?=some k->∃j:Nat,k=(j:Int)/\j<w.s.Bc.length)(d:Ga):
 ∃fr',Zg rE [0,103,104,105] c88L2b [(0,.ptr 2 0 0 1),(103,.sl 3 l.length 0 l.length false),(104,I l.length),(105,.int .i64 0)] (wH m g w++[.row 1<|l.map I,.row 16 [Zo d]]) =
  some (.exit 4,fr',wH m g (Yg w l ⟨false,[w.e.Id]⟩)++[.row 1<|l.map I,.row 16 [Zo d]]):=by
 have a:∀n(K:List Int),Zd n (K.map I)=true:=λn K=>ZN _<|Zw (λt=>rfl) K
 have L:=Y8 (E:=rE) (live:=[0,103,104,105]) (b:=c88L2b) l.length
  (λi=>[(0,.ptr 2 0 0 1),(103,.sl 3 l.length 0 l.length false),(104,I l.length),(105,I i)])
  (λi=>wH m g (Yg w (l.take i) ⟨false,[w.e.Id]⟩)++[.row 1<|l.map I,.row 16 [Zo d]]) (λi=>rfl)
  (λi F=>by
   obtain⟨k,B⟩:∃k,l[i]?=some k:=⟨_,ZSu F⟩;obtain⟨j,rfl,M⟩:=x i k B;have J:=Z6 (f:=I) B;have u:=Zh F;have v:=Zx (n:=i)<|by omega
   have C:((i:Int)<(l.length:Int)):=by omega
   have r:iaP 3 l.length 0 1 (i:Int) l.length (some (1,l.map I))=some (.ptr 3 i 0 l.length):=by
    rw[VT _ _ _ _ _ _ _ ⟨by omega,C⟩];simp
   rw[Z3Y w B];have D:=Z3Z (l.take i) ⟨false,[w.e.Id]⟩ w;have c:=Z40 (l.take i) ⟨false,[w.e.Id]⟩ w;have o:=Z41 (l.take i) ⟨false,[w.e.Id]⟩ w;generalize Yg w (l.take i) ⟨false,[w.e.Id]⟩=W at D c o⊢;obtain⟨y,O⟩:∃y,W.s.Bc[j]?=some y:=⟨_,ZSu<|by rw[c];exact M⟩
   have q:=Hq m g z A ⟨false,[w.e.Id]⟩ W (by rw[o];exact H) (by rw[c];exact p) j y O [.row 1<|l.map I,.row 16 [Zo d]]<|Or.inr ⟨_,_,rfl,λn _=>by simp only[go_sem,a],λn _=>rfl⟩
   have N:((j:Int)).toNat=j:=rfl;rw[N];generalize Qf W j ⟨false,[w.e.Id]⟩=W2 at q⊢;refine⟨[(0,.ptr 2 0 0 1),(103,.sl 3 l.length 0 l.length false),(104,I l.length),(105,I (i+1:Nat))],?_,rfl⟩;simp only[wH,Zo,encS,ZSv,ZSz,ZSx,ZSS]at q⊢;simp only[go_sem,c88L2b,J,u,v,r,D,q,beq_self_eq_true,a,z,A])
  (e:=.exit 4) (fr:=[(0,.ptr 2 0 0 1),(103,.sl 3 l.length 0 l.length false),(104,I l.length),(105,I l.length)]) (h:=wH m g (Yg w (l.take l.length) ⟨false,[w.e.Id]⟩)++[.row 1<|l.map I,.row 16 [Zo d]])
  (by simp only[go_sem,c88L2b,Zo,ZG,wH,a,z,A]) (by simp)
 rw[ZSZ]at L;exact⟨_,L⟩
def FD{l:List Int}(h:0<l.length):l[0]?=some (l.headD 0):=by
 cases l with
 |nil=>simp at h
 |cons x r=>rfl
def Z47(g b:AObj)(o:∀n,Zj n g=true)(r:∀n,Zj n b=true)(w:Wk)(m:WkS w)(ab:0<w.e.Ids.l.length):∃t,fnV rE 88 [.ptr 2 0 0 1] (wH g b w)=some (I<|Kc w,wH g b (bif Kc w==0 then Kd w else w)++t):=by
 have c:∀n(K:List Int),Zd n (K.map I)=true:=λn K=>ZN _<|Zw (λt=>rfl) K
 have h:∀K:List Int,Z4 (K.map I)=true:=λK=>Zw (λt=>rfl) K
 have a:=Wj w m w.e.Id;have z8:((8:Int)==0)=false:=rfl;have T:((10:Int)==0)=false:=rfl;have G:((11:Int)==0)=false:=rfl;have Z:((0:Int)==0)=true:=rfl;have W:(Zf w).length=w.e.Ids.l.length:=by simp[Zf]
 have hl:=m.e.ids;have⟨f0,B,J,N⟩:=Z43 g b o r w m;simp only[wH,ZSv,ZSz]at B;have F:List.take (Zf w).length ((Zf w).map I)=(Zf w).map I:=ZSR<|by simp
 have y:=Z42 (Zf w) false (-1)<|by omega
 rw[Q6 (f:=88) rfl rfl];unfold Kc;cases U:twB w w.e.Id with
 |true=>
  rw[U]at a;refine⟨[],?_⟩;simp only[go_sem,c88,wH,a,z8,ZSC]
 |false=>
 rw[U]at a;cases z:(Zf w).any (λx=>-1==x)with
 |true=>
  rw[z]at y;refine⟨[.row 1<|(Zf w).map I],?_⟩;simp only[go_sem,c88,c88L0,wH,a,B,J,N,y,F,h,c,o,r,T,beq_self_eq_true]
 |false=>
 rw[z]at y;have v:=FD (l:=Zf w)<|by omega
 have⟨j,d,R,L⟩:=UK w z v;have O:=Z6 (f:=I) v;have V:=Z6 (f:=Ga.enc) L;have Q:((0:Int)<((Zf w).length:Int)):=by omega
 have u:iaP 3 (Zf w).length 0 1 (0:Int) (Zf w).length (some (1,(Zf w).map I))=some (.ptr 3 0 0 (Zf w).length):=by
  rw[VT _ _ _ _ _ _ _ ⟨by omega,Q⟩];simp
 rw[R]at O;have D:XP w.s (j:Int)=d.By:=by simp[XP,L]
 rw[R,D];have⟨f1,g1,p,a1,b1⟩:=Z45 g b o r w m z d;cases C:Zu (λ_ k=>JG w.s d.By k) 0 (Zf w)with
 |false=>
  rw[C]at p;obtain⟨⟨M,E,H,S⟩,rfl⟩:=b1 C;simp only[wH,Zo,ZSv,ZSz,ZSH,if_false]at p;refine⟨[.row 1<|(Zf w).map I,.row 16 [Zo d]],?_⟩;simp only[go_sem,c88,c88L0,c88L1,wH,a,B,J,N,y,F,h,c,o,r,G,beq_self_eq_true,O,V,u,Ga.enc,NL.enc,Zo,p,M,E,H,S]
 |true=>
  rw[C,if_pos rfl]at p;obtain⟨⟨M,E,H,S⟩,rfl⟩:=a1 C;simp only[wH,Zo,ZSv,ZSz]at p;have aa:=m.s.doors;have⟨q,A,hq⟩:=Fz g b w (by omega) (WP w d) [.row 1<|(Zf w).map I,.row 16 [Zo d]]<|Or.inr<|Or.inr<|Or.inl ⟨_,_,rfl⟩
  have⟨f2,l2⟩:=Z46 g b o r (Zf w) (by omega) (Qw w<|WP w d) m.s.units (by simp[Qw];omega) (λ(i:Nat)(k:Int)(hk:(Zf w)[i]?=some k)=>by
   have⟨j',d',X,Y⟩:=UK w z hk;exact⟨j',X,by have:=Z7 Y;simp[Qw];omega⟩) d
  have hs:Kd w=Yg (Qw w<|WP w d) (Zf w) ⟨false,[w.e.Id]⟩:=by
   have hn:((j:Int)).toNat=j:=rfl;unfold Kd;rw[R,hn,L]
  have P:(Qw w<|WP w d).e.Id=w.e.Id:=rfl;rw[P]at l2;rw[hs];generalize Yg (Qw w<|WP w d) (Zf w) ⟨false,[w.e.Id]⟩=W2 at l2⊢;generalize Qw w (WP w d)=W1 at l2 A;unfold WP Zo at A;simp only[wH,Zo,ZSv,ZSz,ZSS]at l2 A;refine⟨[.row 1<|(Zf w).map I,.row 16 [Zo d]],?_⟩;simp only[go_sem,c88,c88L0,c88L1,c88L2,wH,a,B,J,N,y,F,h,c,o,r,Z,beq_self_eq_true,O,V,u,Ga.enc,NL.enc,p,M,E,H,S,A,l2,Zo]
def FE(n:Nat)(h:3<=n):Zj n (.row 1 [.ptr 2 0 0 1])=true:=by
 have:decide (2<n)=true:=decide_eq_true<|by omega
 simp[Zj,Zd,bel];omega
def Ke(e:Gt)(x:Ev):Ev:={x with Ld:=e.Day}
def Z48(w:Wk)(l:List Ev)(k:Nat)(x:Ev)(b:l[k]?=some x)(a:l.length<=1000000):pfn rE 167 [Iy 4<|l.map Ev.enc,I k,.clo (.func 168) [] [.iptr true [.iptr true<|wkC w]]]=some (Iy 4<|(ZK l k<|Ke w.e).map Ev.enc):=by
 have c:=Z7 b;have d:=Z6 (f:=Ev.enc) b;rw[YA b,ZSX];refine Xk (sz:=4) (f:=272) rfl rfl rfl _ _ _ (.tup []) false k (by simpa using c) (Xj (λ_=>rfl) _) (by simpa using a) ?_ (by simp) ?_
 .rw[Q6 (f:=168) rfl rfl];simp only[go_sem,c168,beq_self_eq_true,d,Ev.enc,NL.enc,Ke]
 .rw[<-ZSX];exact Zw (λt=>rfl) _
def NV(id:Str)(x:Ga):Bool:=Z3 x.Ev id&&x.Ld==-1
def Y6(w:Wk)(l:List Ga):Nat->Wk
 |0=>w
 |i+1=>match l[i]? with
  |some x=>bif NV w.e.Id x then Qf (Y6 w l i) i ⟨false,[]⟩else Y6 w l i
  |none=>Y6 w l i
def FF(w:Wk)(l:List Ga):∀i,(Y6 w l i).e=w.e/\(Y6 w l i).s.Bc.length=w.s.Bc.length/\(Y6 w l i).s.Nk.length=w.s.Nk.length
 |0=>⟨rfl,rfl,rfl⟩
 |i+1=>by
  have a:=FF w l i;rw[Y6];cases l[i]? with
  |none=>exact a
  |some x=>
   dsimp only;cases NV w.e.Id x with
   |false=>exact a
   |true=>
    rw[cond_true,FA,FB,FC];exact a
def JH(w:Wk)(l:List Ev):Wk:={w with s:={w.s with Bt:=l}}
def Z49(j g:AObj)(k:∀n,Zj n j=true)(l:∀n,Zj n g=true)(w:Wk)(z:w.s.Nk.length<=1000)(C:w.s.Bc.length<=1000):
 ∃fr',Zg rE [1,46,47,48] c89L0b [(1,.ptr 3 0 0 1),(46,Iy 16<|w.s.Bc.map Ga.enc),(47,I w.s.Bc.length),(48,.int .i64 0)] (wH j g w++[.row 1 [.ptr 2 0 0 1]]) =
  some (.exit 1,fr',wH j g (Y6 w w.s.Bc w.s.Bc.length)++[.row 1 [.ptr 2 0 0 1]]):=by
 have L:=Y8 (E:=rE) (live:=[1,46,47,48]) (b:=c89L0b) w.s.Bc.length
  (λi=>[(1,.ptr 3 0 0 1),(46,Iy 16<|w.s.Bc.map Ga.enc),(47,I w.s.Bc.length),(48,I i)])
  (λi=>wH j g (Y6 w w.s.Bc i)++[.row 1 [.ptr 2 0 0 1]]) (λi=>rfl)
  (λi q=>by
   obtain⟨x,u⟩:∃x,w.s.Bc[i]?=some x:=⟨_,ZSu q⟩;have r:=Z6 (f:=Ga.enc) u;have a:=Zh q;have d:=Zx (n:=i)<|by omega
   have⟨o,c,m⟩:=FF w w.s.Bc i;have A:Y6 w w.s.Bc (i+1)=bif Z3 x.Ev w.e.Id&&x.Ld==-1 then Qf (Y6 w w.s.Bc i) i ⟨false,[]⟩else Y6 w w.s.Bc i:=by
    rw[Y6,u];rfl
   rw[A];generalize Y6 w w.s.Bc i=W at o c m⊢;obtain⟨y,B⟩:∃y,W.s.Bc[i]?=some y:=⟨_,ZSu<|by rw[c];exact q⟩
   have p:=Hq j g k l ⟨false,[]⟩ W (by rw[m];exact z) (by rw[c];omega) i y B [.row 1 [.ptr 2 0 0 1],.row 16 [x.enc]]<|Or.inr ⟨_,_,rfl,FE,λn _=>rfl⟩
   generalize Qf W i ⟨false,[]⟩=W2 at p⊢;refine⟨[(1,.ptr 3 0 0 1),(46,Iy 16<|w.s.Bc.map Ga.enc),(47,I w.s.Bc.length),(48,I (i+1:Nat))],?_,rfl⟩;simp only[wH,ZSv,ZSz,ZSS,Ga.enc,NL.enc]at p⊢;cases t:Z3 x.Ev w.e.Id with
   |false=>simp only[go_sem,c89L0b,r,a,d,o,t,Ga.enc,NL.enc,k,l]
   |true=>
   cases v:x.Ld==-1 with
   |false=>simp only[go_sem,c89L0b,r,a,d,o,t,v,Ga.enc,NL.enc,k,l]
   |true=>simp only[go_sem,c89L0b,r,a,d,o,t,v,Ga.enc,NL.enc,k,l,p])
  (e:=.exit 1) (fr:=[(1,.ptr 3 0 0 1),(46,Iy 16<|w.s.Bc.map Ga.enc),(47,I w.s.Bc.length),(48,I w.s.Bc.length)]) (h:=wH j g (Y6 w w.s.Bc w.s.Bc.length)++[.row 1 [.ptr 2 0 0 1]])
  (by simp only[go_sem,c89L0b,ZG,wH,k,l]) (by simp)
 exact⟨_,L⟩
def Hs(w:Wk):Int:=bif decide (Y1 w.s w.e.Id<0)then 10 else bif WL w.s (Y1 w.s w.e.Id) != -1 then 11 else 0
def Ht(w:Wk):Wk:=Y6 (JH w<|ZK w.s.Bt (Y1 w.s w.e.Id).toNat<|Ke w.e) w.s.Bc w.s.Bc.length
def Z4a(g c:AObj)(q:∀n,Zj n g=true)(r:∀n,Zj n c=true)(w:Wk)(d:WkS w):∃t,fnV rE 89 [.ptr 2 0 0 1] (wH g c w)=some (I<|Hs w,wH g c (bif Hs w==0 then Ht w else w)++t):=by
 have b:=Hb w.s d.s w.e.Id;have p:((10:Int)==0)=false:=rfl;have m:((11:Int)==0)=false:=rfl;have z:((0:Int)==0)=true:=rfl;rw[Q6 (f:=89) rfl rfl];unfold Hs Ht;refine⟨[.row 1 [.ptr 2 0 0 1]],?_⟩;cases a:decide (Y1 w.s w.e.Id<0)with
 |true=>simp only[go_sem,c89,wH,b,a,p]
 |false=>
 have⟨j,x,A,i⟩:=QC a;have o:Y1 w.s w.e.Id=(j:Int):=A;have v:=Z6 (f:=Ev.enc) i;have y:WL w.s (j:Int)=x.Ld:=by simp[WL,i]
 have B:((j:Int)).toNat=j:=rfl;have k:=Z48 w w.s.Bt j x i (by have:=d.s.buildings;omega)
 rw[o]at b a⊢;rw[y,B];cases u:x.Ld != -1 with
 |true=>simp only[go_sem,c89,wH,b,a,v,Ev.enc,NL.enc,u,m]
 |false=>
  have⟨C,h⟩:=Z49 g c q r (JH w<|ZK w.s.Bt j<|Ke w.e) d.s.units d.s.doors;have l:(JH w<|ZK w.s.Bt j<|Ke w.e).s.Bc=w.s.Bc:=rfl;rw[l]at h;generalize Y6 (JH w<|ZK w.s.Bt j<|Ke w.e) w.s.Bc w.s.Bc.length=W2 at h⊢;simp only[wH,JH,ZSv,ZSz]at h;simp only[go_sem,c89,c89L0,wH,b,a,v,Ev.enc,NL.enc,u,z,k,h,q,r]
def c90_eq:c90=.seq s90p0 (.seq s90p1<|.seq s90p2<|.seq s90p3<|.seq s90p4<|.seq s90p5<|.seq s90p6<|.seq s90p7 .ret):=rfl
def UL(e:Gt)(x:Gk):Gk:={x with Ld:=e.Day}
def UM(e:Gt)(x:By):By:={x with Ld:=e.Day}
def UN(e:Gt)(x:be):be:={x with Ld:=e.Day,Why:=e.br}
def Z4b(w:Wk)(l:List Gk)(k:Nat)(x:Gk)(b:l[k]?=some x)(a:l.length<=1000000):pfn rE 148 [Iy 6<|l.map Gk.enc,I k,.clo (.func 169) [] [.iptr true [.iptr true<|wkC w]]]=some (Iy 6<|(ZK l k<|UL w.e).map Gk.enc):=by
 have c:=Z7 b;have d:=Z6 (f:=Gk.enc) b;rw[YA b,ZSX];refine Xk (sz:=6) (f:=261) rfl rfl rfl _ _ _ (.tup []) false k (by simpa using c) (Xj (λ_=>rfl) _) (by simpa using a) ?_ (by simp) ?_
 .rw[Q6 (f:=169) rfl rfl];simp only[go_sem,c169,beq_self_eq_true,d,Gk.enc,NL.enc,UL]
 .rw[<-ZSX];exact Zw (λt=>rfl) _
def Z4c(w:Wk)(l:List By)(k:Nat)(x:By)(b:l[k]?=some x)(a:l.length<=1000000):pfn rE 153 [Iy 5<|l.map By.enc,I k,.clo (.func 172) [] [.iptr true [.iptr true<|wkC w]]]=some (Iy 5<|(ZK l k<|UM w.e).map By.enc):=by
 have c:=Z7 b;have d:=Z6 (f:=By.enc) b;rw[YA b,ZSX];refine Xk (sz:=5) (f:=264) rfl rfl rfl _ _ _ (.tup []) false k (by simpa using c) (Xj (λ_=>rfl) _) (by simpa using a) ?_ (by simp) ?_
 .rw[Q6 (f:=172) rfl rfl];simp only[go_sem,c172,beq_self_eq_true,d,By.enc,NL.enc,UM]
 .rw[<-ZSX];exact Zw (λt=>rfl) _
def Z4d(w:Wk)(l:List be)(k:Nat)(x:be)(b:l[k]?=some x)(a:l.length<=1000000):pfn rE 174 [Iy 6<|l.map be.enc,I k,.clo (.func 175) [] [.iptr true [.iptr true<|wkC w]]]=some (Iy 6<|(ZK l k<|UN w.e).map be.enc):=by
 have c:=Z7 b;have g:=Z6 (f:=be.enc) b;have d:∀v,((l.map be.enc).set k v)[k]?=some v:=λv=>by simp[c]
 rw[YA b,ZSX];refine Xk (sz:=6) (f:=275) rfl rfl rfl _ _ _ (.tup []) false k (by simpa using c) (Xj (λ_=>rfl) _) (by simpa using a) ?_ (by simp) ?_
 .rw[Q6 (f:=175) rfl rfl];simp only[go_sem,c175,beq_self_eq_true,g,d,List.set_set,ZTP,ZSs,be.enc,UN]
 .rw[<-ZSX];exact Zw (λt=>rfl) _
def Z4e{E:Env}{q:Type}{sz:Nat}{n:Option Nat}{enc:q->AV}{p:q->Bool}{g:Nat}{cap:List AV}(l:List q)(r:∀x∈l,Ql [] (enc x::cap)=some (enc x::cap))(B:l.length<=4611686018427387904)(i:∀x∈l,Yu n<|enc x)
 (w:∀x∈l,pfn E g (enc x::cap)=some (.bool<|p x)) (bw ex:Bool):∀(b a:List q),l=a++b->
  ∃fr',Zb E (.loop [0,1,7,8]<|XB sz n) (Vd sz g cap enc l bw ex a.length) []=some (if Zp p b a.length=-1 then .exit 0 else .ret,fr',[])/\(Zp p b a.length≠-1->get fr' 4=.int .i64 (Zp p b a.length)):=by
 intro b;induction b with
 |nil=>
  intro a c;have o:decide ((a.length:Int)<(l.length:Int))=false:=by subst c;simp
  rw[J2];unfold Vd;simp only[go_sem,XB,o,qy,reduceIte,Zp];exact⟨_,rfl,λh=>absurd rfl h⟩
 |cons x b y=>
  intro a c;have s:x∈l:=by rw[c];simp
  have j:a.length<l.length:=by rw[c];simp
  have o:decide ((a.length:Int)<(l.length:Int))=true:=by simpa using j
  have d:ixG (l.map enc) (a.length:Int)=some (enc x):=by rw[c,ZSF,ZSx];have:=RK (a.map enc) (enc x)<|b.map enc;rwa[ZSs]at this
  have f:=(i x s).2;have m:=r x s;have k:=w x s;rw[J2];unfold Vd;have z:IntKind.i64.wrap ((a.length:Int)+1)=((a++[x]).length:Int):=by rw[Zx<|by omega];simp
  have t:((a++[x]).length:Int)=(a.length:Int)+1:=by simp
  cases e:p x with
  |true=>
   have A:((a.length:Int)=-1)=False:=by simp
   simp only[go_sem,XB,o,d,f,m,k,e,qy,reduceIte,Zp,ZSz,ZSv,A];exact⟨_,rfl,λ_=>rfl⟩
  |false=>
   have⟨fr',u,v⟩:=y (a++[x])<|by simp[c]
   rw[t]at u v;simp only[go_sem,XB,o,d,f,m,k,e,z,qy,Nat.reduceAdd,reduceIte,Zp,ZSz,ZSv];rw[ZSJ]at u;exact⟨fr',(Dl<|by rfl).trans u,v⟩
def FG{E:Env}{f:Nat}{e:Type}{sz:Nat}{n:Option Nat}{enc:e->AV}{p:e->Bool}{g:Nat}{cap:List AV}(i:E.sum f=none)(k:E.fn f=some ⟨[.tmp 4],GR sz n⟩)(l:List e)(d:∀x∈l,Ql [] (enc x::cap)=some (enc x::cap))(m:l.length<=4611686018427387904)
 (a:∀x∈l,Yu n<|enc x) (q:∀x∈l,pfn E g (enc x::cap)=some (.bool<|p x)) (bw ex:Bool):pfn E f [.isl bw ex sz<|l.map enc,.clo (.func g) [] cap]=some (.int .i64<|Zp p l 0):=by
 rw[Z5 i k];obtain⟨fr',o,h⟩:=Z4e (E:=E) l d m a q bw ex l [] rfl;have r:Z2 [0,1,7,8] [(8,AV.int .i64 0),(7,AV.int .i64 l.length),(6,AV.isl bw ex sz<|l.map enc),(4,AV.int .i64 0),(0,AV.isl bw ex sz<|l.map enc),(1,AV.clo (.func g) [] cap)]=Z2 [0,1,7,8] (Vd sz g cap enc l bw ex 0):=by rfl
 have c:Zb E (.loop [0,1,7,8]<|XB sz n) [(0,AV.isl bw ex sz<|l.map enc),(1,AV.clo (.func g) [] cap),(7,AV.int .i64 l.length),(8,AV.int .i64 0)] []=some (if Zp p l 0=-1 then .exit 0 else .ret,fr',[]):=o
 unfold GR;by_cases b:Zp p l 0=-1
 .rw[if_pos b]at c;simp only[go_sem,c,b,qy,Nat.reduceAdd,ZSs]
 .rw[if_neg b]at c;have j:get fr' 4=AV.int .i64 (Zp p l 0):=h b;simp only[go_sem,c,j,qy,Nat.reduceAdd,ZSs]
def Kf(s:Sta)(id:Str):Bool:=s.Bc.any<|λx=>Z3 x.By id&&x.Ld==-1
def Z4f(s:Sta)(b:StS s)(id:Str):pfn rE 170 [Iy 16<|s.Bc.map Ga.enc,.clo (.func 171) [] [.iptr true [.str id]]]=some (.bool<|Kf s id):=by
 have d:∀x:Ga,pfn rE 171 [x.enc,.iptr true [.str id]]=some (.bool<|Z3 x.By id&&x.Ld==-1):=λx=>by
  rw[Z5 (f:=171) rfl rfl];cases a:Z3 x.By id with
  |false=>simp only[go_sem,c171,Ga.enc,NL.enc,a]
  |true=>simp only[go_sem,c171,Ga.enc,NL.enc,a]
 have c:=FG (E:=rE) (f:=102) (sz:=16) (n:=some 16) (enc:=Ga.enc) (p:=λx=>Z3 x.By id&&x.Ld==-1) (g:=171) (cap:=[.iptr true [.str id]]) rfl rfl s.Bc (λx _=>GQ _ _ rfl (by simp[QJ,msz,Ga.enc,NL.enc])) (by have:=b.doors;omega) (λx _=>x.el) (λx _=>d x) false false
 rw[Z5 (f:=170) rfl rfl];unfold Kf;rw[<-Vg];unfold WG;simp only[go_sem,c170,c]
def Kg(s:Sta)(id:Str):Bool:=!decide (Qo s id<0)&&WM s (Qo s id)==-1
def Kh(s:Sta)(id:Str):Bool:=!decide (ZL s id<0)&&QF s (ZL s id)==-1
def Ki(s:Sta)(id:Str):Bool:=!decide (Zn s id<0)&&QN s (Zn s id)==-1
def NW(s:Sta)(k:Int):Int:=match s.Nk[k.toNat]? with|some b=>b.Ld|none=>0
def UO(s:Sta)(id:Str):Bool:=!decide (Wf s id<0)&&NW s (Wf s id)==-1
def Hu(w:Wk)(l:List Gk):Wk:={w with s:={w.s with Fa:=l}}
def Hv(w:Wk)(l:List By):Wk:={w with s:={w.s with Gm:=l}}
abbrev shT(w:Wk):Hp:=[.row 1 [.ptr 2 0 0 1],.row 1 [.str w.e.Id]]
def Z4g(a b:AObj)(o:∀n,Zj n a=true)(p:∀n,Zj n b=true)(w:Wk)(r:WkS w):
 (Kg w.s w.e.Id=true->∃fr' t,Zb rE s90p2 [(1,.ptr 3 0 0 1),(3,.ptr 4 0 0 1)] (wH a b w++shT w)=some (.ret,fr',wH a b (Hu w<|ZK w.s.Fa (Qo w.s w.e.Id).toNat<|UL w.e)++t)/\get fr' 2=I 0)/\
 (Kg w.s w.e.Id=false->Zb rE s90p2 [(1,.ptr 3 0 0 1),(3,.ptr 4 0 0 1)] (wH a b w++shT w)=some (.normal,[(1,.ptr 3 0 0 1),(3,.ptr 4 0 0 1),(4,I<|Qo w.s w.e.Id),(32,.bool false)],wH a b w++shT w)):=by
 have d:=NI w.s r.s w.e.Id;unfold Kg;cases l:decide (Qo w.s w.e.Id<0)with
 |true=>
  have c:=JE l;refine⟨λh=>(by cases h),λ_=>?_⟩
  simp only[go_sem,s90p2,wH,shT,d,c]
 |false=>
  have c:=K9 l;have⟨j,x,y,g⟩:=QC l;have k:Qo w.s w.e.Id=(j:Int):=y;have q:=Z6 (f:=Gk.enc) g;have v:WM w.s (j:Int)=x.Ld:=by simp[WM,g]
  have u:((j:Int)).toNat=j:=rfl;have i:=Z4b w w.s.Fa j x g (by have:=r.s.regions;omega)
  rw[k]at d c⊢;rw[v,u];cases m:x.Ld==-1 with
  |true=>
   refine⟨λ_=>⟨_,[.row 1 [.ptr 2 0 0 1],.row 1 [.str w.e.Id]],by simp only[go_sem,s90p2,wH,shT,Hu,d,c,q,Gk.enc,NL.enc,m,i,o,p];rfl,by simp only[go_sem]⟩,λh=>(by cases h)⟩
  |false=>
   refine⟨λh=>(by cases h),λ_=>?_⟩
   simp only[go_sem,s90p2,wH,shT,d,c,q,Gk.enc,NL.enc,m,o,p]
def Z4h(c d:AObj)(o:∀n,Zj n c=true)(p:∀n,Zj n d=true)(w:Wk)(u:WkS w)(v:AV):
 (Kh w.s w.e.Id=true->∃fr' t,Zb rE s90p3 [(1,.ptr 3 0 0 1),(3,.ptr 4 0 0 1),(4,v),(32,.bool false)] (wH c d w++shT w)=some (.ret,fr',wH c d (bif Kf w.s w.e.Id then w else Hv w<|ZK w.s.Gm (ZL w.s w.e.Id).toNat<|UM w.e)++t)/\get fr' 2=I (bif Kf w.s w.e.Id then 11 else 0))/\
 (Kh w.s w.e.Id=false->Zb rE s90p3 [(1,.ptr 3 0 0 1),(3,.ptr 4 0 0 1),(4,v),(32,.bool false)] (wH c d w++shT w)=some (.normal,[(1,.ptr 3 0 0 1),(3,.ptr 4 0 0 1),(5,I<|ZL w.s w.e.Id),(64,.bool false)],wH c d w++shT w)):=by
 have g:=K7 w.s u.s w.e.Id;have i:=Z4f w.s u.s w.e.Id;unfold Kh;cases y:decide (ZL w.s w.e.Id<0)with
 |true=>
  have b:=JE y;refine⟨λh=>(by cases h),λ_=>?_⟩
  simp only[go_sem,s90p3,wH,shT,g,b]
 |false=>
  have b:=K9 y;have⟨j,x,B,k⟩:=QC y;have r:ZL w.s w.e.Id=(j:Int):=B;have q:=Z6 (f:=By.enc) k;have A:QF w.s (j:Int)=x.Ld:=by simp[QF,k]
  have z:((j:Int)).toNat=j:=rfl;have m:=Z4c w w.s.Gm j x k (by have:=u.s.streets;omega)
  rw[r]at g b⊢;rw[A,z];cases l:x.Ld==-1 with
  |true=>
   refine⟨λ_=>?_,λh=>(by cases h)⟩
   cases a:Kf w.s w.e.Id with
   |true=>
    rw[a]at i;exact⟨_,[.row 1 [.ptr 2 0 0 1],.row 1 [.str w.e.Id]],by simp only[go_sem,s90p3,wH,shT,g,b,q,By.enc,NL.enc,l,i,o,p];rfl,by simp only[go_sem]⟩
   |false=>
    rw[a]at i;exact⟨_,[.row 1 [.ptr 2 0 0 1],.row 1 [.str w.e.Id]],by simp only[go_sem,s90p3,wH,shT,Hv,g,b,q,By.enc,NL.enc,l,i,m,o,p];rfl,by simp only[go_sem]⟩
  |false=>
   refine⟨λh=>(by cases h),λ_=>?_⟩
   simp only[go_sem,s90p3,wH,shT,g,b,q,By.enc,NL.enc,l,o,p]
def Z4i(a b:AObj)(k:∀n,Zj n a=true)(l:∀n,Zj n b=true)(w:Wk)(o:WkS w)(v:AV):
 (Ki w.s w.e.Id=true->∃fr' t,Zb rE s90p4 [(1,.ptr 3 0 0 1),(3,.ptr 4 0 0 1),(5,v),(64,.bool false)] (wH a b w++shT w)=some (.ret,fr',wH a b (Qf w (Zn w.s w.e.Id).toNat ⟨false,[]⟩)++t)/\get fr' 2=I 0)/\
 (Ki w.s w.e.Id=false->Zb rE s90p4 [(1,.ptr 3 0 0 1),(3,.ptr 4 0 0 1),(5,v),(64,.bool false)] (wH a b w++shT w)=some (.normal,[(1,.ptr 3 0 0 1),(3,.ptr 4 0 0 1),(6,I<|Zn w.s w.e.Id),(103,.bool false)],wH a b w++shT w)):=by
 have d:=find_ok w.s o.s w.e.Id;unfold Ki;cases p:decide (Zn w.s w.e.Id<0)with
 |true=>
  have c:=JE p;refine⟨λh=>(by cases h),λ_=>?_⟩
  simp only[go_sem,s90p4,wH,shT,d,c]
 |false=>
  have c:=K9 p;have⟨j,x,z,i⟩:=QC p;have m:Zn w.s w.e.Id=(j:Int):=z;have r:=Z6 (f:=Ga.enc) i;have y:QN w.s (j:Int)=x.Ld:=by simp[QN,i]
  have u:((j:Int)).toNat=j:=rfl;have g:=Hq a b k l ⟨false,[]⟩ w o.s.units (by have:=o.s.doors;omega) j x i [.row 1 [.ptr 2 0 0 1],.row 1 [.str w.e.Id]]<|Or.inr ⟨_,_,rfl,FE,λn _=>rfl⟩
  rw[m]at d c⊢;rw[y,u];cases q:x.Ld==-1 with
  |true=>
   generalize Qf w j ⟨false,[]⟩=W2 at g⊢;simp only[wH,ZSv,ZSz,ZSS]at g;exact⟨λ_=>⟨_,[.row 1 [.ptr 2 0 0 1],.row 1 [.str w.e.Id]],by simp only[go_sem,s90p4,wH,shT,d,c,r,Ga.enc,NL.enc,q,g,k,l];rfl,by simp only[go_sem]⟩,λh=>(by cases h)⟩
  |false=>
   refine⟨λh=>(by cases h),λ_=>?_⟩
   simp only[go_sem,s90p4,wH,shT,d,c,r,Ga.enc,NL.enc,q,k,l]
def Z4j(a b:AObj)(o:∀n,Zj n a=true)(p:∀n,Zj n b=true)(w:Wk)(r:WkS w)(v:AV):
 (UO w.s w.e.Id=true->∃fr' t,Zb rE s90p5 [(1,.ptr 3 0 0 1),(3,.ptr 4 0 0 1),(6,v),(103,.bool false)] (wH a b w++shT w)=some (.ret,fr',wH a b (Qx w<|ZK w.s.Nk (Wf w.s w.e.Id).toNat<|UN w.e)++t)/\get fr' 2=I 0)/\
 (UO w.s w.e.Id=false->Zb rE s90p5 [(1,.ptr 3 0 0 1),(3,.ptr 4 0 0 1),(6,v),(103,.bool false)] (wH a b w++shT w)=some (.normal,[(1,.ptr 3 0 0 1),(3,.ptr 4 0 0 1),(7,I<|Wf w.s w.e.Id),(126,.bool false)],wH a b w++shT w)):=by
 have d:=Z2Q w.s r.s w.e.Id;unfold UO;cases l:decide (Wf w.s w.e.Id<0)with
 |true=>
  have c:=JE l;refine⟨λh=>(by cases h),λ_=>?_⟩
  simp only[go_sem,s90p5,wH,shT,d,c]
 |false=>
  have c:=K9 l;have⟨j,x,z,g⟩:=QC l;have k:Wf w.s w.e.Id=(j:Int):=z;have q:=Z6 (f:=be.enc) g;have y:NW w.s (j:Int)=x.Ld:=by simp[NW,g]
  have u:((j:Int)).toNat=j:=rfl;have i:=Z4d w w.s.Nk j x g (by have:=r.s.units;omega)
  rw[k]at d c⊢;rw[y,u];cases m:x.Ld==-1 with
  |true=>
   refine⟨λ_=>⟨_,[.row 1 [.ptr 2 0 0 1],.row 1 [.str w.e.Id]],by simp only[go_sem,s90p5,wH,shT,Qx,d,c,q,be.enc,m,i,o,p];rfl,by simp only[go_sem]⟩,λh=>(by cases h)⟩
  |false=>
   refine⟨λh=>(by cases h),λ_=>?_⟩
   simp only[go_sem,s90p5,wH,shT,d,c,q,be.enc,m,o,p]
def Hw(w:Wk):Int:=
 bif Kg w.s w.e.Id then 0 else bif Kh w.s w.e.Id then(bif Kf w.s w.e.Id then 11 else 0)else bif Ki w.s w.e.Id then 0 else bif UO w.s w.e.Id then 0
 else bif twB w w.e.Id&&decide (Y1 w.s w.e.Id<0)then 11 else 10
def Hy(w:Wk):Wk:=
 bif Kg w.s w.e.Id then Hu w<|ZK w.s.Fa (Qo w.s w.e.Id).toNat<|UL w.e
 else bif Kh w.s w.e.Id then Hv w<|ZK w.s.Gm (ZL w.s w.e.Id).toNat<|UM w.e
 else bif Ki w.s w.e.Id then Qf w (Zn w.s w.e.Id).toNat ⟨false,[]⟩
 else Qx w<|ZK w.s.Nk (Wf w.s w.e.Id).toNat<|UN w.e
def Z4k(o m:AObj)(v:∀n,Zj n o=true)(x:∀n,Zj n m=true)(w:Wk)(p:WkS w):∃t,fnV rE 90 [.ptr 2 0 0 1] (wH o m w)=some (I<|Hw w,wH o m (bif Hw w==0 then Hy w else w)++t):=by
 have r:((10:Int)==0)=false:=rfl;have q:((11:Int)==0)=false:=rfl;have u:((0:Int)==0)=true:=rfl;have B:=Z4g o m v x w p;have A:=Z4h o m v x w p<|I<|Qo w.s w.e.Id;have y:=Z4i o m v x w p<|I<|ZL w.s w.e.Id;have z:=Z4j o m v x w p<|I<|Zn w.s w.e.Id;have g:=Wj w p w.e.Id;have C:=Hb w.s p.s w.e.Id;simp only[wH,shT,ZSv,ZSz]at B A y z;rw[Q6 (f:=90) (c:=c90) rfl rfl,c90_eq];unfold Hw Hy;cases E:Kg w.s w.e.Id with
 |true=>
  have⟨fr',t,k,b⟩:=B.1 E;refine⟨t,?_⟩;generalize Hu w (ZK w.s.Fa (Qo w.s w.e.Id).toNat<|UL w.e)=W at k⊢;simp only[go_sem,s90p0,s90p1,wH,k,b,u]
 |false=>
 have k:=B.2 E;cases D:Kh w.s w.e.Id with
 |true=>
  have⟨fr',t,b,d⟩:=A.1 D;refine⟨t,?_⟩;cases a:Kf w.s w.e.Id with
  |true=>
   rw[a]at b d;simp only[cond_true]at b d;simp only[go_sem,s90p0,s90p1,wH,k,b,d,q]
  |false=>
   rw[a]at b d;simp only[cond_false]at b d;generalize Hv w (ZK w.s.Gm (ZL w.s w.e.Id).toNat<|UM w.e)=W at b⊢;simp only[go_sem,s90p0,s90p1,wH,k,b,d,u]
 |false=>
 have b:=A.2 D;cases a:Ki w.s w.e.Id with
 |true=>
  have⟨fr',t,d,l⟩:=y.1 a;refine⟨t,?_⟩;generalize Qf w (Zn w.s w.e.Id).toNat ⟨false,[]⟩=W at d⊢;simp only[go_sem,s90p0,s90p1,wH,k,b,d,l,u]
 |false=>
 have d:=y.2 a;cases i:UO w.s w.e.Id with
 |true=>
  have⟨fr',t,l,F⟩:=z.1 i;refine⟨t,?_⟩;generalize Qx w (ZK w.s.Nk (Wf w.s w.e.Id).toNat<|UN w.e)=W at l⊢;simp only[go_sem,s90p0,s90p1,wH,k,b,d,l,F,u]
 |false=>
 have l:=z.2 i;refine⟨[.row 1 [.ptr 2 0 0 1],.row 1 [.str w.e.Id]],?_⟩;cases j:twB w w.e.Id with
 |false=>
  rw[j]at g;simp only[go_sem,s90p0,s90p1,s90p6,s90p7,wH,k,b,d,l,g,r]
 |true=>
 rw[j]at g;cases h:decide (Y1 w.s w.e.Id<0)with
 |true=>simp only[go_sem,s90p0,s90p1,s90p6,s90p7,wH,k,b,d,l,g,C,h,q]
 |false=>simp only[go_sem,s90p0,s90p1,s90p6,s90p7,wH,k,b,d,l,g,C,h,r]
def UP(n:HN)(x:Ga):Ga:={x with An:=n}
def Z4l(e:Ent)(l:List Ga)(k:Nat)(x:Ga)(b:l[k]?=some x)(a:l.length<=1000000):pfn rE 164 [Iy 16<|l.map Ga.enc,I k,.clo (.func 165) [] [.iptr true [.str e.Id,.int .i64 e.An.N,.str e.An.bn,.int .i64 e.An.Num,.int .i64 e.An.Den,.int .i64 e.bg.X,.int .i64 e.bg.Y]]]=some (Iy 16<|(ZK l k<|UP e.An).map Ga.enc):=by
 have c:=Z7 b;have d:=Z6 (f:=Ga.enc) b;rw[YA b,ZSX];refine Xk (sz:=16) (f:=269) rfl rfl rfl _ _ _ (.tup []) false k (by simpa using c) (Xj (λ_=>rfl) _) (by simpa using a) ?_ (by simp) ?_
 .rw[Q6 (f:=165) rfl rfl];simp only[go_sem,c165,beq_self_eq_true,d,Ga.enc,NL.enc,UP]
 .rw[<-ZSX];exact Zw (λt=>rfl) _
def Kj(s:Sta)(x:Ent):Bool:=decide (Zn s x.Id<0)
def Hz(w:Wk)(x:Ent):Bool:=QN w.s (Zn w.s x.Id) != -1||!Z3 (XP w.s<|Zn w.s x.Id) w.e.Id
def FH{g:Nat}{cap:List AV}{p:Ent->Bool}(l:List Ent)(e:l.length<=1000)(ex:Bool)(a:∀x∈l,Ql [] (x.enc::cap)=some (x.enc::cap))(b:Ql [] [.isl false ex 7<|l.map Ent.enc,.clo (.func g) [] cap]=some [.isl false ex 7<|l.map Ent.enc,.clo (.func g) [] cap])
 (d:∀x∈l,pfn rE g (x.enc::cap)=some (.bool<|p x)):pfn rE 162 [.isl false ex 7<|l.map Ent.enc,.clo (.func g) [] cap]=some (.bool<|l.any p):=by
 have c:=FG (E:=rE) (f:=268) (sz:=7) (n:=some 7) (enc:=Ent.enc) (p:=p) (g:=g) (cap:=cap) rfl rfl l a (by omega) (λx _=>x.el) d false ex
 rw[Z5 (f:=162) rfl rfl,<-Vg];unfold WG;simp only[go_sem,c162,c,b]
abbrev JI(w:Wk):List AV:=[.iptr true [.iptr true<|wkC w]]
def ZDV(w:Wk)(x:Ent):Ql [] (x.enc::JI w)=some (x.enc::JI w):=GQ _ _ rfl (by simp[QJ,msz,Ent.enc])
def FJ(w:Wk)(g:Nat)(l:List Ent)(ex:Bool):Ql [] [.isl false ex 7<|l.map Ent.enc,.clo (.func g) []<|JI w]=some [.isl false ex 7<|l.map Ent.enc,.clo (.func g) []<|JI w]:=GQ _ _ rfl (by simp[QJ,msz])
def Z4m(w:Wk)(a:WkS w):pfn rE 162 [.isl false w.e.Lst.ex 7<|w.e.Lst.l.map Ent.enc,.clo (.func 161) []<|JI w]=some (.bool<|w.e.Lst.l.any<|Kj w.s):=by
 refine FH _ (by have:=a.e.lst;omega) _ (λx _=>ZDV w x) (FJ w _ _ _)<|λx _=>?_
 have b:=find_ok w.s a.s x.Id;rw[Z5 (f:=161) rfl rfl];unfold Kj;simp only[go_sem,c161,Ent.enc,b]
def Z4n(w:Wk)(m:WkS w)(k:w.e.Lst.l.any (Kj w.s)=false):pfn rE 162 [.isl false w.e.Lst.ex 7<|w.e.Lst.l.map Ent.enc,.clo (.func 163) []<|JI w]=some (.bool<|w.e.Lst.l.any<|Hz w):=by
 refine FH _ (by have:=m.e.lst;omega) _ (λx _=>ZDV w x) (FJ w _ _ _)<|λx o=>?_
 have c:=find_ok w.s m.s x.Id;rw[ZTB]at k;have h:decide (Zn w.s x.Id<0)=false:=by simpa[Kj]using k x o
 have⟨j,y,p,b⟩:=QC h;have g:Zn w.s x.Id=(j:Int):=p;have i:=Z6 (f:=Ga.enc) b;have d:QN w.s (j:Int)=y.Ld:=by simp[QN,b]
 have a:XP w.s (j:Int)=y.By:=by simp[XP,b]
 unfold Hz;rw[g]at c⊢;rw[d,a,Z5 (f:=163) rfl rfl];cases n:y.Ld != -1 with
 |true=>simp only[go_sem,c163,Ent.enc,c,i,Ga.enc,NL.enc,n]
 |false=>simp only[go_sem,c163,Ent.enc,c,i,Ga.enc,NL.enc,n]
def Kk(D:List Ga)(id:Str):Int:=Zp (λx:Ga=>Z3 x.Id id) D 0
def NX{a b:Type}(f:a->b)(p:b->Bool):∀(l:List a)(i:Int),Zp (λx=>p<|f x) l i=Zp p (l.map f) i
 |[],_=>rfl
 |x::r,i=>by simp only[Zp,ZSx];rw[NX f p r]
def Z4o{D a:List Ga}(h:D.map (·.Id)=a.map (·.Id))(id:Str):Kk D id=Kk a id:=by
 unfold Kk;rw[NX (λx:Ga=>x.Id)<|λi=>Z3 i id,NX (λx:Ga=>x.Id) (λi=>Z3 i id) a,h]
def FK{a d:Type}(g:a->d)(f:a->a)(h:∀x,g (f x)=g x)(l:List a)(k:Nat):(ZK l k f).map g=l.map g:=by
 unfold ZK;cases b:l[k]? with
 |none=>rfl
 |some x=>
  dsimp only;rw[ZSX,h];have c:=Z7 b;have:(l.map g)[k]'(by simpa using c)=g x:=by
   rw[ZSu c]at b;simp[Option.some.inj b]
  rw[<-this,ZVa]
def Yn(D:List Ga)(l:List Ent):Nat->List Ga
 |0=>D
 |i+1=>match l[i]? with
  |some x=>ZK (Yn D l i) (Kk (Yn D l i) x.Id).toNat<|UP x.An
  |none=>Yn D l i
def HA(D:List Ga)(l:List Ent):∀i,(Yn D l i).map (·.Id)=D.map (·.Id)
 |0=>rfl
 |i+1=>by
  rw[Yn];cases l[i]? with
  |none=>exact HA D l i
  |some x=>exact(FK (λx:Ga=>x.Id) (UP x.An) (λ_=>rfl) _ _).trans (HA D l i)
def FL(D:List Ga)(l:List Ent)(i:Nat):(Yn D l i).length=D.length:=by
 have:=congrArg List.length<|HA D l i;simpa using this
def Z4p(g d:AObj)(B:∀n,Zj n g=true)(F:∀n,Zj n d=true)(w:Wk)(a:WkS w)(H:w.e.Lst.l.any (Kj w.s)=false):
 ∃fr',Zg rE [1,54,55,56] c86L0b [(1,.ptr 3 0 0 1),(54,.isl false w.e.Lst.ex 7<|w.e.Lst.l.map Ent.enc),(55,I w.e.Lst.l.length),(56,.int .i64 0)] (wH g d w++[.row 1 [.ptr 2 0 0 1]]) =
  some (.exit 0,fr',wH g d (Ym w<|Yn w.s.Bc w.e.Lst.l w.e.Lst.l.length)++[.row 1 [.ptr 2 0 0 1]]):=by
 have O:=a.e.lst;have o:=a.s.doors;have L:=Y8 (E:=rE) (live:=[1,54,55,56]) (b:=c86L0b) w.e.Lst.l.length
  (λi=>[(1,.ptr 3 0 0 1),(54,.isl false w.e.Lst.ex 7<|w.e.Lst.l.map Ent.enc),(55,I w.e.Lst.l.length),(56,I i)])
  (λi=>wH g d (Ym w<|Yn w.s.Bc w.e.Lst.l i)++[.row 1 [.ptr 2 0 0 1]]) (λi=>rfl)
  (λi C=>by
   obtain⟨x,q⟩:∃x,w.e.Lst.l[i]?=some x:=⟨_,ZSu C⟩;have K:=Z6 (f:=Ent.enc) q;have t:=Zh C;have u:=Zx (n:=i)<|by omega
   have J:Yn w.s.Bc w.e.Lst.l (i+1)=ZK (Yn w.s.Bc w.e.Lst.l i) (Kk (Yn w.s.Bc w.e.Lst.l i) x.Id).toNat (UP x.An):=by
    rw[Yn,q]
   have c:=Z4o (HA w.s.Bc w.e.Lst.l i) x.Id;have k:=FL w.s.Bc w.e.Lst.l i;rw[J];generalize Yn w.s.Bc w.e.Lst.l i=D at c k⊢;have m:=H;rw[ZTB]at m;have v:decide (Kk D x.Id<0)=false:=by
    rw[c];have:=m x<|ZSy q;rw[ZTX]at this;exact this
   have⟨j,y,G,N⟩:=QC v;have z:Kk D x.Id=(j:Int):=G;have A:=find_ok (Ym w D).s ⟨a.s.regions,a.s.streets,a.s.buildings,by show D.length<=1000;omega,a.s.units,a.s.merged,a.s.rulings⟩ x.Id
   have p:Zn (Ym w D).s x.Id=(j:Int):=G;have M:((j:Int)).toNat=j:=rfl;have r:=Z4l x D j y N<|by omega
   rw[p]at A;rw[z,M];simp only[Ym]at A⊢;refine⟨[(1,.ptr 3 0 0 1),(54,.isl false w.e.Lst.ex 7<|w.e.Lst.l.map Ent.enc),(55,I w.e.Lst.l.length),(56,I (i+1:Nat))],?_,rfl⟩;simp only[go_sem,c86L0b,wH,K,t,u,A,r,Ent.enc,B,F])
  (e:=.exit 0) (fr:=[(1,.ptr 3 0 0 1),(54,.isl false w.e.Lst.ex 7<|w.e.Lst.l.map Ent.enc),(55,I w.e.Lst.l.length),(56,I w.e.Lst.l.length)]) (h:=wH g d (Ym w<|Yn w.s.Bc w.e.Lst.l w.e.Lst.l.length)++[.row 1 [.ptr 2 0 0 1]])
  (by simp only[go_sem,c86L0b,ZG,wH,Ym,B,F]) (by simp)
 exact⟨_,L⟩
def HD(w:Wk):Int:=
 bif decide (ZL w.s w.e.Id<0)||w.e.Lst.l.any (Kj w.s)then 10
 else bif QF w.s (ZL w.s w.e.Id) != -1||w.e.Lst.l.any (Hz w)then 11 else 0
def NY(w:Wk):Wk:=Ym w<|Yn w.s.Bc w.e.Lst.l w.e.Lst.l.length
def Z4q(p m:AObj)(z:∀n,Zj n p=true)(A:∀n,Zj n m=true)(w:Wk)(o:WkS w):∃t,fnV rE 86 [.ptr 2 0 0 1] (wH p m w)=some (I<|HD w,wH p m (bif HD w==0 then NY w else w)++t):=by
 have h:=K7 w.s o.s w.e.Id;have b:=Z4m w o;have k:((10:Int)==0)=false:=rfl;have i:((11:Int)==0)=false:=rfl;have C:((0:Int)==0)=true:=rfl;rw[Q6 (f:=86) rfl rfl];unfold HD;refine⟨[.row 1 [.ptr 2 0 0 1]],?_⟩;cases g:decide (ZL w.s w.e.Id<0)with
 |true=>simp only[go_sem,c86,wH,h,g,k]
 |false=>
 cases q:w.e.Lst.l.any (Kj w.s)with
 |true=>
  rw[q]at b;simp only[go_sem,c86,wH,h,g,b,k]
 |false=>
 have⟨E,r⟩:=Z4p p m z A w o q;have d:=Z4n w o q;rw[q]at b;have⟨j,x,D,y⟩:=QC g;have u:ZL w.s w.e.Id=(j:Int):=D;have v:=Z6 (f:=By.enc) y;have B:QF w.s (j:Int)=x.Ld:=by simp[QF,y]
 rw[u]at h g⊢;rw[B];cases a:x.Ld != -1 with
 |true=>simp only[go_sem,c86,wH,h,g,b,v,By.enc,NL.enc,a,i]
 |false=>
 cases c:w.e.Lst.l.any (Hz w)with
 |true=>
  rw[c]at d;simp only[go_sem,c86,wH,h,g,b,v,By.enc,NL.enc,a,d,i]
 |false=>
  rw[c]at d;unfold NY;generalize Ym w (Yn w.s.Bc w.e.Lst.l w.e.Lst.l.length)=W at r⊢;simp only[wH,ZSv,ZSz]at r;simp only[go_sem,c86,c86L0,wH,h,g,b,v,By.enc,NL.enc,a,d,r,C,z,A]
def c39_eq:c39=.seq s39p0 (.seq s39p1<|.seq s39p2<|.seq s39p3<|.seq s39p4<|.seq s39p5<|.seq s39p6 .ret):=rfl
structure StF(s:Sta):Prop where
 e:StE s
 regions:s.Fa.length<=500
 streets:s.Gm.length<=500
 buildings:s.Bt.length<=500
 doors:s.Bc.length<=500
 units:s.Nk.length<=500
 merged:s.Gc.length<=500
 rulings:s.ba.length<=500
def wk0(s:Sta)(a:Int)(e:Gt):Wk:=⟨s,a,e,Qp s⟩
def Z4r(s:Sta):(Qp s).length=s.Fa.length+(s.Gm.length+(s.Bt.length+(s.Bc.length+s.Nk.length))):=by simp[Qp]
def Z4s(s:Sta)(b:StF s)(a:Int)(e:Gt)(c:EvS e):WkS (wk0 s a e):=⟨b.e.sizes,c,by
 have i:=b.regions;have d:=b.streets;have f:=b.buildings;have g:=b.doors;have h:=b.units;show(Qp s).length<=100000
 rw[Z4r];omega⟩
def Q1(w:Wk):Int:=
 match w.e.br.toNat with
 |1=>Hi w
 |2=>bif twB w w.e.Id then 8 else 0
 |3=>Hk w
 |4=>Hm w
 |5=>bif twB w w.e.Id then 8 else 0
 |6=>JD w
 |7=>JB w
 |8=>HD w
 |9=>Ka w
 |10=>Kc w
 |11=>Hs w
 |12=>Hw w
 |13=>Hn w
 |14=>0
 |_=>bif twB w w.e.Id then 8 else 0
def stepW(w:Wk):Wk:=
 match w.e.br.toNat with
 |1=>Hj w
 |2=>Jz w
 |3=>Hl w
 |4=>exW w
 |5=>JA w
 |6=>Qw w<|UE w
 |7=>JC w
 |8=>NY w
 |9=>Kb w
 |10=>Kd w
 |11=>Ht w
 |12=>Hy w
 |13=>Ho w
 |14=>Hh w
 |_=>Qw w<|UD w
def steps:List AV:=[.nilfn,.clo (.func 79) [] [],.clo (.func 80) [] [],.clo (.func 81) [] [],.clo (.func 82) [] [],.clo (.func 83) [] [],.clo (.func 84) [] [],.clo (.func 85) [] [],.clo (.func 86) [] [],.clo (.func 87) [] [],.clo (.func 88) [] [],.clo (.func 89) [] [],.clo (.func 90) [] [],.clo (.func 91) [] [],.clo (.func 92) [] [],.clo (.func 93) [] []]
abbrev HE:List AV:=[Iy 6 [],Iy 5 [],Iy 4 [],Iy 16 [],Iy 6 [],Iy 2 [],Iy 2 []]
abbrev apH(w:Wk):Hp:=wH (.row 7 [.agg HE]) (.row 16 [.agg steps]) w
def NZ{w w':Wk}{a c:AObj}{f:Nat}{b:Bool}(h:∃t,fnV rE f [.ptr 2 0 0 1] (wH a c w)=some (I<|bif b then 8 else 0,wH a c (bif b then w else w')++t)):
 ∃t,fnV rE f [.ptr 2 0 0 1] (wH a c w)=some (I<|bif b then 8 else 0,wH a c (bif (bif b then(8:Int)else 0)==0 then w' else w)++t):=by
 cases b<;>exact h
def step_ok(a b:AObj)(d:∀n,Zj n a=true)(f:∀n,Zj n b=true)(w:Wk)(c:WkS w)(k:Nat)(o:w.e.br=(k:Int))(j:1<=k)(i:k<=15)(m:WK w.s=true)(p:k=10->0<w.e.Ids.l.length):
 ∃g,steps[k]?=some (.clo (.func g) [] [])/\∃t,fnV rE g [.ptr 2 0 0 1] (wH a b w)=some (I<|Q1 w,wH a b (bif Q1 w==0 then stepW w else w)++t):=by
 have h:w.e.br.toNat=k:=by rw[o];rfl
 have q:((0:Int)==0)=true:=rfl;unfold Q1 stepW;rw[h];rcases(by omega:k=1\/k=2\/k=3\/k=4\/k=5\/k=6\/k=7\/k=8\/k=9\/k=10\/k=11\/k=12\/k=13\/k=14\/k=15)with rfl|rfl|rfl|rfl|rfl|rfl|rfl|rfl|rfl|rfl|rfl|rfl|rfl|rfl|rfl
 .exact⟨79,rfl,Z3H a b d f w c⟩
 .exact⟨80,rfl,NZ<|Z3w a b w c⟩
 .exact⟨81,rfl,Z3I a b d f w c⟩
 .exact⟨82,rfl,Z3J a b d f w c⟩
 .exact⟨83,rfl,NZ<|Z3x a b w c⟩
 .exact⟨84,rfl,Z3B a b d f w c⟩
 .exact⟨85,rfl,Z3z a b w c⟩
 .exact⟨86,rfl,Z4q a b d f w c⟩
 .exact⟨87,rfl,Z3X a b d f w c⟩
 .exact⟨88,rfl,Z47 a b d f w c<|p rfl⟩
 .exact⟨89,rfl,Z4a a b d f w c⟩
 .exact⟨90,rfl,Z4k a b d f w c⟩
 .exact⟨91,rfl,Z3M a b w c m⟩
 .exact⟨92,rfl,Z3y a b w c⟩
 .exact⟨93,rfl,NZ<|Z3A a b d f w c⟩
def Gr(s a:Sta):Prop:=a.Fa.length<=s.Fa.length+10/\a.Gm.length<=s.Gm.length+10/\a.Bt.length<=s.Bt.length+10/\a.Bc.length<=s.Bc.length+10/\a.Nk.length<=s.Nk.length+10/\a.Gc.length<=s.Gc.length+10/\a.ba.length<=s.ba.length+10
structure Same(s s':Sta):Prop where
 regions:s'.Fa.length=s.Fa.length
 streets:s'.Gm.length=s.Gm.length
 buildings:s'.Bt.length=s.Bt.length
 doors:s'.Bc.length=s.Bc.length
 units:s'.Nk.length=s.Nk.length
 merged:s'.Gc.length=s.Gc.length
 rulings:s'.ba.length=s.ba.length
def Same.refl(s:Sta):Same s s:=⟨rfl,rfl,rfl,rfl,rfl,rfl,rfl⟩
def Same.trans{a b c:Sta}(h:Same a b)(k:Same b c):Same a c:=⟨k.1.trans h.1,k.2.trans h.2,k.3.trans h.3,k.4.trans h.4,k.5.trans h.5,k.6.trans h.6,k.7.trans h.7⟩
def Gr.same{a b c:Sta}(h:Gr a b)(k:Same b c):Gr a c:=by
 have⟨j,e,f,g,i,l,d⟩:=h;exact⟨by rw[k.1];exact j,by rw[k.2];exact e,by rw[k.3];exact f,by rw[k.4];exact g,by rw[k.5];exact i,by rw[k.6];exact l,by rw[k.7];exact d⟩
def Same.gr{a b:Sta}(k:Same a b):Gr a b:=⟨by rw[k.1];omega,by rw[k.2];omega,by rw[k.3];omega,by rw[k.4];omega,by rw[k.5];omega,by rw[k.6];omega,by rw[k.7];omega⟩
def HF(w:Wk)(k:Nat)(a:NL Str):Same w.s (Qf w k a).s:=by
 unfold Qf;split
 .exact⟨rfl,rfl,rfl,Xm _ _ _,by simp[Qx,UH],rfl,rfl⟩
 .exact Same.refl _
def Z4t(l:List Int)(a:NL Str):∀w:Wk,Same w.s (Yg w l a).s:=by
 induction l with
 |nil=>intro w;exact Same.refl _
 |cons x r b=>intro w;rw[UJ];exact(HF _ _ _).trans (b _)
def FM(w:Wk)(l:List Ga):∀i,Same w.s (Y6 w l i).s
 |0=>Same.refl _
 |i+1=>by
  have a:=FM w l i;rw[Y6];cases l[i]? with
  |none=>exact a
  |some x=>
   dsimp only;cases NV w.e.Id x with
   |false=>exact a
   |true=>exact a.trans<|HF _ _ _
def M0(w:Wk)(d:Ga):Gr w.s (Qw w d).s:=by
 unfold Gr Qw;simp
def Z4u(w:Wk)(a:w.e.Lst.l.length<=10):Gr w.s (stepW w).s:=by
 unfold stepW;split
 .unfold Hj;cases decide (Qo w.s w.e.Id<0)with
  |true=>simp[Gr]
  |false=>simp[Gr,Xm]
 .simp[Gr,Jz]
 .unfold Hl;cases decide (Qo w.s w.e.Id>=0)with
  |true=>simp[Gr,Xm]
  |false=>simp[Gr,Xm]
 .simp[Gr,exW,Xm]
 .simp[Gr,JA]
 .exact M0 _ _
 .simp[Gr,JC]
 .exact Same.gr ⟨rfl,rfl,rfl,FL _ _ _,rfl,rfl,rfl⟩
 .unfold Kb;split
  .refine Gr.same ?_<|HF _ _ _;unfold Gr Y5;simp;omega
  .exact(Same.refl _).gr
 .unfold Kd;split
  .exact Gr.same (M0 _ _)<|Z4t _ _ _
  .exact(Same.refl _).gr
 .unfold Ht;refine Same.gr<|Same.trans (b:=(JH w<|ZK w.s.Bt (Y1 w.s w.e.Id).toNat<|Ke w.e).s) ⟨rfl,rfl,Xm _ _ _,rfl,rfl,rfl,rfl⟩<|FM _ _ _
 .unfold Hy;cases Kg w.s w.e.Id with
  |true=>exact Same.gr ⟨Xm _ _ _,rfl,rfl,rfl,rfl,rfl,rfl⟩
  |false=>
  cases Kh w.s w.e.Id with
  |true=>exact Same.gr ⟨rfl,Xm _ _ _,rfl,rfl,rfl,rfl,rfl⟩
  |false=>
  cases Ki w.s w.e.Id with
  |true=>exact Same.gr<|HF _ _ _
  |false=>exact Same.gr ⟨rfl,rfl,rfl,rfl,Xm _ _ _,rfl,rfl⟩
 .simp[Gr,Ho]
 .simp[Gr,Hh]
 .exact M0 _ _
def FN(s:Sta)(b:StF s)(a:Int)(e:Gt)(d:EvS e):StS (stepW<|wk0 s a e).s:=by
 have⟨j,f,g,h,i,k,c⟩:=Z4u (wk0 s a e) d.lst;have p:=b.regions;have q:=b.streets;have r:=b.buildings;have n:=b.doors;have t:=b.units;have m:=b.merged;have o:=b.rulings;have l:(wk0 s a e).s=s:=rfl;rw[l]at j f g h i k c;exact⟨by omega,by omega,by omega,by omega,by omega,by omega,by omega⟩
def Yh:Sta:=⟨[],[],[],[],[],[],[]⟩
def okB(s:Sta)(a:Int)(e:Gt):Bool:=Jx s&&(QM a 0 0&&Q9 e)
def Qk(s:Sta)(a:Int)(e:Gt):Int:=
 bif okB s a e then(bif Q1 (wk0 s a e)==0 then(bif Wh (stepW<|wk0 s a e).s.Bc then 0 else 8)else Q1<|wk0 s a e)else 1
def ZP(s:Sta)(a:Int)(e:Gt):Sta:=
 bif okB s a e&&(Q1 (wk0 s a e)==0&&Wh (stepW<|wk0 s a e).s.Bc)then(stepW<|wk0 s a e).s else Yh
abbrev evL(e:Gt):List AV:=[I e.br,I e.Day,I e.A,I e.B,I e.bz,.str e.Id,.str e.bv,.str e.Text,.isl false e.Ids.ex 1<|e.Ids.l.map encS,.isl false e.bm.ex 3<|e.bm.l.map Nm.enc,
 I e.An.N,.str e.An.bn,I e.An.Num,I e.An.Den,I e.bg.X,I e.bg.Y,.isl false e.Path.ex 2<|e.Path.l.map Pt.enc,.isl false e.Lst.ex 7<|e.Lst.l.map Ent.enc]
def Z4v(w:Wk)(x:WkS w)(k:Nat)(j:w.e.br=(k:Int))(o:1<=k)(i:k<=15)(v:WK w.s=true)(z:k=10->0<w.e.Ids.l.length):
 ((Q1 w==0)=true->Zb rE s39p4 [(5,.iptr false<|evL w.e),(6,.ptr 0 0 0 1),(8,.ptr 1 0 0 1),(9,.ptr 2 0 0 1)] (apH w)=some (.normal,[(40,.bool false),(39,I 0),(6,.ptr 0 0 0 1),(9,.ptr 2 0 0 1),(10,I 0)],apH<|stepW w))/\
 ((Q1 w==0)=false->∃fr' t,Zb rE s39p4 [(5,.iptr false<|evL w.e),(6,.ptr 0 0 0 1),(8,.ptr 1 0 0 1),(9,.ptr 2 0 0 1)] (apH w)=some (.ret,fr',apH w++t)/\get fr' 6=.ptr 0 0 0 1/\get fr' 7=I (Q1 w)):=by
 have m:∀n,Zj n (.row 7 [.agg HE])=true:=λn=>rfl
 have p:∀n,Zj n (.row 16 [.agg steps])=true:=λn=>rfl
 have f:(0<=(k:Int)/\(k:Int)<((16:Nat):Int))=True:=by simp;omega
 have b:((k:Int)).toNat=k:=rfl;have⟨g,q,t,a⟩:=step_ok _ _ m p w x k j o i v z;have d:takeC none (List.drop k steps)=some (.clo (.func g) [] []):=by
  have u:k<steps.length:=Z7 q;rw[ZTD u,N3];rw[ZSu u]at q;exact q
 have r:(Q1 w != 0) = !(Q1 w==0):=rfl;cases c:Q1 w==0 with
 |true=>
  refine⟨λ_=>?_,λh=>(by cases h)⟩
  have y:Q1 w=0:=by simpa using c
  rw[c,cond_true]at a;simp only[wH,ZSv,ZSz]at a;rw[y]at a;have n0:((0:Int) != 0)=false:=rfl;simp only[go_sem,s39p4,apH,wH,j,f,b,if_true,ZSE,ZTg,d,a,n0,m,p]
 |false=>
  refine⟨λh=>(by cases h),λ_=>?_⟩
  rw[c,cond_false]at a;simp only[wH,ZSv,ZSz]at a;rw[c]at r;exact⟨_,[],by simp only[go_sem,s39p4,apH,wH,j,f,b,if_true,ZSE,ZTg,d,a,r,m,p,ZSC];rfl,by simp only[go_sem],by simp only[go_sem]⟩
def FO(e:Gt)(b:Q9 e=true)(d:e.br=((10:Nat):Int)):0<e.Ids.l.length:=by
 simp only[Q9,ZSq]at b;have h:=b.2.2.2.2;unfold Q8 at h;rw[d]at h;have c:(ZD e.Ids.l.length 2 8&&(Qv (e.Id::e.Ids.l)&&(YO e.An&&gOn e.bg)))=true:=h;rw[ZSq]at c;have a:=c.1;unfold ZD at a;rw[ZSq]at a;have:=of_decide_eq_true a.1;omega
def Z4w(e:Gt)(a:Q9 e=true):∃k:Nat,e.br=(k:Int)/\1<=k/\k<=15:=by
 simp only[Q9,ZSq]at a;have h:=a.1;unfold ZD at h;rw[ZSq]at h;have b:=of_decide_eq_true h.1;have c:=of_decide_eq_true h.2;exact⟨e.br.toNat,by omega,by omega,by omega⟩
def Z4x(s:Sta)(h:Jx s=true):WK s=true:=by
 simp only[Jx,ZSq]at h;exact h.2.2.2.2.2.2.2
def JJ(s:Sta)(v:StF s)(a:Int)(e:Gt)(z:EvS e):pfn rE 39 [stA s,I a,evA e]=some (.tup [stA<|ZP s a e,I<|Qk s a e]):=by
 have i:=Z3i s v.e;have j:=Qc a 0 0;have o:=NH e z;have A:=Fd s v.e.sizes;have H:Z4 ((Qp s).map encS)=true:=Zw (λt=>rfl) _
 rw[Z5 (f:=39) (c:=c39) rfl rfl,c39_eq];have y:(stA Yh)=.agg HE:=rfl;cases c:okB s a e with
 |false=>
  have n:Qk s a e=1:=by unfold Qk;rw[c];rfl
  have l:ZP s a e=Yh:=by unfold ZP;rw[c];rfl
  rw[n,l,y];unfold okB at c;cases p:Jx s with
  |false=>
   rw[p]at i;simp only[go_sem,s39p0,s39p1,i]
  |true=>
  rw[p]at i;cases r:QM a 0 0 with
  |false=>
   rw[r]at j;simp only[go_sem,s39p0,s39p1,i,j]
  |true=>
  rw[r]at j;cases d:Q9 e with
  |false=>
   rw[d]at o;simp only[go_sem,s39p0,s39p1,i,j,o]
  |true=>rw[p,r,d]at c;cases c
 |true=>
  have c':=c;unfold okB at c';simp only[ZSq]at c';have⟨p,r,d⟩:=c';have⟨k,D,x,w⟩:=Z4w e d;have⟨G,F⟩:=Z4v (wk0 s a e) (Z4s s v a e z) k D x w (Z4x s p)<|λh=>FO e d<|by rw[<-h];exact D
  rw[p]at i;rw[r]at j;rw[d]at o;cases b:Q1 (wk0 s a e)==0 with
  |false=>
   have n:Qk s a e=Q1 (wk0 s a e):=by unfold Qk;rw[c,b];rfl
   have l:ZP s a e=Yh:=by unfold ZP;rw[c,b];rfl
   have⟨fr',t,m,E,B⟩:=F b;rw[n,l,y];simp only[apH,wH,wk0,wkC,steps,ZSv,ZSz]at m B⊢;simp only[go_sem,s39p0,s39p1,s39p2,s39p3,i,j,o,A,m,E,B]
  |true=>
   have m:=G b;have C:=FN s v a e z;have q:=Fk (stepW<|wk0 s a e).s C;generalize u:stepW (wk0 s a e)=W at m q C;simp only[apH,wH,wk0,wkC,steps]at m;cases g:Wh W.s.Bc with
   |false=>
    have n:Qk s a e=8:=by unfold Qk;rw[c,b,u,g];rfl
    have l:ZP s a e=Yh:=by unfold ZP;rw[c,b,u,g];rfl
    rw[n,l,y];rw[g]at q;simp only[go_sem,s39p0,s39p1,s39p2,s39p3,s39p5,s39p6,i,j,o,A,m,q]
   |true=>
    have n:Qk s a e=0:=by unfold Qk;rw[c,b,u,g];rfl
    have l:ZP s a e=W.s:=by unfold ZP;rw[c,b,u,g];rfl
    rw[n,l];rw[g]at q;simp only[go_sem,s39p0,s39p1,s39p2,s39p3,s39p5,s39p6,i,j,o,A,m,q]
def ZcX:List (List UInt8)->List (List UInt8)
 |[]=>[]
 |a::r=>match ZcX r with
  |[]=>[a]
  |b::s=>if a=b then b::s else a::b::s
def ZdC:∀l:List<|List UInt8,Ys (l.map Qd)=(ZcX l).map Qd
 |[]=>rfl
 |a::r=>by
  rw[ZSx];unfold Ys ZcX;rw[ZdC r];cases ZcX r with
  |nil=>rfl
  |cons b s=>
   have e:sameKey (Qd a) (Qd b)=decide (a=b):=by
    show Z3 _ _=_
    unfold Z3;have d:(⟨a.toArray⟩:ByteArray).data.toList=a:=by simp
    have c:(⟨b.toArray⟩:ByteArray).data.toList=b:=by simp
    rw[d,c];by_cases h:a=b
    .subst h;simp
    .rw[decide_eq_false h];simpa using h
   show(bif sameKey (Qd a) (Qd b)then _ else _)=_
   rw[e];by_cases h:a=b
   .simp[h]
   .simp[h]
def Ze5(a:List UInt8)(r:List<|List UInt8):∃t,ZcX (a::r)=a::t/\t.length<=r.length:=by
 induction r generalizing a with
 |nil=>exact⟨[],rfl,ZSr _⟩
 |cons b s d=>
  have⟨t,c,e⟩:=d b;unfold ZcX;rw[c];by_cases h:a=b
  .subst h;exact⟨t,by simp,by simp;omega⟩
  .exact⟨b::t,by simp[h],by simp;omega⟩
def Adj:List (List UInt8)->Prop
 |[]=>True
 |[_]=>True
 |a::b::r=>a≠b/\Adj (b::r)
def ZdD:∀l:List<|List UInt8,(ZcX l).length=l.length↔Adj l
 |[]=>⟨λ_=>trivial,λ_=>rfl⟩
 |[a]=>⟨λ_=>trivial,λ_=>rfl⟩
 |a::b::r=>by
  have d:=ZdD<|b::r;have⟨t,c,e⟩:=Ze5 b r;rw[c]at d;unfold Adj;rw[<-d];unfold ZcX;rw[c];by_cases h:a=b
  .subst h;simp;omega
  .simp[h]
def ZdE:∀l:List<|List UInt8,l.Pairwise (λa b=>leB a b=true)->Adj l->l.Nodup
 |[],_,_=>.nil
 |[a],_,_=>by simp
 |a::b::r,hs,h=>by
  unfold Adj at h;rw[ZTr]at hs;have d:=ZdE (b::r) hs.2 h.2;rw[ZT8];refine⟨λc=>?_,d⟩
  rcases ZST.1 c with e|c
  .exact h.1 e
  .have f:=(ZTr.1 hs.2).1 a c;exact h.1<|ET _ _ (hs.1 b<|ZSV ..) f
def ZdF:∀l:List<|List UInt8,l.Nodup->Adj l
 |[],_=>trivial
 |[a],_=>trivial
 |a::b::r,h=>by
  rw[ZT8]at h;exact⟨λe=>h.1 (by rw[e];exact ZSV ..),ZdF (b::r) h.2⟩
def bytes_inj{a b:Str}(h:a.data.toList=b.data.toList):a=b:=by
 have⟨⟨a⟩⟩:=a;have⟨⟨b⟩⟩:=b;have:a=b:=h;rw[this]
def ZdG{c i:Type}{f:c->i}(d:∀a b,f a=f b->a=b):∀{l:List c},(l.map f).Nodup↔l.Nodup
 |[]=>by simp
 |a::r=>by
  rw[ZSx,ZT8,ZT8,ZdG d];refine and_congr_left λ_=>not_congr ⟨λh=>?_,λh=>ZTv h⟩
  have⟨b,g,e⟩:=ZSM.1 h;rw[<-d _ _ e];exact g
def Ze6(l:List Str):l.map encS=(l.map (λx:Str=>x.data.toList)).map Qd:=by
 rw[ZTm];apply ZTZ;intro x _;have⟨⟨x⟩⟩:=x;rfl
def Zdk(l:List Str):Jq l=true↔l.Nodup:=by
 have e:(Ys<|Yk<|l.map encS).length=(ZcX<|WD<|l.map (λx:Str=>x.data.toList)).length:=by
  rw[Ze6,D4,ZdC,ZSs]
 have d:(WD<|l.map (λx:Str=>x.data.toList)).length=l.length:=by
  rw[(RS _).length_eq,ZSs]
 unfold Jq;rw[beq_iff_eq,e];rw[show((ZcX<|WD<|l.map (λx:Str=>x.data.toList)).length:Int)=(l.length:Int)↔(ZcX<|WD<|l.map (λx:Str=>x.data.toList)).length=(WD<|l.map (λx:Str=>x.data.toList)).length from by rw[d];omega]
 rw[ZdD];have c:Adj (WD<|l.map (λx:Str=>x.data.toList))↔(WD<|l.map (λx:Str=>x.data.toList)).Nodup:=⟨ZdE _<|D8 _,ZdF _⟩
 rw[c,(RS _).nodup_iff,ZdG<|λa b h=>bytes_inj h]
def Zc8{s t:Sta}(h:t.Gc=s.Gc):∀n k,chN t n k=chN s n k:=by
 have a:XJ t=XJ s:=by funext k;unfold XJ;rw[h]
 intro n;induction n with
 |zero=>intro k;rfl
 |succ n b=>
  intro k;simp only[chN,a,h,b]
def ZbN{s t:Sta}(h:t.Gc=s.Gc)(a:t.ba=s.ba):WK t=WK s:=by
 unfold WK;rw[h,a];have e:(λp:bf=>chN t (s.Gc.length+1) p.b)=(λp=>chN s (s.Gc.length+1) p.b):=funext λp=>Zc8 h _ _
 rw[e]
def ZbO{s:Sta}{L:List By}(e:L.map (·.Id)=s.Gm.map (·.Id))(m:L.map (·.Ld)=s.Gm.map (·.Ld))(c:L.all Vp=true)(h:Jx s=true):Jx {s with Gm:=L}=true:=by
 have n:∀id,ZL {s with Gm:=L} id=ZL s id:=λid=>by
  unfold ZL;rw[NX (λx:By=>x.Id) (λy=>Z3 y id) L 0,NX (λx:By=>x.Id) (λy=>Z3 y id) s.Gm 0]
  rw[e]
 have f:∀k,QF {s with Gm:=L} k=QF s k:=λk=>by
  have:(L.map (·.Ld))[k.toNat]?=(s.Gm.map (·.Ld))[k.toNat]?:=by rw[m]
  rw[ZT7,ZT7]at this;unfold QF;show(match L[k.toNat]? with|some b=>b.Ld|none=>0)=_
  cases d:L[k.toNat]? with
  |none=>
   rw[d]at this;cases a:s.Gm[k.toNat]? with
   |none=>rfl
   |some y=>rw[a]at this;cases this
  |some x=>
   rw[d]at this;cases a:s.Gm[k.toNat]? with
   |none=>rw[a]at this;cases this
   |some y=>rw[a]at this;exact Option.some.inj this
 have g:Vr {s with Gm:=L}=Vr s:=by
  funext i x
  unfold Vr Hg NO;rw[n,f];rfl
 have j:Qp {s with Gm:=L}=Qp s:=by
  unfold Qp;rw[e]
 have l:WK {s with Gm:=L}=WK s:=ZbN rfl rfl
 have o:Vs {s with Gm:=L}=Vs s:=rfl
 unfold Jx at h⊢;rw[g,j,l,o];simp only[ZSq]at h⊢;exact⟨h.1,c,h.2.2⟩
def Zc9{s:Sta}{L:List Gk}(f:L.map (·.Id)=s.Fa.map (·.Id))(a:L.all Vo=true)(h:Jx s=true):Jx {s with Fa:=L}=true:=by
 have c:Qp {s with Fa:=L}=Qp s:=by
  unfold Qp;rw[f]
 have d:WK {s with Fa:=L}=WK s:=ZbN rfl rfl
 have e:Vs {s with Fa:=L}=Vs s:=rfl
 have b:Vr {s with Fa:=L}=Vr s:=rfl
 unfold Jx at h⊢;rw[b,c,d,e];simp only[ZSq]at h⊢;exact⟨a,h.2⟩
def ZbB{a:Type}{P:a->Bool}{f:a->a}{l:List a}{k:Nat}(h:l.all P=true)(c:∀x,P x=true->P (f x)=true):(ZK l k f).all P=true:=by
 unfold ZK;split
 .rename_i x d;rw[ZSw]at h⊢;intro y b;rcases ZUD b with h1|rfl
  .exact h y h1
  .exact c x<|h x<|ZSy d
 .exact h
def Zbz{b:Type}(l:List b)(k:Nat)(f:b->b)(i:Nat):(ZK l k f)[i]?=if i=k then(l[k]?).map f else l[i]?:=by
 unfold ZK;cases h:l[k]? with
 |none=>
  by_cases a:i=k
  .subst a;rw[if_pos rfl,h];rfl
  .rw[if_neg a]
 |some x=>
  by_cases a:i=k
  .subst a;rw[if_pos rfl,ZUV (ZSA.1 h).1];rfl
  .rw[if_neg a,List.getElem?_set_ne<|Ne.symm a]
def Zbx(S:List By)(k:Nat):NL Nm:=match S[k]? with|some x=>x.bm|none=>⟨false,[]⟩
def swN(S:List By)(j k:Nat):List By:=ZK (ZK S j<|XN<|Zbx S k) k<|XN<|Zbx S j
def ZbR{b:Type}{S:List By}{j k:Nat}(g:By->b)(a:∀n x,g (XN n x)=g x):(swN S j k).map g=S.map g:=by
 unfold swN;rw[FK g _<|λx=>a _ x,FK g _<|λx=>a _ x]
def Zcb{x:By}(h:Vp x=true):Jp x.bm.l x.bm.ex=true:=by
 unfold Vp at h;simp only[ZSq]at h;exact h.2.1
def ZbG{x:By}{n:NL Nm}(h:Vp x=true)(a:Jp n.l n.ex=true):Vp (XN n x)=true:=by
 have:Vp (XN n x)=(QM x.bh x.Ld 0&&(Jp n.l n.ex&&Q9 {Ju x with br:=2})):=rfl
 rw[this,a];unfold Vp at h;simp only[ZSq]at h⊢;exact⟨h.1,trivial,h.2.2⟩
def Zcc{x:Gk}{n:NL Nm}(h:Vo x=true)(a:Jp n.l n.ex=true):Vo (NT n x)=true:=by
 have:Vo (NT n x)=(QM x.bh x.Ld 0&&(Jp n.l n.ex&&Q9 {Jt x with br:=1})):=rfl
 rw[this,a];unfold Vo at h;simp only[ZSq]at h⊢;exact⟨h.1,trivial,h.2.2⟩
def ZbS{S:List By}{k:Nat}{y:By}(a:S[k]?=some y)(h:S.all Vp=true):Jp (Zbx S k).l (Zbx S k).ex=true:=by
 have:Zbx S k=y.bm:=by simp[Zbx,a]
 rw[this];exact Zcb<|ZSw.1 h y<|ZSy a
def Zcd(e:Gt)(b:Q9 e=true)(h:e.br=3):Jp e.bm.l e.bm.ex=true:=by
 have i:Uz e.bm.l=true:=by
  unfold Q9 Q8 at b;rw[h]at b;simp only[ZSq]at b;have:=b.2.2.2.2;have c:(ZZ e.Id&&Uz e.bm.l)=true:=this;rw[ZSq]at c;exact c.2
 have g:Q9 (Jo e.bm.l e.bm.ex)=Uz e.bm.l:=by
  have a:(ZD (Jo e.bm.l e.bm.ex).br 1 15&&(ZD (Jo e.bm.l e.bm.ex).Day 0 100000&&(!Fb (Zq<|Jo e.bm.l e.bm.ex)&&NG (Zq<|Jo e.bm.l e.bm.ex))))=true:=by rfl
  have f:Q8 (Jo e.bm.l e.bm.ex)=(ZZ (B [120])&&Uz e.bm.l):=by kernel_rfl
  have d:ZZ (B [120])=true:=by decide +kernel
  unfold Q9;simp only[ZSq]at a;rw[a.1,a.2.1,a.2.2.1,a.2.2.2,f,d];rfl
 unfold Jp;rw[g,i,ZT9]
def ZbU{c d:Type}{f:c->d}{a b:Option c}(h:a.map f=b.map f):(∃x y,a=some x/\b=some y/\f x=f y)\/(a=none/\b=none):=by
 cases a with
 |none=>cases b with
  |none=>exact Or.inr ⟨rfl,rfl⟩
  |some y=>cases h
 |some x=>cases b with
  |none=>cases h
  |some y=>exact Or.inl ⟨x,y,rfl,rfl,Option.some.inj h⟩
def ZbV{s:Sta}{a:Int}{e:Gt}(h:Qk s a e=0):okB s a e=true/\Q1 (wk0 s a e)=0/\Wh (stepW<|wk0 s a e).s.Bc=true/\ZP s a e=(stepW<|wk0 s a e).s:=by
 unfold Qk at h;unfold ZP;cases d:okB s a e with
 |false=>rw[d]at h;cases h
 |true=>
 cases c:Q1 (wk0 s a e)==0 with
 |false=>
  rw[d,c,cond_true,cond_false]at h;rw[h]at c;cases c
 |true=>
 cases b:Wh (stepW<|wk0 s a e).s.Bc with
 |false=>rw[d,c,b]at h;cases h
 |true=>exact⟨rfl,by simpa using c,rfl,rfl⟩
def ZbX{s:Sta}{a:Int}{e:Gt}(h:okB s a e=true):Jx s=true/\QM a 0 0=true/\Q9 e=true:=by
 unfold okB at h;simp only[ZSq]at h;exact h
structure Prop'(s:Sta):Prop where
 rg:∀x∈s.Fa,Vo x=true
 st:∀x∈s.Gm,Vp x=true
 bu:∀x∈s.Bt,Vq x=true
 dr:∀(i:Nat)d,s.Bc[i]?=some d->Vr s i d=true
 un:∀x∈s.Nk,Vs s x=true
 ids:(Qp s).Nodup
 pa:WK s=true
def Zda{b:Type}{P:Nat->b->Bool}:∀{l:List b}{i:Nat},Zu P i l=true↔∀(j:Nat)x,l[j]?=some x->P (i+j) x=true
 |[],i=>⟨λ_ j x h=>(by simp at h),λ_=>rfl⟩
 |y::r,i=>by
  unfold Zu;rw[ZSq,Zda (l:=r)];constructor
  .rintro⟨c,d⟩ j x a;cases j with
   |zero=>cases a;exact c
   |succ j=>have:=d j x a;rw[show i+(j+1)=i+1+j by omega];exact this
  .intro h;exact⟨h 0 y rfl,λj x a=>by have:=h (j+1) x a;rw[show i+1+j=i+(j+1)by omega];exact this⟩
def Zdb(s:Sta):Jx s=true↔Prop' s/\Wh s.Bc=true:=by
 unfold Jx;simp only[ZSq];constructor
 .rintro⟨g,b,c,e,f,h,a,j⟩;exact⟨⟨ZSw.1 g,ZSw.1 b,ZSw.1 c,λi d k=>by have:=Zda.1 e i d k;rwa[ZSE]at this,ZSw.1 f,(Zdk _).1 h,j⟩,a⟩
 .rintro⟨⟨g,b,c,e,f,h,j⟩,a⟩;exact⟨ZSw.2 g,ZSw.2 b,ZSw.2 c,Zda.2 (λi d k=>by rw[ZSE];exact e i d k),ZSw.2 f,(Zdk _).2 h,a,j⟩
def look{a:Type}(f:a->Str)(l:List a)(id:Str):Int:=Zp (λx=>Z3 (f x) id) l 0
def ZdH{b:Type}(P:b->Bool):∀(l m:List b)(i:Int),Zp P l i≠-1->0<=i->Zp P (l++m) i=Zp P l i
 |[],m,i,h,_=>absurd rfl h
 |x::r,m,i,h,hi=>by
  unfold Zp at h⊢;cases a:P x with
  |true=>simp[a]
  |false=>
   rw[a]at h;simp only[ZSv,a]at h⊢;exact ZdH P r m (i+1) h<|by omega
def Ze7{b:Type}{f:b->Str}{l:List b}{id:Str}(h:decide (look f l id<0)=true):look f l id=-1:=by
 unfold look at h⊢;rcases UA (λx=>Z3 (f x) id) l 0 with⟨a,_⟩|⟨j,x,a,_⟩
 .exact a
 .have:=of_decide_eq_true h;omega
def Zdt{a:Type}{f:a->Str}{l m:List a}{id:Str}(h:decide (look f l id<0)=false):look f (l++m) id=look f l id:=by
 unfold look;apply ZdH
 .intro e;have:=of_decide_eq_false h;unfold look at this;omega
 .omega
def Zdc{a:Type}{f:a->Str}{l m:List a}{id:Str}(h:l.map f=m.map f):look f l id=look f m id:=by
 unfold look;rw[NX f (λy=>Z3 y id) l 0,NX f (λy=>Z3 y id) m 0,h]
def ZcU{a:Type}{f:a->Str}{l:List a}{id:Str}(h:decide (look f l id<0)=false):∃(j:Nat)(x:a),look f l id=(j:Int)/\l[j]?=some x/\f x=id:=by
 unfold look at h⊢;rcases UA (λx=>Z3 (f x) id) l 0 with⟨b,_⟩|⟨j,x,b,h2,h3⟩
 .rw[b]at h;cases h
 .exact⟨j,x,by omega,h2,by have:=ZUI h3;exact(Ky _ _).1 this⟩
def Ze8{a:Type}{f:a->Str}{l:List a}{x:a}(h:x∈l):decide (look f l (f x)<0)=false:=by
 unfold look;rcases UA (λy=>Z3 (f y)<|f x) l 0 with⟨_,b⟩|⟨j,y,h1,_,_⟩
 .exfalso;have:=ZU4.1 b x h;exact this<|(Ky _ _).2 rfl
 .exact decide_eq_false<|by omega
def Zi1{a:Type}{f:a->Str}{l:List a}{j:Nat}{x:a}(m:(l.map f).Nodup)(h:l[j]?=some x):look f l (f x)=(j:Int):=by
 have⟨k,y,i,e,g⟩:=ZcU<|Ze8 (f:=f)<|ZSy h;have c:(l.map f)[k]?=some (f x):=by rw[ZT7,e,ZT3,g]
 have d:(l.map f)[j]?=some (f x):=by rw[ZT7,h,ZT3]
 have b:=(ZSA.1 c).1;have:k=j:=(List.getElem?_inj b m).1 (c.trans d.symm);rw[i,this]
def ZEz(s:Sta)(id:Str):Zn s id=look (λx:Ga=>x.Id) s.Bc id:=rfl
def Zd0(s:Sta)(i:Nat)(d:Ga):Vr s i d=true↔QM d.bh d.Ld d.From=true/\(∀id∈d.After.l,decide (Zn s id<=i)=false)/\UC d=false/\(Z3 d.Veil emp=true->NO s d=false/\Q9 {Hf d with br:=6}=true)/\(Z3 d.Veil emp=false->NN d=true):=by
 unfold Vr Hg K8;rw[ZSq,ZSq,ZSq,ZSw,ZSP];simp only[ZSP];cases Z3 d.Veil emp with
 |true=>rw[cond_true,ZSq,ZSP];simp
 |false=>rw[cond_false];simp
def Zdd(s:Sta)(d:Ga):NO s d=false↔d.bz=0/\decide (Y1 s d.Ev<0)=false/\decide (ZL s d.By<0)=false/\(d.Ld=-1->WL s (Y1 s d.Ev)=-1/\QF s (ZL s d.By)=-1):=by
 unfold NO exD;rw[ZU0,ZU0,ZU0,bne_eq_false_iff_eq];constructor
 .rintro⟨⟨⟨h,f⟩,g⟩,c⟩;refine⟨h,f,g,λe=>?_⟩
  rw[e]at c;have:(WL s (Y1 s d.Ev) != -1||QF s (ZL s d.By) != -1)=false:=by simpa using c
  rw[ZU0,bne_eq_false_iff_eq,bne_eq_false_iff_eq]at this;exact this
 .rintro⟨h,f,g,c⟩;refine⟨⟨⟨h,f⟩,g⟩,?_⟩;cases e:d.Ld==-1 with
  |false=>rfl
  |true=>
   have⟨a,b⟩:=c<|by simpa using e
   rw[a,b];rfl
def Zdl(s:Sta)(x:be):Vs s x=true↔decide (Zn s x.Ga<0)=false/\QM 0 x.Ld x.From=true/\Q9 {Vn x with br:=7}=true/\(x.Ld=-1->x.Why=0/\QN s (Zn s x.Ga)=-1)/\(x.Ld≠-1->x.Why=12\/x.Why=11):=by
 unfold Vs Jw;rw[ZSq,ZSq,ZSq,ZSP,ZSP];refine and_congr_right λ_=>and_congr_right λ_=>and_congr_right λ_=>?_
 rw[ZU0];cases a:x.Ld==-1 with
 |true=>
  have h:x.Ld=-1:=by simpa using a
  have b:(x.Ld != -1)=false:=by simpa using a
  rw[b];simp[h]
 |false=>
  have h:x.Ld≠-1:=by simpa using a
  have b:(x.Ld != -1)=true:=by simpa using a
  rw[b];simp[h];by_cases c:x.Why=12
  .simp[c]
  .simp[c]
def ZcV{e:Gt}(h:Q9 e=true):Q8 e=true:=by
 unfold Q9 at h;simp only[ZSq]at h;exact h.2.2.2.2
def Zd1{e:Gt}(h:Q9 e=true):ZD e.Day 0 100000=true:=by
 unfold Q9 at h;simp only[ZSq]at h;exact h.2.1
def Zd3{e:Gt}(a:(ZD e.br 1 15&&(ZD e.Day 0 100000&&(!Fb (Zq e)&&NG (Zq e))))=true):Q9 e=Q8 e:=by
 unfold Q9;simp only[ZSq]at a;rw[a.1,a.2.1,a.2.2.1,a.2.2.2];rfl
def ZdI(x:By):Q9 {Ju x with br:=2}=(ZZ x.Id&&Ul x.Line.l):=(Zd3<|by rfl).trans (by kernel_rfl)
def ZdJ(x:Ev):Q9 {Jv x with br:=5}=(ZZ x.Id&&Vh x.Ring.l):=(Zd3<|by rfl).trans (by kernel_rfl)
def Zdu(x:Gk):Q9 {Jt x with br:=1}=(ZZ x.Id&&(ZD x.br 1 3&&Vh x.Ring.l)):=(Zd3<|by rfl).trans (by kernel_rfl)
def Zdm(x:Ga):Q9 {Hf x with br:=6}=(Qv [x.Id,x.Ev,x.By]&&(YO x.An&&gOn x.bg)):=(Zd3<|by rfl).trans (by kernel_rfl)
def Ze9(x:Ga):Q9 {NM x with br:=15}=(ZZ x.Id&&(ZD x.bz 0 63&&Uu x.Veil)):=(Zd3<|by rfl).trans (by kernel_rfl)
def ZdK(x:be):Q9 {Vn x with br:=7}=(Qv [x.Id,x.Ga]&&Jm x.Text 24):=(Zd3<|by rfl).trans (by kernel_rfl)
def ZcW{e:Gt}{k:Int}(a:e.br=k):Q8 e=Q8 {e with br:=k}:=by rw[<-a]
def Zd4{a:Int}(h:QM a 0 0=true){b c:Int}(e:ZD b (-1) 100000=true)(d:ZD c 0 100000=true):QM a b c=true:=by
 unfold QM at h⊢;simp only[ZSq]at h⊢;exact⟨h.1,e,d⟩
def Zde{d:Int}(h:ZD d 0 100000=true):ZD d (-1) 100000=true:=by
 unfold ZD at h⊢;simp only[ZSq,decide_eq_true_eq]at h⊢;omega
def Zd5{d:Int}(h:ZD d 0 100000=true):d≠-1:=by
 unfold ZD at h;simp only[ZSq,decide_eq_true_eq]at h;omega
def Zd6{s t:Sta}{i:Nat}{d:Ga}(h:Vr s i d=true)
 (z:∀id,decide (Zn s id<0)=false->Zn t id=Zn s id)
 (j:∀id,decide (Y1 s id<0)=false->Y1 t id=Y1 s id)
 (l:∀id,decide (ZL s id<0)=false->ZL t id=ZL s id)
 (u:d.Ld=-1->Z3 d.Veil emp=true->decide (Y1 s d.Ev<0)=false->WL s (Y1 s d.Ev)=-1->WL t (Y1 s d.Ev)=-1)
 (g:d.Ld=-1->Z3 d.Veil emp=true->decide (ZL s d.By<0)=false->QF s (ZL s d.By)=-1->QF t (ZL s d.By)=-1):Vr t i d=true:=by
 rw[Zd0]at h⊢;have⟨x,o,p,q,A⟩:=h;refine⟨x,λid e=>?_,p,λf=>?_,A⟩
 .have:=o id e;have r:decide (Zn s id<0)=false:=decide_eq_false (by have:=of_decide_eq_false this;omega)
  rw[z id r];exact this
 .have⟨k,n⟩:=q f;rw[Zdd]at k⊢;have⟨y,a,b,v⟩:=k;refine⟨⟨y,?_,?_,λc=>?_⟩,n⟩
  .rw[j _ a];exact a
  .rw[l _ b];exact b
  .have⟨w,m⟩:=v c;rw[j _ a,l _ b];exact⟨u c f a w,g c f b m⟩
def Zdv{s t:Sta}{x:be}(h:Vs s x=true)(b:∀id,decide (Zn s id<0)=false->Zn t id=Zn s id)
 (e:x.Ld=-1->decide (Zn s x.Ga<0)=false->QN s (Zn s x.Ga)=-1->QN t (Zn s x.Ga)=-1):Vs t x=true:=by
 rw[Zdl]at h⊢;have⟨a,f,g,i,j⟩:=h;refine⟨by rw[b _ a];exact a,f,g,λc=>?_,j⟩
 have⟨k,d⟩:=i c;exact⟨k,by rw[b _ a];exact e c a d⟩
def Zdw{a:Type}{f:a->Str}{l m:List a}{id:Str}(h:decide (look f l id<0)=false):(l++m)[(look f l id).toNat]?=l[(look f l id).toNat]?:=by
 have⟨j,x,d,c,_⟩:=ZcU h;have b:(look f l id).toNat=j:=by omega
 rw[b,ZT2 (ZSA.1 c).1]
def Zd2{s:Sta}{a:Int}{e:Gt}{id:Str}(h:twB (wk0 s a e) id=false):id ∉ Qp s:=by
 intro b;have:=ZTB.1 h id b;exact this<|(Ky _ _).2 rfl
def Zdn{a l2:List Str}{x:Str}(h:(a++l2).Nodup)(b:x ∉ a++l2):(a++[x]++l2).Nodup:=by
 have c:(a++[x]++l2).Perm (x::(a++l2)):=by
  rw[ZSN];exact ZUu
 rw[c.nodup_iff,ZT8];exact⟨b,h⟩
def ZcY{s t:Sta}(h:Prop' s)(a:t.Gc=s.Gc)(b:t.ba=s.ba):WK t=true:=(ZbN a b).trans h.pa
def Zea{s:Sta}(h:Prop' s){x:By}(f:Vp x=true)(c:x.Id ∉ Qp s):Prop' {s with Gm:=s.Gm++[x]}:=by
 refine⟨h.rg,?_,h.bu,λi d j=>?_,h.un,?_,?_⟩
 .intro y g;rcases ZSQ.1 g with a|a
  .exact h.st y a
  .rw[ZSL]at a;subst a;exact f
 .refine Zd6 (h.dr i d j) (λid _=>rfl) (λid _=>rfl) (λid a=>Zdt a) (λ_ _ _ h=>h) (λ_ _ a e=>?_)
  unfold QF at e⊢;rw[show({s with Gm:=s.Gm++[x]}:Sta).Gm[(ZL s d.By).toNat]?=s.Gm[(ZL s d.By).toNat]? from Zdw a]
  exact e
 .have b:=h.ids;unfold Qp at b c⊢;show(s.Fa.map _++((s.Gm++[x]).map _++_)).Nodup
  rw[ZSF,ZSN,<-ZSN,<-ZSN];rw[<-ZSN]at b c;exact Zdn b c
 .exact ZcY h rfl rfl
def Zeb{s:Sta}(h:Prop' s){x:Ev}(f:Vq x=true)(c:x.Id ∉ Qp s):Prop' {s with Bt:=s.Bt++[x]}:=by
 refine⟨h.rg,h.st,?_,λi d j=>?_,h.un,?_,?_⟩
 .intro y g;rcases ZSQ.1 g with a|a
  .exact h.bu y a
  .rw[ZSL]at a;subst a;exact f
 .refine Zd6 (h.dr i d j) (λid _=>rfl) (λid a=>Zdt a) (λid _=>rfl) (λ_ _ a e=>?_) (λ_ _ _ h=>h)
  unfold WL at e⊢;rw[show({s with Bt:=s.Bt++[x]}:Sta).Bt[(Y1 s d.Ev).toNat]?=s.Bt[(Y1 s d.Ev).toNat]? from Zdw a]
  exact e
 .have b:=h.ids;unfold Qp at b c⊢;show(s.Fa.map _++(s.Gm.map _++((s.Bt++[x]).map _++_))).Nodup
  rw[ZSF,ZSN,<-ZSN,<-ZSN,<-ZSN];rw[<-ZSN,<-ZSN]at b c;exact Zdn b c
 .exact ZcY h rfl rfl
def Zec{s:Sta}(h:Prop' s){x:Gk}(c:Vo x=true)(b:x.Id ∉ Qp s):Prop' {s with Fa:=s.Fa++[x]}:=by
 refine⟨?_,h.st,h.bu,λi d f=>h.dr i d f,h.un,?_,?_⟩
 .intro y e;rcases ZSQ.1 e with h1|h1
  .exact h.rg y h1
  .rw[ZSL]at h1;subst h1;exact c
 .have a:=h.ids;unfold Qp at a b⊢;show((s.Fa++[x]).map _++_).Nodup
  rw[ZSF];exact Zdn a b
 .exact ZcY h rfl rfl
def Zed{s:Sta}(h:Prop' s){x:be}(c:Vs s x=true)(b:x.Id ∉ Qp s):Prop' {s with Nk:=s.Nk++[x]}:=by
 refine⟨h.rg,h.st,h.bu,λi d f=>h.dr i d f,?_,?_,?_⟩
 .intro y e;rcases ZSQ.1 e with h1|h1
  .exact h.un y h1
  .rw[ZSL]at h1;subst h1;exact c
 .have a:=h.ids;unfold Qp at a b⊢;show(s.Fa.map _++(s.Gm.map _++(s.Bt.map _++(s.Bc.map _++(s.Nk++[x]).map _)))).Nodup
  rw[ZSF,<-ZSN,<-ZSN,<-ZSN,<-ZSN];rw[<-ZSN,<-ZSN,<-ZSN]at a b;have:=Zdn (l2:=[]) (by rw[ZSC];exact a)<|by rw[ZSC];exact b
  rw[ZSC]at this;exact this
 .exact ZcY h rfl rfl
def ZdL{s:Sta}(h:Prop' s){m:List Ga}(v:∀d∈m,∀i,Vr s i d=true)(z:(m.map (·.Id)).Nodup)(t:∀d∈m,d.Id ∉ Qp s):Prop' {s with Bc:=s.Bc++m}:=by
 have g:∀id,decide (Zn s id<0)=false->Zn {s with Bc:=s.Bc++m} id=Zn s id:=λid c=>Zdt c
 refine⟨h.rg,h.st,h.bu,λi d k=>?_,λu o=>?_,?_,?_⟩
 .have b:Vr s i d=true:=by
   by_cases p:i<s.Bc.length
   .have a:(s.Bc++m)[i]?=some d:=k;rw[ZT2 p]at a;exact h.dr i d a
   .have a:(s.Bc++m)[i]?=some d:=k;rw[ZTd<|by omega]at a
    exact v d (ZSy a) i
  exact Zd6 b g (λid _=>rfl) (λid _=>rfl) (λ_ _ _ h=>h)<|λ_ _ _ h=>h
 .refine Zdv (h.un u o) g (λ_ c j=>?_)
  unfold QN at j⊢;rw[show({s with Bc:=s.Bc++m}:Sta).Bc[(Zn s u.Ga).toNat]?=s.Bc[(Zn s u.Ga).toNat]? from Zdw c]
  exact j
 .have b:=h.ids;have r:(Qp {s with Bc:=s.Bc++m}).Perm (m.map (·.Id)++Qp s):=by
   unfold Qp;show(s.Fa.map _++(s.Gm.map _++(s.Bt.map _++((s.Bc++m).map _++s.Nk.map _)))).Perm _
   rw[ZSF];generalize s.Fa.map (·.Id)=A;generalize s.Gm.map (·.Id)=B;generalize s.Bt.map (·.Id)=C;generalize s.Bc.map (·.Id)=D;generalize s.Nk.map (·.Id)=F;generalize m.map (·.Id)=M;have w:A++(B++(C++(D++M++F)))=(A++B++C++D)++(M++F):=by simp only[ZSN]
   have q:M++(A++(B++(C++(D++F))))=M++((A++B++C++D)++F):=by simp only[ZSN]
   rw[w,q,<-ZSN,<-ZSN];exact List.Perm.append_right F ZUZ
  rw[r.nodup_iff,ZU5];refine⟨z,b,λx l y n e=>?_⟩
  obtain⟨d,f,rfl⟩:=ZSM.1 l;exact t d f<|e▸n
 .exact ZcY h rfl rfl
def ZdM:Jp [] false=true:=rfl
def Zd7:ZD (-1) (-1) 100000=true:=rfl
def Zdf:ZD 0 0 100000=true:=rfl
def Zah{n m:Int}(h:(n != m)=false):n=m:=by simpa using h
def Zdo{b:Bool}(h:(bif b then(8:Int)else 0)=0):b=false:=by cases b with|true=>cases h|false=>rfl
def Zee{s:Sta}{a:Int}{e:Gt}(h:Prop' s)(d:QM a 0 0=true)(b:Q9 e=true)(f:e.br=2)(c:twB (wk0 s a e) e.Id=false):Prop' (Jz<|wk0 s a e).s:=by
 refine Zea h ?_<|Zd2 c;have g:(ZZ e.Id&&Ul e.Path.l)=true:=by have:=ZcV b;rw[ZcW f]at this;exact this
 unfold Vp;rw[ZdI];show(QM a (-1) 0&&(Jp [] false&&(ZZ e.Id&&Ul e.Path.l)))=true
 rw[g,ZdM,Zd4 d Zd7 Zdf];rfl
def Zef{s:Sta}{a:Int}{e:Gt}(h:Prop' s)(d:QM a 0 0=true)(b:Q9 e=true)(f:e.br=5)(c:twB (wk0 s a e) e.Id=false):Prop' (JA<|wk0 s a e).s:=by
 refine Zeb h ?_<|Zd2 c;have g:(ZZ e.Id&&Vh e.Path.l)=true:=by have:=ZcV b;rw[ZcW f]at this;exact this
 unfold Vq;rw[ZdJ];show(QM a (-1) 0&&(ZZ e.Id&&Vh e.Path.l))=true
 rw[g,Zd4 d Zd7 Zdf];rfl
def Zdx{s:Sta}{a:Int}{e:Gt}{d:Ga}(h:Prop' s)(f:∀i,Vr s i (Xl (wk0 s a e) d)=true)(c:twB (wk0 s a e) d.Id=false):Prop' (Qw (wk0 s a e) d).s:=
 ZdL h (λx b i=>by rw[ZSL]at b;subst b;exact f i) (by simp) (λx b=>by rw[ZSL]at b;subst b;exact Zd2 c)
def Zeg{a b c:Int}(h:(bif a != -1||b != -1 then(11:Int)else 0)=0):a=-1/\b=-1:=by
 cases d:a != -1 with
 |true=>rw[d]at h;cases h
 |false=>
 cases e:b != -1 with
 |true=>rw[d,e]at h;cases h
 |false=>exact⟨by simpa using d,by simpa using e⟩
def Zeh{s:Sta}{a:Int}{e:Gt}(h:Prop' s)(p:QM a 0 0=true)(k:Q9 e=true)(q:e.br=6)(d:JD (wk0 s a e)=0):Prop' (Qw (wk0 s a e)<|UE<|wk0 s a e).s:=by
 have t:(Qv [e.Id,e.bv,e.Text]&&(YO e.An&&gOn e.bg))=true:=by have:=ZcV k;rw[ZcW q]at this;exact this
 unfold JD at d;have n:(wk0 s a e).s=s:=rfl;have m:(wk0 s a e).e=e:=rfl;rw[n,m]at d;cases f:twB (wk0 s a e) e.Id with
 |true=>rw[f]at d;cases d
 |false=>
 cases g:decide (Y1 s e.bv<0)with
 |true=>rw[f,g]at d;cases d
 |false=>
 cases b:decide (ZL s e.Text<0)with
 |true=>rw[f,g,b]at d;cases d
 |false=>
 rw[f,g,b]at d;have⟨o,r⟩:=Zeg (c:=0) d;refine Zdx h (λi=>?_) f
 rw[Zd0];refine⟨Zd4 p Zd7<|Zd1 k,λid j=>(by cases j),by rfl,λ_=>⟨?_,?_⟩,λl=>?_⟩
 .rw[Zdd];exact⟨rfl,g,b,λ_=>⟨o,r⟩⟩
 .rw[Zdm];exact t
 .rw[show Z3 (Xl (wk0 s a e)<|UE<|wk0 s a e).Veil emp=true from rfl]at l;cases l
def Zei{s:Sta}{a:Int}{e:Gt}(h:Prop' s)(j:QM a 0 0=true)(f:Q9 e=true)(l:e.br=15)(g:twB (wk0 s a e) e.Id=false):Prop' (Qw (wk0 s a e)<|UD<|wk0 s a e).s:=by
 have d:(ZZ e.Id&&(ZD e.bz 0 63&&Uu e.Text))=true:=by have:=ZcV f;rw[ZcW l]at this;exact this
 have k:Z3 e.Text emp=false:=by
  simp only[ZSq]at d;have:=d.2.2;unfold Uu at this;simp only[ZSq,ZSP]at this;exact this.1
 refine Zdx h (λi=>?_) g
 rw[Zd0];refine⟨Zd4 j Zd7<|Zd1 f,λid c=>(by cases c),by rfl,λb=>?_,λ_=>?_⟩
 .rw[show(Xl (wk0 s a e)<|UD<|wk0 s a e).Veil=e.Text from rfl,k]at b;cases b
 .unfold NN;rw[Ze9];exact d
def Zej{s:Sta}{a:Int}{e:Gt}(h:Prop' s)(i:Q9 e=true)(l:e.br=7)(c:JB (wk0 s a e)=0):Prop' (JC<|wk0 s a e).s:=by
 have m:(Qv [e.Id,e.bv]&&Jm e.Text 24)=true:=by have:=ZcV i;rw[ZcW l]at this;exact this
 unfold JB at c;have k:(wk0 s a e).s=s:=rfl;have j:(wk0 s a e).e=e:=rfl;rw[k,j]at c;cases d:twB (wk0 s a e) e.Id with
 |true=>rw[d]at c;cases c
 |false=>
 cases f:decide (Zn s e.bv<0)with
 |true=>rw[d,f]at c;cases c
 |false=>
 cases b:QN s (Zn s e.bv) != -1 with
 |true=>rw[d,f,b]at c;cases c
 |false=>
 refine Zed h ?_<|Zd2 d;rw[Zdl];refine⟨f,?_,?_,λ_=>⟨rfl,Zah b⟩,λg=>absurd rfl g⟩
 .show QM 0 (-1) e.Day=true
  unfold QM;rw[Zd1 i];rfl
 .rw[ZdK];exact m
def Zek{s:Sta}{a:Int}{e:Gt}(h:Prop' s)(f:Jx s=true)(n:QM a 0 0=true)(j:Q9 e=true)(o:e.br=1)(d:Hi (wk0 s a e)=0):Prop' (Hj<|wk0 s a e).s:=by
 have g:(ZZ e.Id&&(ZD e.A 1 3&&Vh e.Path.l))=true:=by have:=ZcV j;rw[ZcW o]at this;exact this
 unfold Hi at d;unfold Hj;have m:(wk0 s a e).s=s:=rfl;have i:(wk0 s a e).e=e:=rfl;rw[m,i]at d⊢;cases c:decide (Qo s e.Id<0)with
 |true=>
  rw[c,cond_true]at d;refine Zec h ?_<|Zd2<|Zdo d;unfold Vo;rw[Zdu];show(QM a (-1) 0&&(Jp [] false&&(ZZ e.Id&&(ZD e.A 1 3&&Vh e.Path.l))))=true
  rw[g,ZdM,Zd4 n Zd7 Zdf];rfl
 |false=>
  have k:(ZK s.Fa (Qo s e.Id).toNat<|NS e.Path).map (·.Id)=s.Fa.map (·.Id):=FK (λx:Gk=>x.Id) (NS e.Path) (λ_=>rfl) _ _
  refine((Zdb _).1 ?_).1;refine Zc9 k ?_ f;refine ZbB (ZSw.2 h.rg)<|λx b=>?_
  unfold Vo at b⊢;rw[Zdu]at b⊢;simp only[ZSq]at b g⊢;exact⟨b.1,b.2.1,b.2.2.1,b.2.2.2.1,g.2.2⟩
def Zel{s:Sta}{a:Int}{e:Gt}(h:Prop' s)(f:Q9 e=true)(l:e.br=14):Prop' (Hh<|wk0 s a e).s:=by
 have c:K5 e.A e.B=true:=by have:=ZcV f;rw[ZcW l]at this;exact this
 refine⟨h.rg,h.st,h.bu,λi d o=>h.dr i d o,h.un,h.ids,?_⟩
 have b:=h.pa;unfold WK at b⊢;have r:chN (Hh<|wk0 s a e).s=chN s:=by funext n k;exact Zc8 (s:=s) (t:=(Hh<|wk0 s a e).s) rfl n k
 rw[r];simp only[ZSq]at b⊢;refine⟨b.1,?_,b.2.2⟩;rw[ZSw];intro p m;rcases ZSQ.1 m with h1|h1
 .exact ZSw.1 b.2.1 p h1
 .rw[ZSL]at h1;subst h1;unfold K5 at c;simp only[ZSq]at c;have⟨q,j,g⟩:=c;show(QM e.A 0 0&&(QM e.B 0 0&&!(e.A==e.B)))=true
  unfold QM;have w0:ZD 0 (-1) 100000=true:=rfl;rw[q,j,w0,Zdf];simpa using g
def Zem{s:Sta}{a:Int}{e:Gt}(h:Prop' s)(m:Jx s=true)(c:Hm (wk0 s a e)=0):Prop' (exW<|wk0 s a e).s:=by
 unfold Hm at c;have p:(wk0 s a e).s=s:=rfl;have o:(wk0 s a e).e=e:=rfl;rw[p,o]at c;cases n:decide (ZL s e.Id<0)with
 |true=>rw[n]at c;cases c
 |false=>
 cases q:decide (ZL s e.bv<0)with
 |true=>rw[n,q]at c;cases c
 |false=>
 have⟨j,x,u,g⟩:=QC n;have⟨k,y,d,r⟩:=QC q;have l:ZL s e.Id=(j:Int):=u;have f:ZL s e.bv=(k:Int):=d;have t:(exW<|wk0 s a e).s={s with Gm:=swN s.Gm j k}:=by
  unfold exW;rw[p,o,l,f];rfl
 rw[t];refine((Zdb _).1 ?_).1;have b:s.Gm.all Vp=true:=ZSw.2 h.st;refine ZbO (ZbR (λx=>x.Id)<|λ_ _=>rfl) (ZbR (λx=>x.Ld)<|λ_ _=>rfl) ?_ m
 unfold swN;exact ZbB (ZbB b<|λx g=>ZbG g<|ZbS r b)<|λx i=>ZbG i<|ZbS g b
def Zen{s:Sta}{a:Int}{e:Gt}(h:Prop' s)(b:Jx s=true)(i:Q9 e=true)(k:e.br=3):Prop' (Hl<|wk0 s a e).s:=by
 have d:=Zcd e i k;unfold Hl;have j:(wk0 s a e).s=s:=rfl;have g:(wk0 s a e).e=e:=rfl;rw[j,g];refine((Zdb _).1 ?_).1;cases c:decide (Qo s e.Id>=0)with
 |true=>exact Zc9 (FK (λx:Gk=>x.Id) (NT e.bm) (λ_=>rfl) _ _) (ZbB (ZSw.2 h.rg)<|λx f=>Zcc f d) b
 |false=>exact ZbO (FK (λx:By=>x.Id) (XN e.bm) (λ_=>rfl) _ _) (FK (λx:By=>x.Ld) (XN e.bm) (λ_=>rfl) _ _) (ZbB (ZSw.2 h.st)<|λx f=>ZbG f d) b
def Zd8{s t:Sta}(e:t.Fa.map (·.Id)=s.Fa.map (·.Id))(a:t.Gm.map (·.Id)=s.Gm.map (·.Id))(b:t.Bt.map (·.Id)=s.Bt.map (·.Id))(c:t.Bc.map (·.Id)=s.Bc.map (·.Id))(d:t.Nk.map (·.Id)=s.Nk.map (·.Id)):Qp t=Qp s:=by
 unfold Qp;rw[e,a,b,c,d]
def Zeo(e:Gt)(id:Str)(a:NL Str)(l:List be):(UH e id a l).map (·.Id)=l.map (·.Id):=by
 unfold UH;rw[ZTm];apply ZTZ;intro u _;show(XO e id a u).Id=u.Id
 unfold XO;cases Z3P id u with
 |false=>rfl
 |true=>
  show(UG e a u).Id=u.Id
  unfold UG;split<;>rfl
def ZdN{id:Str}{u:be}:Z3P id u=true↔u.Ga=id/\u.Ld=-1:=by
 unfold Z3P;rw[ZSq,Ky];simp
def ZdO{s t:Sta}{j:Int}(h:t.Bc[j.toNat]?=s.Bc[j.toNat]?):QN t j=QN s j:=by
 unfold QN;rw[h]
def Zdp{w:Wk}{k:Nat}{x:Ga}{a:NL Str}(h:Prop' w.s)(E:w.s.Bc[k]?=some x)(b:ZD w.e.Day 0 100000=true)
 (D:UC (UF w.e a x)=false) (m:∀id∈a.l,decide (Zn w.s id<=k)=false)
 (O:a.l=[]->w.e.br=12\/w.e.br=11)
 (K:∀id r,a.l=id::r->QN w.s (Zn w.s id)=-1/\∀u∈w.s.Nk,Qv [u.Id,u.Ga]=true->Qv [u.Id,id]=true):Prop' (Qf w k a).s:=by
 have S:(ZK w.s.Bc k<|UF w.e a).map (·.Id)=w.s.Bc.map (·.Id):=FK (λd:Ga=>d.Id) (UF w.e a) (λ_=>rfl) _ _
 have ht:(Qf w k a).s={w.s with Bc:=ZK w.s.Bc k<|UF w.e a,Nk:=UH w.e x.Id a w.s.Nk}:=by
  unfold Qf;rw[E];rfl
 rw[ht];have A:∀id,Zn {w.s with Bc:=ZK w.s.Bc k<|UF w.e a,Nk:=UH w.e x.Id a w.s.Nk} id=Zn w.s id:=λid=>Zdc S
 have Y:∀i d,(ZK w.s.Bc k<|UF w.e a)[i]?=some d->(i=k/\d=UF w.e a x)\/(i≠k/\w.s.Bc[i]?=some d):=by
  intro i d g;rw[Zbz]at g;by_cases F:i=k
  .subst F;rw[if_pos rfl,E]at g;exact Or.inl ⟨rfl,(Option.some.inj g).symm⟩
  .rw[if_neg F]at g;exact Or.inr ⟨F,g⟩
 have o:∀(j:Int),0<=j->j≠(k:Int)->QN {w.s with Bc:=ZK w.s.Bc k<|UF w.e a,Nk:=UH w.e x.Id a w.s.Nk} j=QN w.s j:=by
  intro j aa T;have:(ZK w.s.Bc k<|UF w.e a)[j.toNat]?=w.s.Bc[j.toNat]?:=by
   rw[Zbz,if_neg<|by omega]
  exact ZdO this
 refine⟨h.rg,h.st,h.bu,λi d g=>?_,λu Z=>?_,?_,ZcY h rfl rfl⟩
 .rcases Y i d g with⟨rfl,rfl⟩|⟨F,hd'⟩
  .have p:=h.dr i x E;rw[Zd0]at p⊢;have⟨n,C,q,J,Q⟩:=p;refine⟨?_,λid N=>?_,D,λB=>?_,λB=>Q B⟩
   .show QM x.bh w.e.Day x.From=true
    unfold QM at n⊢;simp only[ZSq]at n⊢;exact⟨n.1,Zde b,n.2.2⟩
   .rw[A];exact m id N
   .have⟨z,G⟩:=J B;rw[Zdd]at z⊢;exact⟨⟨z.1,z.2.1,z.2.2.1,λo=>absurd o<|Zd5 b⟩,G⟩
  .exact Zd6 (h.dr i d hd') (λid _=>A id) (λid _=>rfl) (λid _=>rfl) (λ_ _ _ h=>h)<|λ_ _ _ h=>h
 .obtain⟨v,B,rfl⟩:=ZSM.1 Z;have p:=h.un v B;unfold XO;cases P:Z3P x.Id v with
  |false=>
   rw[cond_false];refine Zdv p (λid _=>A id)<|λhl hf g=>?_
   have⟨j,y,T,U,L⟩:=ZcU (f:=λd:Ga=>d.Id) hf
   have M:Zn w.s v.Ga=(j:Int):=T;have H:(j:Int)≠(k:Int):=by
    intro e;have:j=k:=by omega
    subst this;rw[E]at U;cases U;rw[show Z3P x.Id v=true from ZdN.2 ⟨L.symm,hl⟩]at P
    cases P
   rw[M]at g⊢;rw[o _ (by omega) H]
   exact g
  |true=>
   rw[cond_true];have⟨g1,W⟩:=ZdN.1 P;rw[Zdl]at p⊢;have⟨n,C,q,J,Q⟩:=p;show decide (Zn _ (UG w.e a v).Ga<0)=false/\QM 0 (UG w.e a v).Ld (UG w.e a v).From=true/\Q9 {Vn (UG w.e a v)with br:=7}=true/\((UG w.e a v).Ld=-1->(UG w.e a v).Why=0/\QN _ (Zn _ (UG w.e a v).Ga)=-1)/\((UG w.e a v).Ld≠-1->(UG w.e a v).Why=12\/(UG w.e a v).Why=11)
   cases c:a.l with
   |nil=>
    have R:UG w.e a v={v with Ld:=w.e.Day,Why:=w.e.br}:=by unfold UG;rw[c]
    rw[R];refine⟨by rw[A];exact n,?_,q,λo=>absurd o<|Zd5 b,λ_=>O c⟩
    show QM 0 w.e.Day v.From=true
    unfold QM at C⊢;simp only[ZSq]at C⊢;exact⟨C.1,Zde b,C.2.2⟩
   |cons id r=>
    have R:UG w.e a v={v with Ga:=id}:=by unfold UG;rw[c]
    rw[R];have⟨z,G⟩:=K id r c;have q3:=m id<|by rw[c];exact ZSV ..
    have q4:(k:Int)<Zn w.s id:=by have:=of_decide_eq_false q3;omega
    have V:decide (Zn w.s id<0)=false:=decide_eq_false<|by omega
    refine⟨by rw[A];exact V,C,?_,λX=>⟨(J W).1,?_⟩,Q⟩
    .rw[ZdK]at q⊢;rw[ZSq]at q⊢;exact⟨G v B q.1,q.2⟩
    .rw[A];show QN _ (Zn w.s id)=-1
     rw[o (Zn w.s id) (by omega)<|by omega]
     exact z
 .have e:=Zd8 (s:=w.s) (t:={w.s with Bc:=ZK w.s.Bc k<|UF w.e a,Nk:=UH w.e x.Id a w.s.Nk}) rfl rfl rfl S (Zeo _ _ _ _)
  rw[e];exact h.ids
def ZdP{K:List Str}{x:Str}:K.any (Z3 x)=true↔x∈K:=by
 rw[List.any_eq_true];exact⟨λ⟨y,a,b⟩=>by rw[(Ky _ _).1 b];exact a,λh=>⟨x,h,(Ky _ _).2 rfl⟩⟩
def Zdy:∀(l K:List Str),(l.foldl (Qi Z3) K).length<=K.length+l.length/\((l.foldl (Qi Z3) K).length=K.length+l.length↔l.Nodup/\∀x∈l,x ∉ K)
 |[],K=>⟨by simp,by simp⟩
 |x::r,K=>by
  rw[ZTe];unfold Qi;cases e:K.any (Z3 x)with
  |true=>
   have⟨b,c⟩:=Zdy r K;simp only[cond_true];rw[ZSG];refine⟨by have:=b;unfold Qi at this;omega,⟨λh=>?_,λh=>?_⟩⟩
   .have:=b;unfold Qi at this;omega
   .exact absurd (ZdP.1 e)<|h.2 x<|ZSV ..
  |false=>
   have⟨b,c⟩:=Zdy r<|K++[x];have i:x ∉ K:=λh=>by rw[ZdP.2 h]at e;cases e
   simp only[cond_false];unfold Qi at b c;rw[ZSJ,ZTT]at b c;rw[ZSG];refine⟨by omega,?_⟩
   rw[show K.length+(r.length+1)=K.length+1+r.length by omega,c,ZT8]
   constructor
   .rintro⟨f,d⟩;refine⟨⟨λg=>d x g<|ZUb _<|ZSL.2 rfl,f⟩,λy a=>?_⟩
    rcases ZST.1 a with rfl|a
    .exact i
    .exact λh=>d y a<|ZTM _ h
   .rintro⟨⟨f,d⟩,g3⟩;refine⟨d,λy a g=>?_⟩
    rcases ZSQ.1 g with h|h
    .exact g3 y (ZT4 _ a) h
    .rw[ZSL]at h;exact f<|h▸a
def Zdg(l:List Str):Qv l=true↔l.Nodup/\∀x∈l,Ha x=false:=by
 unfold Qv XH;rw[ZSq,beq_iff_eq,ZSP,ZTB];have h:=(Zdy l []).2;rw[ZT1,ZSE]at h;rw[show(((l.foldl (Qi Z3) []).length:Nat):Int)=(l.length:Int)↔(l.foldl (Qi Z3) []).length=l.length from by omega,h]
 constructor
 .rintro⟨⟨a,_⟩,c⟩;exact⟨a,λx b=>by simpa using c x b⟩
 .rintro⟨a,c⟩;exact⟨⟨a,λx _ h=>by cases h⟩,λx b=>by rw[c x b];decide⟩
def Zep{s:Sta}{w:Wk}(A:w.s=s)(h:∀x∈w.e.Lst.l,YO x.An=true/\∃(j:Nat)(d:Ga),Zn s x.Id=((j:Nat):Int)/\s.Bc[j]?=some d/\Z3 d.Veil emp=true):
 ∀(i k:Nat)(y:Ga),(Yn s.Bc w.e.Lst.l i)[k]?=some y->∃(d:Ga)(n:HN),s.Bc[k]?=some d/\y=UP n d/\(n=d.An\/(YO n=true/\Z3 d.Veil emp=true)):=by
 intro i;induction i with
 |zero=>intro k y a;exact⟨y,y.An,a,rfl,Or.inl rfl⟩
 |succ i f=>
  intro k y a;unfold Yn at a;split at a
  .rename_i x m;have⟨t,j,d,v,u,c⟩:=h x<|ZSy m;have o:Kk (Yn s.Bc w.e.Lst.l i) x.Id=Zn s x.Id:=Z4o (HA _ _ _) _;rw[o,v,Zbz]at a;by_cases g:k=((j:Nat):Int).toNat
   .rw[if_pos g]at a;obtain⟨z,p,rfl⟩:=ZSD.1 a;obtain⟨q,n,b,rfl,_⟩:=f _ z p;have r:k=j:=by omega
    refine⟨q,x.An,by rw[g];exact b,rfl,Or.inr ⟨t,?_⟩⟩
    rw[show((j:Nat):Int).toNat=j by omega]at b
    rw[u]at b;cases b;exact c
   .rw[if_neg g]at a;exact f k y a
  .exact f k y a
def Zdz{b:Type}(g:Ga->b)(a:∀n d,g (UP n d)=g d)(D:List Ga)(l:List Ent):∀i,(Yn D l i).map g=D.map g
 |0=>rfl
 |i+1=>by
  unfold Yn;split
  .rw[FK g _<|λd=>a _ d]
   exact Zdz g a D l i
  .exact Zdz g a D l i
def Zeq{s:Sta}{a:Int}{e:Gt}(h:Prop' s)(U:Q9 e=true)(hk:e.br=8)(b:HD (wk0 s a e)=0):Prop' (NY<|wk0 s a e).s:=by
 have F:(ZZ e.Id&&(ZD e.Lst.l.length 1 40&&(Xi e.Lst.l []&&Vk e.Lst.l true)))=true:=by have:=ZcV U;rw[ZcW hk]at this;exact this
 simp only[ZSq]at F;have p:e.Id≠emp:=by
  intro T;have:=F.1;rw[T]at this;exact absurd this<|by decide +kernel
 have g:∀x∈e.Lst.l,YO x.An=true:=by
  have:=F.2.2.1;unfold Xi at this;simp only[ZSq]at this;exact λx v=>ZSw.1 this.1 x v
 have N:(wk0 s a e).s=s:=rfl;have M:(wk0 s a e).e=e:=rfl;unfold HD at b;rw[N,M]at b;cases H:decide (ZL s e.Id<0)with
 |true=>rw[H]at b;cases b
 |false=>
 cases G:e.Lst.l.any (Kj s)with
 |true=>rw[H,G]at b;cases b
 |false=>
 rw[H,G,ZTU,cond_false]at b;cases c:e.Lst.l.any (Hz<|wk0 s a e)with
 |true=>rw[c,ZT9]at b;cases b
 |false=>
 have D:∀x∈e.Lst.l,YO x.An=true/\∃(j:Nat)(d:Ga),Zn s x.Id=((j:Nat):Int)/\s.Bc[j]?=some d/\Z3 d.Veil emp=true:=by
  intro x v;have O:Kj s x=false:=by simpa using ZTB.1 G x v
  have E:Hz (wk0 s a e) x=false:=by simpa using ZTB.1 c x v
  unfold Kj at O;unfold Hz at E;rw[ZU0]at E;have⟨j,d,hj,m,_⟩:=ZcU (f:=λd:Ga=>d.Id) O
  have C:Zn s x.Id=(j:Int):=hj;refine⟨g x v,j,d,C,m,?_⟩;cases q:Z3 d.Veil emp with
  |true=>rfl
  |false=>
   exfalso;have o:=((Zd0 s j d).1 (h.dr j d m)).2.2.2.2 q;unfold NN at o;simp only[ZSq]at o;have z:d.By=emp:=(Ky _ _).1 o.2.1;have r:=E.2;rw[N,C]at r;have R:XP s (j:Int)=d.By:=by simp[XP,m]
   rw[R,z]at r;rw[M]at r;have h5:Z3 emp e.Id=true:=by simpa using r
   exact p ((Ky _ _).1 h5).symm
 have L:=HA s.Bc e.Lst.l e.Lst.l.length;have S:=Zdz (λd:Ga=>d.Ld) (λ_ _=>rfl) s.Bc e.Lst.l e.Lst.l.length
 have k:=Zep (s:=s) (w:=wk0 s a e) rfl D e.Lst.l.length;have Z:(NY<|wk0 s a e).s={s with Bc:=Yn s.Bc e.Lst.l e.Lst.l.length}:=rfl
 rw[Z];have K:∀id,Zn {s with Bc:=Yn s.Bc e.Lst.l e.Lst.l.length} id=Zn s id:=λid=>Zdc L
 have P:∀j,QN {s with Bc:=Yn s.Bc e.Lst.l e.Lst.l.length} j=QN s j:=by
  intro j;have J:((Yn s.Bc e.Lst.l e.Lst.l.length).map (λd:Ga=>d.Ld))[j.toNat]?=(s.Bc.map (λd:Ga=>d.Ld))[j.toNat]?:=by rw[S]
  rw[ZT7,ZT7]at J;unfold QN;rcases ZbU J with⟨x,y,o,z,r⟩|⟨o,z⟩
  .simp only[o,z,r]
  .simp only[o,z]
 refine⟨h.rg,h.st,h.bu,λi y hy=>?_,λu V=>?_,?_,ZcY h rfl rfl⟩
 .obtain⟨d,n,m,rfl,B⟩:=k i y hy;have b:=h.dr i d m;rw[Zd0]at b⊢;have⟨Q,o2,X,W,o5⟩:=b;refine⟨Q,λid p=>by rw[K];exact o2 id p,X,λq=>?_,λq=>?_⟩
  .have⟨Y,A⟩:=W q;refine⟨Y,?_⟩;rw[Zdm]at A⊢;rcases B with rfl|⟨hv2,_⟩
   .exact A
   .simp only[ZSq]at A⊢;exact⟨A.1,hv2,A.2.2⟩
  .rcases B with rfl|⟨_,hv2⟩
   .exact o5 q
   .rw[show(UP n d).Veil=d.Veil from rfl,hv2]at q;cases q
 .exact Zdv (h.un u V) (λid _=>K id)<|λ_ _ m=>by rw[P];exact m
 .have e1:=Zd8 (s:=s) (t:={s with Bc:=Yn s.Bc e.Lst.l e.Lst.l.length}) rfl rfl rfl L rfl
  rw[e1];exact h.ids
def ZdQ{b:Type}{f:b->Str}{l m:List b}{id:Str}(h:id ∉ l.map f)(n:id∈m.map f):∃(j:Nat)(x:b),look f (l++m) id=(j:Int)/\l.length<=j/\m[j-l.length]?=some x:=by
 have c:id∈(l++m).map f:=by rw[ZSF];exact ZUb _ n
 obtain⟨y,e,rfl⟩:=ZSM.1 c;have⟨j,x,k,a,g⟩:=ZcU<|Ze8 (f:=f) e;have d:l.length<=j:=by
  refine Nat.not_lt.1<|λi=>?_
  rw[ZT2 i]at a;exact h<|by rw[<-g];exact ZTv<|ZSy a
 exact⟨j,x,k,d,by rw[ZTd d]at a;exact a⟩
def ZdR{s:Sta}{d:Ga}(h:d∈s.Bc):d.Id∈Qp s:=by
 unfold Qp;simp only[ZSQ];exact Or.inr<|Or.inr<|Or.inr<|Or.inl<|ZTv h
def Zer{s:Sta}{u:be}(h:u∈s.Nk):u.Id∈Qp s:=by
 unfold Qp;simp only[ZSQ];exact Or.inr<|Or.inr<|Or.inr<|Or.inr<|ZTv h
def Zes{s:Sta}{id:Str}(h:decide (Y1 s id<0)=false):id∈Qp s:=by
 obtain⟨j,x,_,a,rfl⟩:=ZcU (f:=λb:Ev=>b.Id) h
 unfold Qp;simp only[ZSQ];exact Or.inr<|Or.inr<|Or.inl<|ZTv<|ZSy a
def Zet{s:Sta}{id:Str}(h:decide (ZL s id<0)=false):id∈Qp s:=by
 obtain⟨j,x,_,a,rfl⟩:=ZcU (f:=λb:By=>b.Id) h
 unfold Qp;simp only[ZSQ];exact Or.inr<|Or.inl<|ZTv<|ZSy a
def ZdS{s:Sta}{a:Int}{e:Gt}(u:QM a 0 0=true)(w:Q9 e=true){d:Ga}{k:Nat}(h:Vr s k d=true)(B:d.Ld=-1)(C:Z3 d.Veil emp=true)
 {id:Str} {n:HN} {p:Pt} (j:Ha id=false) (o:id ∉ Qp s) (D:YO n=true) (v:gOn p=true) (i:Nat):
 Vr s i (Xl (wk0 s a e) ⟨id,d.Ev,d.By,0,n,p,0,0,⟨false,[]⟩,0,0,emp⟩)=true:=by
 rw[Zd0]at h⊢;have⟨_,_,_,y,_⟩:=h;have⟨m,g⟩:=y C;rw[Zdd]at m;have⟨_,l,q,A⟩:=m;rw[Zdm]at g;rw[ZSq,Zdg]at g;have⟨⟨r,z⟩,_⟩:=g;refine⟨Zd4 u Zd7<|Zd1 w,λx b=>(by cases b),by rfl,λ_=>⟨?_,?_⟩,λc=>?_⟩
 .rw[Zdd];exact⟨rfl,l,q,λ_=>A B⟩
 .rw[Zdm];show(Qv [id,d.Ev,d.By]&&(YO n&&gOn p))=true
  have t:Qv [id,d.Ev,d.By]=true:=by
   rw[Zdg];rw[ZT8]at r;refine⟨?_,λx b=>?_⟩
   .rw[ZT8];refine⟨λf=>?_,r.2⟩
    rcases ZST.1 f with rfl|f
    .exact o<|Zes l
    .rw[ZSL]at f;subst f;exact o<|Zet q
   .rcases ZST.1 b with rfl|b
    .exact j
    .exact z x<|ZT4 _ b
  rw[t,D,v];rfl
 .rw[show Z3 (Xl (wk0 s a e) ⟨id,d.Ev,d.By,0,n,p,0,0,⟨false,[]⟩,0,0,emp⟩).Veil emp=true from rfl]at c;cases c
def ZdT{s:Sta}(h:Prop' s){id:Str}(f:id ∉ Qp s)(d:Ha id=false):∀u∈s.Nk,Qv [u.Id,u.Ga]=true->Qv [u.Id,id]=true:=by
 intro u e b;rw[Zdg]at b⊢;refine⟨?_,λx a=>?_⟩
 .rw[ZT8];refine⟨λc=>?_,by simp⟩
  rw[ZSL]at c;exact f<|c▸Zer e
 .rcases ZST.1 a with rfl|a
  .exact b.2 _<|ZSV ..
  .rw[ZSL]at a;subst a;exact d
def Zeu{s:Sta}{a:Int}{e:Gt}(h:Prop' s)(ha:QM a 0 0=true)(Q:Q9 e=true)(S:e.br=9)(p:Ka (wk0 s a e)=0):Prop' (Kb<|wk0 s a e).s:=by
 have Y:(ZD e.Lst.l.length 2 8&&(Xi e.Lst.l [e.Id]&&Vk e.Lst.l false))=true:=by have:=ZcV Q;rw[ZcW S]at this;exact this
 simp only[ZSq]at Y;have⟨t,u,v⟩:=Y;unfold Xi at u;simp only[ZSq]at u;have⟨hv,R,_⟩:=u;rw[Zdg]at R;have H:(e.Lst.l.map (·.Id)).Nodup:=by
  have:=R.1;rw[show [e.Id]++e.Lst.l.map Yd=e.Id::e.Lst.l.map (·.Id)from rfl,ZT8]at this
  exact this.2
 have E:∀x∈e.Lst.l,Ha x.Id=false:=λx g=>R.2 x.Id<|ZUb _<|ZTv (f:=Yd) g
 have P:∀x∈e.Lst.l,gOn x.bg=true:=λx g=>by
  unfold Vk at v;rw[ZSP,ZTB]at v;have:=v x g;unfold Ux at this;simpa using this
 have ws:(wk0 s a e).s=s:=rfl;have Z:(wk0 s a e).e=e:=rfl;unfold Ka at p;rw[ws,Z]at p;cases B:WO (wk0 s a e) e.Lst.l with
 |false=>rw[B]at p;cases p
 |true=>
 cases L:decide (Zn s e.Id<0)with
 |true=>rw[B,L]at p;cases p
 |false=>
 cases b:QN s (Zn s e.Id) != -1 with
 |true=>rw[B,L,b]at p;cases p
 |false=>
 cases c:Z3 (Vu s<|Zn s e.Id) emp with
 |false=>rw[B,L,b,c]at p;cases p
 |true=>
 have m:∀x∈e.Lst.l,x.Id ∉ Qp s:=λx g=>by
  unfold WO at B;rw[QE]at B;have:=ZSw.1 B x g;exact Zd2<|by simpa using this
 have⟨k,d,hj,C,_⟩:=ZcU (f:=λd:Ga=>d.Id) L
 have A:Zn s e.Id=(k:Int):=hj;have hl:d.Ld=-1:=by
  rw[A]at b;have:QN s (k:Int)=d.Ld:=by simp[QN,C]
  rw[this]at b;exact Zah b
 have G:Z3 d.Veil emp=true:=by
  rw[A]at c;have:Vu s (k:Int)=d.Veil:=by simp[Vu,C]
  rw[this]at c;exact c
 have M:((k:Nat):Int).toNat=k:=by omega
 have ht:Kb (wk0 s a e)=Qf (Y5 (wk0 s a e) d e.Lst.l) k ⟨false,e.Lst.l.map (·.Id)⟩:=by
  unfold Kb;rw[ws,Z,A,M,C]
 rw[ht];have h1:Prop' (Y5 (wk0 s a e) d e.Lst.l).s:=by
  refine ZdL h (λy V i=>?_) ?_<|λy V=>?_
  .obtain⟨x,g,rfl⟩:=ZSM.1 V;exact ZdS ha Q (h.dr k d C) hl G (E x g) (m x g) (ZSw.1 hv x g) (P x g) i
  .rw[ZTm];exact H
  .obtain⟨x,g,rfl⟩:=ZSM.1 V;exact m x g
 have T:=(ZSA.1 C).1;have o:∀id∈e.Lst.l.map (·.Id),∃(j:Nat)(x:Ga),Zn (Y5 (wk0 s a e) d e.Lst.l).s id=(j:Int)/\s.Bc.length<=j/\(e.Lst.l.map<|λx=>Xl (wk0 s a e)<|Hr d x)[j-s.Bc.length]?=some x:=by
  intro id n;obtain⟨z,D,rfl⟩:=ZSM.1 n;refine ZdQ (f:=λd:Ga=>d.Id) (λK=>m z D ?_) ?_
  .have⟨d2,U,O⟩:=ZSM.1 K;rw[<-O];exact ZdR U
  .rw[ZTm];exact ZTv (f:=λx:Ent=>x.Id) D
 have q:=Zd1 Q;refine Zdp (w:=Y5 (wk0 s a e) d e.Lst.l) (k:=k) (x:=d) h1 ?_ q ?_ (λid n=>?_) (λJ=>?_)<|λid r hc=>?_
 .show(s.Bc++_)[k]?=some d
  rw[ZT2 T];exact C
 .show UC (UF e ⟨false,e.Lst.l.map (·.Id)⟩ d)=false
  have e1:exD (UF e ⟨false,e.Lst.l.map (·.Id)⟩ d)=false:=by
   show(e.Day==-1)=false
   exact beq_eq_false_iff_ne.2<|Zd5 q
  have O:((UF e ⟨false,e.Lst.l.map (·.Id)⟩ d).Why==0)=false:=by show(e.br==0)=false;rw[S];rfl
  have e3:He (UF e ⟨false,e.Lst.l.map (·.Id)⟩ d)=true:=by
   unfold He;show(bif e.br==12 then _ else bif e.br==11 then _ else bif e.br==9 then ZD (((e.Lst.l.map (·.Id)).length:Nat):Int) 2 8&&Z3 d.Veil emp else _)=true
   rw[S,ZSs];show(ZD (e.Lst.l.length:Int) 2 8&&Z3 d.Veil emp)=true
   rw[t,G];rfl
  have e4:Jq (UF e ⟨false,e.Lst.l.map (·.Id)⟩ d).After.l=true:=(Zdk _).2 H;unfold UC;rw[e1,O,e3,e4];rfl
 .have⟨j,x,W,X,_⟩:=o id n;rw[W];exact decide_eq_false<|by omega
 .have:e.Lst.l.length=0:=by
   have h5:(e.Lst.l.map (·.Id)).length=0:=by rw[show e.Lst.l.map (·.Id)=[]from J];rfl
   rwa[ZSs]at h5
  rw[this]at t;exact absurd t<|by decide
 .have K:id∈e.Lst.l.map (·.Id):=by rw[show e.Lst.l.map (·.Id)=id::r from hc];exact ZSV ..
  have⟨j,x,W,X,g3⟩:=o id K;have⟨z,D,N⟩:=ZSM.1 K;refine⟨?_,?_⟩
  .rw[W];have g:(Y5 (wk0 s a e) d e.Lst.l).s.Bc[((j:Nat):Int).toNat]?=some x:=by
    rw[show((j:Nat):Int).toNat=j by omega]
    show(s.Bc++_)[j]?=some x
    rw[ZTd X];exact g3
   unfold QN;rw[g];obtain⟨y,_,rfl⟩:=ZSM.1<|ZSy g3;rfl
  .have F:z.Id=id:=N;exact ZdT h (by rw[<-F];exact m z D)<|by rw[<-F];exact E z D
def ZdU{w:Wk}{k:Nat}{x:Ga}{a:NL Str}(b:w.s.Bc[k]?=some x):Qf w k a={w with s:={w.s with Bc:=ZK w.s.Bc k<|UF w.e a,Nk:=UH w.e x.Id a w.s.Nk}}:=by
 unfold Qf;rw[b];rfl
def ZdA{e:Gt}{a:NL Str}{d:Ga}(b:ZD e.Day 0 100000=true)(i:e.br≠0)(g:He (UF e a d)=true)(f:a.l.Nodup):UC (UF e a d)=false:=by
 have j:exD (UF e a d)=false:=by
  show(e.Day==-1)=false
  exact beq_eq_false_iff_ne.2<|Zd5 b
 have h:((UF e a d).Why==0)=false:=by
  show(e.br==0)=false
  exact beq_eq_false_iff_ne.2 i
 have c:Jq (UF e a d).After.l=true:=(Zdk _).2 f;unfold UC;rw[j,h,g,c];rfl
def ZdV{id:Str}{n0:Nat}:∀(l:List Int)(w:Wk),Prop' w.s->w.e.br=10->ZD w.e.Day 0 100000=true->l.Nodup->
 (∀k∈l,0<=k/\k<n0/\∃x:Ga,w.s.Bc[k.toNat]?=some x/\Z3 x.Veil emp=true)->(n0:Int)<=Zn w.s id->QN w.s (Zn w.s id)=-1->
 (∀u∈w.s.Nk,Qv [u.Id,u.Ga]=true->Qv [u.Id,id]=true)->Prop' (Yg w l ⟨false,[id]⟩).s
 |[],w,h,_,_,_,_,_,_,_=>h
 |k::r,w,h,hk,hday,hn,hl,hf,hd,hu=>by
  have⟨J,K,x,A,F⟩:=hl k<|ZSV ..;rw[ZT8]at hn;have C:(⟨false,[id]⟩:NL Str).l=[id]:=rfl;have g:UC (UF w.e ⟨false,[id]⟩ x)=false:=by
   refine ZdA hday (by rw[hk];decide) ?_<|by simp
   unfold He;show(bif w.e.br==12 then _ else bif w.e.br==11 then _ else bif w.e.br==9 then _ else bif w.e.br==10 then(1:Int)==1&&Z3 x.Veil emp else false)=true
   rw[hk];show((1:Int)==1&&Z3 x.Veil emp)=true
   rw[F];rfl
  have E:=Zdp (w:=w) (k:=k.toNat) (x:=x) (a:=⟨false,[id]⟩) h A hday g
   (λi c=>by
    rw[C,ZSL]at c;subst c;exact decide_eq_false<|by omega)
   (λn=>by cases n)
   (λi q n=>by
    have t:[id]=i::q:=n;cases t;exact⟨hd,hu⟩)
  have b:=ZdU (a:=⟨false,[id]⟩) A;have B:Zn (Qf w k.toNat ⟨false,[id]⟩).s id=Zn w.s id:=by
   rw[b];exact Zdc<|FK (λd:Ga=>d.Id) (UF w.e ⟨false,[id]⟩) (λ_=>rfl) _ _
  refine ZdV r (Qf w k.toNat ⟨false,[id]⟩) E (by rw[b];exact hk) (by rw[b];exact hday) hn.2 (λj f=>?_) (by rw[B];exact hf) ?_ ?_
  .have⟨G,D,y,H,m⟩:=hl j<|ZT4 _ f;refine⟨G,D,y,?_,m⟩;rw[b];show(ZK w.s.Bc k.toNat _)[j.toNat]?=some y
   have z:j.toNat≠k.toNat:=by
    intro e;have:j=k:=by omega
    exact hn.1<|this▸f
   rw[Zbz,if_neg z];exact H
  .rw[B,b];refine(ZdO ?_).trans hd;show(ZK w.s.Bc k.toNat _)[(Zn w.s id).toNat]?=_
   rw[Zbz,if_neg<|by omega]
  .rw[b];intro u o c;obtain⟨v,p,rfl⟩:=ZSM.1 o;revert c;unfold XO;cases Z3P x.Id v with
   |false=>exact λc=>hu v p c
   |true=>exact λc=>c
def Zev{s:Sta}{a:Int}{e:Gt}(h:Prop' s)(ha:QM a 0 0=true)(S:Q9 e=true)(hk:e.br=10)(n:Kc (wk0 s a e)=0):Prop' (Kd<|wk0 s a e).s:=by
 have hn:(ZD e.Ids.l.length 2 8&&(Qv (e.Id::e.Ids.l)&&(YO e.An&&gOn e.bg)))=true:=by have:=ZcV S;rw[ZcW hk]at this;exact this
 simp only[ZSq]at hn;have⟨F,o,V,Q⟩:=hn;rw[Zdg,ZT8]at o;have ws:(wk0 s a e).s=s:=rfl;have we:(wk0 s a e).e=e:=rfl;unfold Kc at n;rw[ws,we]at n;cases J:twB (wk0 s a e) e.Id with
 |true=>rw[J]at n;cases n
 |false=>
 cases c2:(Zf<|wk0 s a e).any (λx=>-1==x)with
 |true=>rw[J,c2]at n;cases n
 |false=>
 rw[J,c2,cond_false,cond_false,QE]at n;cases b:(Zf<|wk0 s a e).all (λk=>JG s (XP s<|(Zf<|wk0 s a e).headD 0) k)with
 |false=>rw[b]at n;cases n
 |true=>
 have c:=Zd2 J;have p:∀k∈Zf (wk0 s a e),∃(j:Nat)(x:Ga),k=(j:Int)/\s.Bc[j]?=some x/\x.Ld=-1/\Z3 x.Veil emp=true:=by
  intro k g;have⟨id,H,u⟩:=ZSM.1 g;have Z:Zn s id≠-1:=by
   intro D;have:=ZTB.1 c2 k g;rw[<-u]at this;exact this<|by rw[show Zn (wk0 s a e).s id=-1 from D];rfl
  have hf:decide (Zn s id<0)=false:=by
   cases D:decide (Zn s id<0)with
   |false=>rfl
   |true=>exact absurd (Ze7 (f:=λd:Ga=>d.Id) D) Z
  have⟨j,x,X,M,_⟩:=ZcU (f:=λd:Ga=>d.Id) hf
  have Y:Zn s id=(j:Int):=X;have C:k=(j:Int):=u.symm.trans Y;have B:=ZSw.1 b k g;rw[C]at B;unfold JG at B;have d1:QN s (j:Int)=x.Ld:=by simp[QN,M]
  have d2:Vu s (j:Int)=x.Veil:=by simp[Vu,M]
  rw[d1,d2]at B;simp at B;exact⟨j,x,C,M,B.1.1,B.1.2⟩
 have O:(Zf<|wk0 s a e).Nodup:=by
  have P:∀l:List Str,(∀id∈l,Zn s id∈Zf (wk0 s a e))->l.Nodup->(l.map<|λid=>Zn s id).Nodup:=by
   intro l;induction l with
   |nil=>intro _ _;exact ZUa
   |cons id r ih=>
    intro E w;rw[ZT8]at w;rw[ZSx,ZT8];refine⟨λD=>?_,ih (λi hi=>E i<|ZT4 _ hi) w.2⟩
    have⟨v,t,ab⟩:=ZSM.1 D;have f1:decide (Zn s id<0)=false:=by
     have⟨j,_,C,_⟩:=p _<|E id<|ZSV ..;exact decide_eq_false<|by omega
    have f2:decide (Zn s v<0)=false:=by
     have⟨j,_,C,_⟩:=p _<|E v<|ZT4 _ t;exact decide_eq_false<|by omega
    have⟨j1,x1,g1,R,L⟩:=ZcU (f:=λd:Ga=>d.Id) f1
    have⟨j2,x2,g4,g5,g6⟩:=ZcU (f:=λd:Ga=>d.Id) f2
    have z:Zn s id=(j1:Int):=g1;have ac:Zn s v=(j2:Int):=g4;have C:j1=j2:=by omega
    subst C;rw[R]at g5;cases g5;exact w.1<|(L.symm.trans g6)▸t
  exact P e.Ids.l (λid H=>ZTv (f:=λid=>Zn s id) H) o.1.2
 have G:=Zd1 S;obtain⟨A,r,q⟩:∃A r,Zf (wk0 s a e)=A::r:=by
  cases hA:Zf (wk0 s a e)with
  |cons A r=>exact⟨A,r,rfl⟩
  |nil=>
   exfalso;have h5:e.Ids.l.length=0:=by
    have:(Zf<|wk0 s a e).length=e.Ids.l.length:=ZSs _;rw[<-this,hA];rfl
   rw[h5]at F;exact absurd F<|by decide
 have⟨U,d,ad,hd,hl,W⟩:=p A<|by rw[q];exact ZSV ..
 have N:((Zf<|wk0 s a e).headD 0).toNat=U:=by
  rw[q];show A.toNat=U
  omega
 have ht:Kd (wk0 s a e)=Yg (Qw (wk0 s a e)<|WP (wk0 s a e) d) (Zf<|wk0 s a e) ⟨false,[e.Id]⟩:=by
  unfold Kd;rw[N,ws,hd];rfl
 rw[ht];have X:Prop' (Qw (wk0 s a e)<|WP (wk0 s a e) d).s:=
  Zdx h (λi=>ZdS ha S (h.dr U d hd) hl W (o.2 _<|ZSV ..) c V Q i) J
 have⟨j,x,g1,R,L⟩:=ZdQ (f:=λd:Ga=>d.Id) (l:=s.Bc) (m:=[Xl (wk0 s a e)<|WP (wk0 s a e) d]) (id:=e.Id)
  (λE=>c (by have⟨d2,aa,K⟩:=ZSM.1 E;rw[<-K];exact ZdR aa)) (ZSL.2 rfl)
 have z:Zn (Qw (wk0 s a e)<|WP (wk0 s a e) d).s e.Id=(j:Int):=g1;refine ZdV (n0:=s.Bc.length) (Zf<|wk0 s a e) (Qw (wk0 s a e)<|WP (wk0 s a e) d) X hk G O (λk g=>?_) (by rw[z];omega) ?_<|ZdT h c<|o.2 _<|ZSV ..
 .have⟨i,y,e1,K,_,e4⟩:=p k g;have T:=(ZSA.1 K).1;refine⟨by omega,by omega,y,?_,e4⟩
  show(s.Bc++_)[k.toNat]?=some y
  rw[show k.toNat=i by omega,ZT2 T]
  exact K
 .rw[z];have hx:(Qw (wk0 s a e)<|WP (wk0 s a e) d).s.Bc[((j:Nat):Int).toNat]?=some x:=by
   rw[show((j:Nat):Int).toNat=j by omega]
   show(s.Bc++_)[j]?=some x
   rw[ZTd R];exact L
  unfold QN;rw[hx];have:=ZSy L;rw[ZSL]at this;subst this;rfl
def ZdW(w:Wk)(B:List Ev)(l:List Ga):∀i,Y6 (JH w B) l i=JH (Y6 w l i) B
 |0=>rfl
 |i+1=>by
  have a:=ZdW w B l i;unfold Y6;split
  .rename_i x c;have b:(JH w B).e.Id=w.e.Id:=rfl;rw[b];cases NV w.e.Id x with
   |false=>exact a
   |true=>
    rw[cond_true,cond_true,a];unfold Qf;show(match(Y6 w l i).s.Bc[i]? with|some x=>_|none=>_)=_
    cases(Y6 w l i).s.Bc[i]? with
    |none=>rfl
    |some y=>rfl
  .exact a
def ZdX{w:Wk}(h:Prop' w.s)(C:w.e.br=11)(d:ZD w.e.Day 0 100000=true)(z:w.e.Id≠emp):∀i,
 Prop' (Y6 w w.s.Bc i).s/\(Y6 w w.s.Bc i).e=w.e/\(Y6 w w.s.Bc i).s.Bt=w.s.Bt/\(∀j,i<=j->(Y6 w w.s.Bc i).s.Bc[j]?=w.s.Bc[j]?)/\
 (∀j x,j<i->(Y6 w w.s.Bc i).s.Bc[j]?=some x->x.Ev=w.e.Id->x.Ld≠-1)
 |0=>⟨h,rfl,rfl,λ_ _=>rfl,λj x o=>absurd o<|Nat.not_lt_zero _⟩
 |i+1=>by
  have⟨B,m,D,p,G⟩:=ZdX h C d z i;have u:∀x,w.s.Bc[i]?=some x->Y6 w w.s.Bc (i+1)=bif NV w.e.Id x then Qf (Y6 w w.s.Bc i) i ⟨false,[]⟩else Y6 w w.s.Bc i:=λx l=>by
   show(match w.s.Bc[i]? with|some x=>_|none=>_)=_
   rw[l]
  cases l:w.s.Bc[i]? with
  |none=>
   have K:Y6 w w.s.Bc (i+1)=Y6 w w.s.Bc i:=by
    show(match w.s.Bc[i]? with|some x=>_|none=>_)=_
    rw[l]
   rw[K];refine⟨B,m,D,λj o=>p j (by omega),λj x o n=>?_⟩
   by_cases f:j=i
   .subst f;rw[p j<|ZSr _,l]at n;cases n
   .exact G j x (by omega) n
  |some x=>
   rw[u x l];cases t:NV w.e.Id x with
   |false=>
    rw[cond_false];refine⟨B,m,D,λj o=>p j (by omega),λj y o g A=>?_⟩
    by_cases f:j=i
    .subst f;rw[p j<|ZSr _,l]at g;cases g;intro H;unfold NV at t;rw[A,H,(Ky _ _).2 rfl]at t;cases t
    .exact G j y (by omega) g A
   |true=>
    rw[cond_true];have k:(Y6 w w.s.Bc i).s.Bc[i]?=some x:=by rw[p i<|ZSr _];exact l
    unfold NV at t;rw[ZSq,Ky]at t;have F:Z3 x.Veil emp=true:=by
     cases J:Z3 x.Veil emp with
     |true=>rfl
     |false=>
      exfalso;have q:=((Zd0 _ i x).1 (B.dr i x k)).2.2.2.2 J;unfold NN at q;simp only[ZSq]at q;exact z<|t.1.symm.trans<|(Ky _ _).1 q.1
    have v:UC (UF (Y6 w w.s.Bc i).e ⟨false,[]⟩ x)=false:=by
     rw[m];refine ZdA d (by rw[C];decide) ?_ ZUa
     unfold He;show(bif w.e.br==12 then _ else bif w.e.br==11 then(0:Int)==0&&Z3 x.Veil emp else _)=true
     rw[C];show((0:Int)==0&&Z3 x.Veil emp)=true
     rw[F];rfl
    have b:=ZdU (a:=⟨false,[]⟩) k;refine⟨Zdp B k (by rw[m];exact d) v (λid E=>(by cases E)) (λ_=>Or.inr<|by rw[m];exact C)<|λid r E=>(by cases E),by rw[b];exact m,by rw[b];exact D,λj o=>?_,λj y o g A=>?_⟩
    .rw[b];show(ZK (Y6 w w.s.Bc i).s.Bc i _)[j]?=_
     rw[Zbz,if_neg<|by omega]
     exact p j<|by omega
    .rw[b]at g;have c:(ZK (Y6 w w.s.Bc i).s.Bc i<|UF (Y6 w w.s.Bc i).e ⟨false,[]⟩)[j]?=some y:=g;rw[Zbz]at c;by_cases f:j=i
     .rw[if_pos f,k]at c;cases c;show(Y6 w w.s.Bc i).e.Day≠-1
      rw[m];exact Zd5 d
     .rw[if_neg f]at c;exact G j y (by omega) c A
def Zew{e:Gt}(a:ZD e.Day 0 100000=true){x:Ev}(h:Vq x=true):Vq (Ke e x)=true:=by
 unfold Vq at h⊢;rw[ZdJ]at h⊢;rw[ZSq]at h⊢;refine⟨?_,h.2⟩;have b:=h.1;unfold QM at b⊢;simp only[ZSq]at b⊢;exact⟨b.1,Zde a,b.2.2⟩
def Zex{s:Sta}{a:Int}{e:Gt}(h:Prop' s)(K:Q9 e=true)(M:e.br=11)(r:Hs (wk0 s a e)=0):Prop' (Ht<|wk0 s a e).s:=by
 have N:ZZ e.Id=true:=by have:=ZcV K;rw[ZcW M]at this;exact this
 have D:e.Id≠emp:=by
  intro V;rw[V]at N;exact absurd N<|by decide +kernel
 have l:=Zd1 K;have G:(wk0 s a e).s=s:=rfl;have O:(wk0 s a e).e=e:=rfl;unfold Hs at r;rw[G,O]at r;cases Q:decide (Y1 s e.Id<0)with
 |true=>rw[Q]at r;cases r
 |false=>
 have⟨k,b,Z,R,p⟩:=ZcU (f:=λb:Ev=>b.Id) Q
 have E:Y1 s e.Id=(k:Int):=Z;have⟨Y,h2,S,T,h5⟩:=ZdX (w:=wk0 s a e) h M l D s.Bc.length;have X:Ht (wk0 s a e)=JH (Y6 (wk0 s a e) s.Bc s.Bc.length) (ZK s.Bt k<|Ke e):=by
  unfold Ht;rw[G,O,E,show((k:Nat):Int).toNat=k by omega]
  exact ZdW _ _ _ _
 rw[X];have m:(Y6 (wk0 s a e) s.Bc s.Bc.length).s.Bt=s.Bt:=S;have H:∀(j:Nat)(x:Ga),(Y6 (wk0 s a e) s.Bc s.Bc.length).s.Bc[j]?=some x->x.Ev=e.Id->x.Ld≠-1:=by
  intro j x o B;by_cases C:j<s.Bc.length
  .exact h5 j x C o B
  .have:=T j<|Nat.not_lt.1 C;rw[show(Y6 (wk0 s a e) (wk0 s a e).s.Bc s.Bc.length)=Y6 (wk0 s a e) s.Bc s.Bc.length from rfl,o]at this
   have n:s.Bc[j]?=none:=List.getElem?_eq_none_iff.2<|Nat.not_lt.1 C;rw[G,n]at this;cases this
 have c:Prop' (Y6 (wk0 s a e) s.Bc s.Bc.length).s:=Y;generalize Y6 (wk0 s a e) s.Bc s.Bc.length=w1 at*;have L:(ZK s.Bt k<|Ke e).map (·.Id)=w1.s.Bt.map (·.Id):=by rw[m];exact FK (λx:Ev=>x.Id) (Ke e) (λ_=>rfl) _ _
 refine⟨c.rg,c.st,λx u=>?_,λi d W=>?_,c.un,?_,ZcY c rfl rfl⟩
 .have:=ZSw.1 (ZbB (P:=Vq) (k:=k) (f:=Ke e) (ZSw.2 h.bu)<|λx u=>Zew l u) x u
  exact this
 .have q:w1.s.Bc[i]?=some d:=W;refine Zd6 (c.dr i d q) (λ_ _=>rfl) (λid _=>Zdc L) (λ_ _=>rfl) (λU _ hf g=>?_) (λ_ _ _ h=>h)
  have⟨j,y,g1,z,g3⟩:=ZcU (f:=λb:Ev=>b.Id) hf
  have F:Y1 w1.s d.Ev=(j:Int):=g1;rw[m]at z;have J:j≠k:=by
   intro A;subst A;rw[R]at z;cases z;exact H i d q (g3.symm.trans p) U
  rw[F]at g⊢;unfold WL at g⊢;rw[show((j:Nat):Int).toNat=j by omega]at g⊢
  have v:(JH w1<|ZK s.Bt k<|Ke e).s.Bt[j]?=w1.s.Bt[j]?:=by
   show(ZK s.Bt k<|Ke e)[j]?=_
   rw[Zbz,if_neg J,m]
  rw[v];exact g
 .have v:=Zd8 (s:=w1.s) (t:=(JH w1<|ZK s.Bt k<|Ke e).s) rfl rfl L rfl rfl;rw[v];exact c.ids
def Zey{s:Sta}{a:Int}{e:Gt}(h:Prop' s)(X:Q9 e=true)(G:e.br=12)(m:Hw (wk0 s a e)=0):Prop' (Hy<|wk0 s a e).s:=by
 have l:=Zd1 X;have ws:(wk0 s a e).s=s:=rfl;have U:(wk0 s a e).e=e:=rfl;have p:∀{o c:Int},QM o c 0=true->QM o e.Day 0=true:=λ{o c}h1=>by
  unfold QM at h1⊢;simp only[ZSq]at h1⊢;exact⟨h1.1,Zde l,h1.2.2⟩
 unfold Hw at m;unfold Hy;rw[ws,U]at m⊢;cases c1:Kg s e.Id with
 |true=>
  have B:(ZK s.Fa (Qo s e.Id).toNat<|UL e).map (·.Id)=s.Fa.map (·.Id):=FK (λx:Gk=>x.Id) (UL e) (λ_=>rfl) _ _
  rw[cond_true];refine⟨λx g=>?_,h.st,h.bu,λi d D=>h.dr i d D,h.un,?_,ZcY h rfl rfl⟩
  .refine ZSw.1 (ZbB (P:=Vo) (ZSw.2 h.rg)<|λx g=>?_) x g
   unfold Vo at g⊢;rw[Zdu]at g⊢;rw[ZSq]at g⊢;exact⟨p g.1,g.2⟩
  .have A:=Zd8 (s:=s) (t:=(Hu (wk0 s a e)<|ZK s.Fa (Qo s e.Id).toNat<|UL e).s) B rfl rfl rfl rfl;rw[A];exact h.ids
 |false=>
 rw[c1,cond_false]at m;rw[cond_false];cases F:Kh s e.Id with
 |true=>
  rw[F,cond_true]at m;rw[cond_true];have M:Kf s e.Id=false:=by
   cases C:Kf s e.Id with
   |false=>rfl
   |true=>rw[C]at m;cases m
  unfold Kh at F;rw[ZSq,ZSP]at F;have⟨k,z,O,K,T⟩:=ZcU (f:=λx:By=>x.Id) F.1
  have v:ZL s e.Id=(k:Int):=O;rw[v,show((k:Nat):Int).toNat=k by omega]
  have B:(ZK s.Gm k<|UM e).map (·.Id)=s.Gm.map (·.Id):=FK (λx:By=>x.Id) (UM e) (λ_=>rfl) _ _
  refine⟨h.rg,λx g=>?_,h.bu,λi d D=>?_,h.un,?_,ZcY h rfl rfl⟩
  .refine ZSw.1 (ZbB (P:=Vp) (ZSw.2 h.st)<|λx g=>?_) x g
   unfold Vp at g⊢;rw[ZdI]at g⊢;rw[ZSq]at g⊢;exact⟨p g.1,g.2⟩
  .have E:s.Bc[i]?=some d:=D;refine Zd6 (h.dr i d E) (λ_ _=>rfl) (λ_ _=>rfl) (λid _=>Zdc B) (λ_ _ _ h=>h) (λJ _ hf n=>?_)
   have⟨j,y,q1,S,q3⟩:=ZcU (f:=λx:By=>x.Id) hf
   have Q:ZL s d.By=(j:Int):=q1;have N:j≠k:=by
    intro L;subst L;rw[K]at S;cases S;have W:=ZTB.1 M d<|ZSy E;exact W<|by rw[show Z3 d.By e.Id=true from(Ky _ _).2 (q3.symm.trans T),J];rfl
   rw[Q]at n⊢;unfold QF at n⊢;rw[show((j:Nat):Int).toNat=j by omega]at n⊢
   have A:(Hv (wk0 s a e)<|ZK s.Gm k<|UM e).s.Gm[j]?=s.Gm[j]?:=by
    show(ZK s.Gm k<|UM e)[j]?=_
    rw[Zbz,if_neg N]
   rw[A];exact n
  .have A:=Zd8 (s:=s) (t:=(Hv (wk0 s a e)<|ZK s.Gm k<|UM e).s) rfl B rfl rfl rfl;rw[A];exact h.ids
 |false=>
 rw[F,cond_false]at m;rw[cond_false];cases b:Ki s e.Id with
 |true=>
  rw[cond_true];unfold Ki at b;rw[ZSq,ZSP]at b;have⟨k,x,O,K,T⟩:=ZcU (f:=λx:Ga=>x.Id) b.1
  have v:Zn s e.Id=(k:Int):=O;rw[v,show((k:Nat):Int).toNat=k by omega]
  refine Zdp (w:=wk0 s a e) h K l ?_ (λid C=>(by cases C)) (λ_=>Or.inl G)<|λid r C=>(by cases C)
  refine ZdA l (by rw[U,G];decide) ?_ ZUa
  unfold He;show(bif e.br==12 then(0:Int)==0 else _)=true
  rw[G];rfl
 |false=>
 rw[b,cond_false]at m;rw[cond_false];cases q:UO s e.Id with
 |false=>
  rw[q,cond_false]at m;cases R:twB (wk0 s a e) e.Id&&decide (Y1 s e.Id<0)with
  |true=>rw[R]at m;cases m
  |false=>rw[R]at m;cases m
 |true=>
  have B:(ZK s.Nk (Wf s e.Id).toNat<|UN e).map (·.Id)=s.Nk.map (·.Id):=FK (λx:be=>x.Id) (UN e) (λ_=>rfl) _ _
  refine⟨h.rg,h.st,h.bu,λi d D=>h.dr i d D,λu Y=>?_,?_,ZcY h rfl rfl⟩
  .refine ZSw.1 (ZbB (P:=Vs s) (ZSw.2 h.un)<|λx g=>?_) u Y
   rw[Zdl]at g⊢;have⟨V,H,Z,o4,o5⟩:=g;refine⟨V,?_,Z,λJ=>absurd J<|Zd5 l,λ_=>Or.inl G⟩
   show QM 0 e.Day x.From=true
   unfold QM at H⊢;simp only[ZSq]at H⊢;exact⟨H.1,Zde l,H.2.2⟩
  .have A:=Zd8 (s:=s) (t:=(Qx (wk0 s a e)<|ZK s.Nk (Wf s e.Id).toNat<|UN e).s) rfl rfl rfl rfl B;rw[A];exact h.ids
def itT(s:Sta):Nat->Int->Int
 |0,x=>x
 |n+1,x=>itT s n<|XJ s x
def Zdq(s:Sta):∀n x,itT s (n+1) x=XJ s (itT s n x)
 |0,_=>rfl
 |n+1,x=>Zdq s n<|XJ s x
def Zdh(s:Sta)(m:Nat)(x:Int):∀n,itT s (m+n) x=itT s n (itT s m x)
 |0=>rfl
 |n+1=>by rw[show m+(n+1)=(m+n)+1 by omega,Zdq,Zdh s m x n,Zdq]
def ZdY(s:Sta):∀n x,chN s n x=true↔∃j,j<=n/\itT s j x<0
 |0,x=>by
  unfold chN;rw[ZSP,decide_eq_false_iff_not];exact⟨λh=>⟨0,ZSr _,by show x<0;omega⟩,λ⟨j,b,a⟩=>by
   have:j=0:=by omega
   subst this;have:x<0:=a;omega⟩
 |n+1,x=>by
  unfold chN;cases c:decide (x>=0)with
  |false=>
   rw[cond_false];exact⟨λ_=>⟨0,ZSt _,by have:=of_decide_eq_false c;show x<0;omega⟩,λ_=>rfl⟩
  |true=>
   rw[cond_true,ZdY s n];constructor
   .rintro⟨j,b,a⟩;exact⟨j+1,by omega,a⟩
   .rintro⟨j,b,a⟩;cases j with
    |zero=>
     have:x<0:=a;have:=of_decide_eq_true c;omega
    |succ j=>exact⟨j,by omega,a⟩
def ZdZ:∀(l m:List Int),l.Nodup->(∀x∈l,x∈m)->l.length<=m.length
 |[],m,_,_=>ZSt _
 |a::r,m,h,hs=>by
  rw[ZT8]at h;have b:=hs a<|ZSV ..;have:=ZdZ r (m.erase a) h.2<|λx c=>(List.mem_erase_of_ne<|by rintro rfl;exact h.1 c).2 (hs x<|ZT4 _ c)
  rw[List.length_erase_of_mem b]at this;have d:0<m.length:=ZVb b;rw[ZSG];omega
def least(P:Nat->Prop):∀n,P n->∃m,P m/\∀k,k<m->¬P k:=by
 intro n;induction n using Nat.strongRecOn with
 |_ n d=>
  intro h;by_cases a:∃k,k<n/\P k
  .have⟨k,c,b⟩:=a;exact d k c b
  .exact⟨n,h,λk f e=>a ⟨k,f,e⟩⟩
def Zez(s:Sta){n:Nat}{x:Int}(h:chN s n x=true):chN s (s.Gc.length+1) x=true:=by
 rw[ZdY]at h⊢;have⟨j,_,w⟩:=h;have⟨m,o,a⟩:=least (λj=>itT s j x<0) j w
 refine⟨m,?_,o⟩;have l:((List.range<|m-1).map (λi=>itT s i x)).Nodup:=by
  rw[ZUM,ZTN];refine List.Pairwise.imp_of_mem ?_<|ZUM.1 List.nodup_range;intro i k f v q e;rw[ZUw]at f v;rcases Nat.lt_or_gt_of_ne q with hlt|hlt
  .have c:itT s (k+(m-k)) x=itT s (i+(m-k)) x:=by rw[Zdh,Zdh,e]
   rw[show k+(m-k)=m by omega]at c
   exact a (i+(m-k)) (by omega)<|by rw[<-c];exact o
  .have c:itT s (i+(m-i)) x=itT s (k+(m-i)) x:=by rw[Zdh,Zdh,e]
   rw[show i+(m-i)=m by omega]at c
   exact a (k+(m-i)) (by omega)<|by rw[<-c];exact o
 have d:∀y∈(List.range<|m-1).map (λi=>itT s i x),y∈s.Gc.map (·.b):=by
  intro y t;obtain⟨i,f,rfl⟩:=ZSM.1 t;rw[ZUw]at f;have c:=a (i+1)<|by omega
  rw[Zdq]at c;unfold XJ at c;cases g:s.Gc.find? (λp=>p.b==itT s i x)with
  |none=>rw[g]at c;exact absurd (by decide) c
  |some p=>
   have r:=ZUI g;have u:=ZUm g;rw[<-(by simpa using r:p.b=itT s i x)]
   exact ZTv u
 have:=ZdZ _ _ l d;rw[ZSs,ZSs,ZV7]at this;omega
def Ze0:∀(l:List bf)(K:List Int)(b:Int),(l.foldl (λK p=>Qi Vm K p.b) K).any (Vm b)=true->K.any (Vm b)=true\/∃p∈l,p.b=b
 |[],K,b,h=>Or.inl h
 |p::r,K,b,h=>by
  rw[ZTe]at h;rcases Ze0 r _ b h with h1|⟨q,hq,hb⟩
  .unfold Qi at h1;cases a:K.any (Vm p.b)with
   |true=>rw[a,cond_true]at h1;exact Or.inl h1
   |false=>
    rw[a,cond_false,ZUN,ZTL]at h1;rcases h1 with h1|h1
    .exact Or.inl h1
    .refine Or.inr ⟨p,ZSV ..,?_⟩;unfold Vm at h1;simp at h1;exact h1.symm
  .exact Or.inr ⟨q,ZT4 _ hq,hb⟩
def ZeA{s:Sta}{a:Int}{e:Gt}(h:Prop' s)(Y:Q9 e=true)(hk:e.br=13)(u:Hn (wk0 s a e)=0):Prop' (Ho<|wk0 s a e).s:=by
 have M:K5 e.A e.B=true:=by have:=ZcV Y;rw[ZcW hk]at this;exact this
 have ws:(wk0 s a e).s=s:=rfl;have we:(wk0 s a e).e=e:=rfl;unfold K5 at M;simp only[ZSq]at M;have⟨E,Z,n3⟩:=M;have w0:ZD 0 (-1) 100000=true:=rfl;have H:Y2 ⟨e.A,e.B⟩=true:=by
  show(QM e.A 0 0&&(QM e.B 0 0&&!(e.A==e.B)))=true
  unfold QM;rw[E,Z,w0,Zdf];simpa using n3
 have U:0<=e.A:=by
  unfold ZD at E;simp only[ZSq,decide_eq_true_eq]at E;exact E.1
 unfold Hn at u;rw[ws,we]at u;cases O:decide (XJ s e.B>=0)with
 |true=>rw[O]at u;cases u
 |false=>
 cases Q:WN s e.B (s.Gc.length+2) e.A with
 |true=>rw[O,Q]at u;cases u
 |false=>
 have G:=h.pa;unfold WK at G;simp only[ZSq]at G;have⟨D,S,P⟩:=G;unfold UB at D;rw[Zda]at D;have K:∀q∈s.Gc,Y2 q=true:=by
  intro q f;have⟨j,o⟩:=ZTs.1 f;have:=D j q o;rw[ZSq]at this;exact this.1
 have L:∀q∈s.Gc,0<=q.a:=by
  intro q f;have:=K q f;unfold Y2 QM ZD at this;simp only[ZSq,decide_eq_true_eq]at this;exact this.1.1.1
 have w:∀q∈s.Gc,q.b≠e.B:=by
  intro q f k;have:=of_decide_eq_false O;unfold XJ at this;cases r:s.Gc.find? (λp=>p.b==e.B)with
  |none=>
   have T:=ZU4.1 r q f;exact T<|by rw[k];exact beq_self_eq_true _
  |some p=>
   rw[r]at this;have V:=L p<|ZUm r;exact this V
 have ht:(Ho<|wk0 s a e).s={s with Gc:=s.Gc++[⟨e.A,e.B⟩]}:=rfl
 rw[ht];refine⟨h.rg,h.st,h.bu,λi d hd=>h.dr i d hd,h.un,h.ids,?_⟩
 have C:∀x,XJ {s with Gc:=s.Gc++[⟨e.A,e.B⟩]} x=if x=e.B then e.A else XJ s x:=by
  intro x;show(match(s.Gc++[(⟨e.A,e.B⟩:bf)]).find? (λp:bf=>p.b==x)with|some p=>p.a|none=>-1)=_
  rw[List.find?_append];by_cases g:x=e.B
  .rw[if_pos g];have r:s.Gc.find? (λp=>p.b==x)=none:=by
    rw[ZU4];intro q f c;exact w q f<|by rw[<-g];simpa using c
   rw[r,Option.none_or];have:List.find? (λp:bf=>p.b==x) [⟨e.A,e.B⟩]=some (⟨e.A,e.B⟩:bf):=by
    rw[g];simp
   rw[this]
  .rw[if_neg g];have:List.find? (λp:bf=>p.b==x) [⟨e.A,e.B⟩]=none:=by
    rw[ZU4];intro q f;rw[ZSL]at f;subst f;intro c;exact g (show e.B=x by simpa using c).symm
   rw[this,Option.or_none];rfl
 have R:∀n m x,m<=n->chN s m x=true->WN s e.B (n+1) x=false->∃j,chN {s with Gc:=s.Gc++[⟨e.A,e.B⟩]} j x=true:=by
  intro n;induction n with
  |zero=>
   intro m x W c _;have:m=0:=by omega
   subst this;exact⟨0,c⟩
  |succ n F=>
   intro m x W c t;cases g:decide (x>=0)with
   |false=>exact⟨0,by unfold chN;rw[g];rfl⟩
   |true=>
    unfold WN at t;rw[g,cond_true]at t;cases k:x==e.B with
    |true=>rw[k]at t;cases t
    |false=>
     rw[k,cond_false]at t;cases m with
     |zero=>
      unfold chN at c;rw[g]at c;cases c
     |succ m=>
      unfold chN at c;rw[g,cond_true]at c;have⟨j,o⟩:=F m (XJ s x) (by omega) c t
      refine⟨j+1,?_⟩;unfold chN;rw[g,cond_true,C,if_neg<|by simpa using k]
      exact o
 have v:chN s (s.Gc.length+1) e.A=true:=by
  by_cases z:∃q∈s.Gc,q.b=e.A
  .have⟨q,f,k⟩:=z;have:=ZSw.1 P q f;rw[k]at this;exact this
  .have r:XJ s e.A=-1:=by
    unfold XJ;have:s.Gc.find? (λp=>p.b==e.A)=none:=by
     rw[ZU4];intro q f c;exact z ⟨q,f,by simpa using c⟩
    rw[this]
   unfold chN;rw[r];cases decide (e.A>=0)with
   |false=>rfl
   |true=>
    rw[cond_true];cases s.Gc.length with
    |zero=>rfl
    |succ n=>rfl
 have⟨J,y⟩:=R (s.Gc.length+1) (s.Gc.length+1) e.A (ZSr _) v Q;have X:∀n x,chN s n x=true->∃j,chN {s with Gc:=s.Gc++[⟨e.A,e.B⟩]} j x=true:=by
  intro n;induction n with
  |zero=>intro x c;exact⟨0,c⟩
  |succ n F=>
   intro x c;cases g:decide (x>=0)with
   |false=>exact⟨0,by unfold chN;rw[g];rfl⟩
   |true=>
    by_cases k:x=e.B
    .refine⟨J+1,?_⟩;unfold chN;rw[g,cond_true,C,if_pos k];exact y
    .unfold chN at c;rw[g,cond_true]at c;have⟨j,o⟩:=F _ c;refine⟨j+1,?_⟩;unfold chN;rw[g,cond_true,C,if_neg k];exact o
 unfold WK;simp only[ZSq];refine⟨?_,S,?_⟩
 .unfold UB;rw[Zda];intro j q f;have l:(s.Gc++[⟨e.A,e.B⟩])[j]?=some q:=f;rw[ZSE];by_cases hl:j<s.Gc.length
  .rw[ZT2 hl]at l;have:=D j q l;rw[ZSE]at this;have e1:QV (s.Gc++[⟨e.A,e.B⟩]) j=QV s.Gc j:=by
    unfold QV;rw[ZUS<|by omega]
   show(Y2 q&&!(QV (s.Gc++[⟨e.A,e.B⟩]) j).any (Vm q.b))=true
   rw[e1];exact this
  .rw[ZTd<|by omega]at l
   have:=ZSy l;rw[ZSL]at this;subst this;have o:j=s.Gc.length:=by
    have:=(ZSA.1 l).1;simp at this;omega
   show(Y2 ⟨e.A,e.B⟩&&!(QV (s.Gc++[⟨e.A,e.B⟩]) j).any (Vm e.B))=true
   rw[H,ZSB,ZSP];cases c:(QV (s.Gc++[⟨e.A,e.B⟩]) j).any (Vm e.B)with
   |false=>rfl
   |true=>
    exfalso;unfold QV at c;rw[o,ZUS<|ZSr _,ZSZ]at c;rcases Ze0 _ _ _ c with h1|⟨q,f,k⟩
    .cases h1
    .exact w q f k
 .rw[ZSw];intro q f;have N:∃j,chN {s with Gc:=s.Gc++[⟨e.A,e.B⟩]} j q.b=true:=by
   rcases ZSQ.1 f with h1|h1
   .exact X _ _<|ZSw.1 P q h1
   .rw[ZSL]at h1;subst h1;refine⟨J+1,?_⟩;show chN _ (J+1) e.B=true
    unfold chN;cases decide (e.B>=0)with
    |false=>rfl
    |true=>
     rw[cond_true,C,if_pos rfl];exact y
  have⟨j,o⟩:=N;exact Zez (s:={s with Gc:=s.Gc++[⟨e.A,e.B⟩]}) o
def ZeB{s:Sta}{a:Int}{e:Gt}(g:Jx s=true)(d:QM a 0 0=true)(b:Q9 e=true)(c:Q1 (wk0 s a e)=0):Prop' (stepW<|wk0 s a e).s:=by
 have h:=((Zdb s).1 g).1;have f:e.br=1\/e.br=2\/e.br=3\/e.br=4\/e.br=5\/e.br=6\/e.br=7\/e.br=8\/e.br=9\/e.br=10\/e.br=11\/e.br=12\/e.br=13\/e.br=14\/e.br=15:=by
  unfold Q9 at b;simp only[ZSq]at b;have:=b.1;unfold ZD at this;simp only[ZSq,decide_eq_true_eq]at this;omega
 have i:(wk0 s a e).e=e:=rfl;unfold Q1 at c;unfold stepW;rw[i]at c⊢;rcases f with hk|hk|hk|hk|hk|hk|hk|hk|hk|hk|hk|hk|hk|hk|hk<;>rw[hk]at c⊢
 .exact Zek h g d b hk c
 .exact Zee h d b hk<|Zdo c
 .exact Zen h g b hk
 .exact Zem h g c
 .exact Zef h d b hk<|Zdo c
 .exact Zeh h d b hk c
 .exact Zej h b hk c
 .exact Zeq h b hk c
 .exact Zeu h d b hk c
 .exact Zev h d b hk c
 .exact Zex h b hk c
 .exact Zey h b hk c
 .exact ZeA h b hk c
 .exact Zel h b hk
 .exact Zei h d b hk<|Zdo c
def ZeC{s:Sta}{a:Int}{e:Gt}(h:Qk s a e=0):Jx (ZP s a e)=true:=by
 have⟨i,d,f,g⟩:=ZbV h;have⟨c,b,j⟩:=ZbX i;rw[g,Zdb];exact⟨ZeB c b j d,f⟩
end Go.AM
namespace Go.AM
open Go
def Z4M(E:Env)(b:E.fn 44=some a44)(a:E.sum 44=none)(v:Str):pfn E 44 [.str v]=some (.str v):=by
 rw[Z5 (f:=44) a b];simp only[go_sem,c44]
def ZGM(E:Env)(d:E.fn 46=some a46)(c:E.sum 46=none)(v:Str)(a b:Int):pfn E 46 [.agg [.str v,I a,I b]]=some (.str v):=by
 rw[Z5 (f:=46) c d];simp only[go_sem,c46]
def ZFO(v:Str):pfn e0 179 [.str v]=some (.bool false):=by
 have a:Z3 v v=true:=by unfold Z3;simp
 rw[Z5 (f:=179) rfl rfl];simp only[go_sem,c179,a,ZSI]
def ZEA(a b:Str):WW a b=decide (a.data.toList<b.data.toList):=by
 unfold WW;rw[Go.Proofs.bytesLess_eq]
def ZFP(a b:Str):pfn e0 99 [.str a,.str b]=some (I<|ZEg a.data.toList b.data.toList):=by
 have i:=ZFO a;have e:=ZFO b;unfold ZEg;rw[<-ZEA,<-ZEA];rw[Z5 (f:=99) rfl rfl];cases c:WW a b with
 |true=>simp only[go_sem,c99,i,e,c]
 |false=>
  cases d:WW b a with
  |true=>
   have g:Z3 a b=false:=by
    cases h:Z3 a b with
    |false=>rfl
    |true=>
     exfalso;have j:a.data.toList=b.data.toList:=by unfold Z3 at h;simpa using h
     rw[ZEA,j,decide_eq_true_iff]at d;exact List.lt_irrefl _ d
   simp only[go_sem,c99,i,e,c,g,ZSK,ZTU]
  |false=>
   have g:Z3 a b=true:=by
    rw[ZEA,decide_eq_false_iff_not]at c d;unfold Z3;simp only[beq_iff_eq];exact List.le_antisymm d c
   simp only[go_sem,c99,i,e,c,g,ZSI,ZT9]
def ZEa(k:Nat):AV:=.clo (.func k) [] []
def ZFQ{k:Nat}{a:List AV}(h:ckS k a=true):a=[.iptr false [ZEa k]]:=by
 unfold ckS at h;split at h
 .rw[ZUc h];rfl
 .cases h
def ZR1(a:List AV)(x y:List UInt8)(h:ckS 44 a=true):∃h',fnV e0 98 ([Qd x,Qd y]++a) []=some (.int .i64<|ZEg x y,h'):=by
 obtain rfl:=ZFQ h;have c:=Z4M e0 rfl rfl;have b:=ZFP ⟨x.toArray⟩ ⟨y.toArray⟩;simp only[List.toList_toArray]at b;unfold Qd ZEa;rw[Q6 (f:=98) rfl rfl];simp only[ZSv,ZSz];exact⟨_,by simp only[go_sem,c98,c,b];rfl⟩
def ZE4(s:Str):List Int:=s.data.toList.map λb=>(b.toNat:Int)
def ZEM:∀x y:List UInt8,lexB (x.map λb=>(b.toNat:Int)) (y.map λb=>(b.toNat:Int))=decide (x<y)
 |[],[]=>by simp[lexB]
 |[],_::_=>by simp[lexB]
 |_::_,[]=>by simp[lexB]
 |a::r,b::s=>by
  simp only[ZSx,lexB,ZEM r s];rw[ZUJ];simp only[ZTL,ZSq,decide_eq_true_eq,beq_iff_eq,List.cons_lt_cons_iff,UInt8.lt_iff_toNat_lt,<-UInt8.toNat_inj,Int.ofNat_lt,Int.natCast_inj]
def ZGO(x y:List UInt8):cmpL (x.map λb=>(b.toNat:Int)) (y.map λb=>(b.toNat:Int))=ZEg x y:=by
 unfold cmpL ZEg;rw[ZEM,ZEM]
def ZFR{c:List AV}{x:AV}{k:List Int}(h:ZEm c x=some k):c=[.iptr false [ZEa 46]]/\∃(s:Str)(a b:Int),x=.agg [.str s,I a,I b]/\k=ZE4 s:=by
 unfold ZEm at h;cases d:ckS 46 c with
 |false=>rw[d]at h;cases h
 |true=>
  rw[d,cond_true]at h;refine⟨ZFQ d,?_⟩;unfold ZEf at h;split at h
  .cases h;exact⟨_,_,_,rfl,rfl⟩
  .cases h
def ZR2(c:List AV)(x y:AV)(e d:List Int)(g:ZEm c x=some e)(i:ZEm c y=some d):∃h',fnV e0 101 ([x,y]++c) []=some (.int .i64<|cmpL e d,h'):=by
 obtain⟨rfl,s,a,b,rfl,rfl⟩:=ZFR g;obtain⟨_,t,k,l,rfl,rfl⟩:=ZFR i;have j:=ZGM e0 rfl rfl;have h:=ZFP s t;unfold ZE4 ZEa;rw[ZGO,Q6 (f:=101) rfl rfl];simp only[ZSv,ZSz];exact⟨_,by simp only[go_sem,c101,j,h];rfl⟩
def ZFS{h:Hp}{b:Nat}{o c:AObj}(d:h[b]?=some c):(setH h b o).length=h.length:=by
 have a:b<h.length:=(ZSA.1 d).1;unfold setH;rw[show Nat.blt b h.length=true by simpa using a,cond_true,ZTP]
def ZE5{n:Nat}{fr:Fr}{h:Hp}(a:h.length=n):Xq n fr h=h:=by
 unfold Xq;rw[ZSR<|by omega]
 cases Zd n (fr.map (·.2))&&X4 n h<;>rfl
def ZR3(i:List AV)(h:Hp)(v:AV)(p:Option<|Nat×AObj)(a:ZE8 (ZE7 44) h i=some (v,p)):fnV e1 43 i h=some (v,ZH h p):=by
 unfold ZE8 at a;split at a
 .rename_i b g off m ex r;split at a
  .rename_i sz es o;cases l:es.length==g&&(off==0&&(m==g&&noP r))with
   |false=>rw[l]at a;cases a
   |true=>
    rw[l,cond_true]at a;simp only[ZSD]at a;have⟨es',c,u⟩:=a;cases u;unfold ZE7 at c;split at c
    .rename_i k;cases d:Nat.beq k 44&&(sz==1&&(es.all WB&&Nat.ble es.length 1000000))with
     |false=>rw[d]at c;cases c
     |true=>
      rw[d]at c;cases c;simp only[ZSq,beq_iff_eq]at l d;obtain⟨E,rfl,w,B⟩:=d;obtain rfl:=ZUc E;obtain⟨rfl,rfl,rfl,_⟩:=l;have n:fnV e1 97 [.sl b es.length 0 es.length ex,.clo (.func 98) [] [.iptr false [.clo (.func 44) [] []]]] h=some (.tup [],setH h b<|.row 1<|Yk es):=by
       rw[V8 (s:=ZEt 98<|ckS 44) rfl];unfold ZEt;simp only[o,w,B,beq_self_eq_true,ZSB,ZSW];rfl
      rw[Q6 (f:=43) rfl rfl];simp only[go_sem,c43,n,ZH,ZE5<|ZFS o]
    .cases c
  .cases a
 .rename_i bw ex sz r;cases t:noP r with
  |false=>rw[t]at a;cases a
  |true=>
   rw[t,cond_true]at a;split at a
   .rename_i c;cases a;unfold ZE7 at c;split at c
    .rename_i k;have n:∀sz,fnV e1 97 [.isl bw ex sz [],.clo (.func 98) [] [.iptr false [.clo (.func k) [] []]]] h=some (.tup [],h):=λsz=>by
      rw[V8 (s:=ZEt 98<|ckS 44) rfl];rfl
     rw[Q6 (f:=43) rfl rfl];simp only[go_sem,c43,n,ZH,ZE5 (h:=h) rfl]
    .cases c
   .cases a
 .rename_i b r;split at a
  .rename_i sz e A es C vs _ _ _;cases q:Z4 C&&Z4 vs with
   |false=>rw[q]at a;cases a
   |true=>
    rw[q,cond_true]at a;have j:∀{k:Nat}{x y:List AV}{z:Nat},ZE7 44 (.ptr k 0 0 z::r) sz x=some y->False:=λh=>by
     cases r<;>simp[ZE7]at h
    split at a
    .rename_i D;exact(j D).elim
    .cases a
  .cases a
 .cases a
def ZR4(args:List AV)(h:Hp)(v:AV)(wr:Option<|Nat×AObj)(he:ZE8 (ZEe 46 3 ZEf) h args=some (v,wr)):fnV e1 45 args h=some (v,ZH h wr):=by
 unfold ZE8 at he;split at he
 .rename_i b g off len ex r;split at he
  .rename_i sz es hb;cases hc:es.length==g&&(off==0&&(len==g&&noP r))with
   |false=>rw[hc]at he;cases he
   |true=>
    rw[hc,cond_true]at he;simp only[ZSD]at he;have⟨es',h1,h2⟩:=he;cases h2;unfold ZEe at h1;split at h1
    .rename_i k;split at h1
     .rename_i l hl;cases hc2:Nat.beq k 46&&(sz==3&&(Z4 es&&(es.all Zwl&&(es.all (fits 3)&&(ZvJ l&&Nat.ble es.length 1000000)))))with
      |false=>rw[hc2]at h1;cases h1
      |true=>
       rw[hc2]at h1;cases h1;simp only[ZSq,beq_iff_eq]at hc hc2;obtain⟨c1,rfl,c3,c4,c5,c6,c7⟩:=hc2;obtain rfl:=ZUc c1;obtain⟨rfl,rfl,rfl,_⟩:=hc;have hs:fnV e1 100 [.sl b es.length 0 es.length ex,.clo (.func 101) [] [.iptr false [.clo (.func 46) [] []]]] h=some (.tup [],setH h b (.row 3 ((ZvN l).map (·.2)))):=by
        rw[V8 (s:=ZvW 101 3 ZEm) rfl];unfold ZvW;have hk:keysOf (ZEm [.iptr false [.clo (.func 46) [] []]]) es=some l:=hl;cases es with
        |nil=>
         cases hl;simp only[hb];have e1:setH h b (.row 3 [])=h:=RT hb;exact congrArg some<|Prod.ext rfl e1.symm
        |cons a r=>
         simp only[hb,hk,c3,c4,c5,c6,c7,beq_self_eq_true,ZSB,ZSW,ZV5,cond_false,ZSK];rfl
       rw[Q6 (f:=45) rfl rfl];simp only[go_sem,c45,hs,ZH,ZE5<|ZFS hb]
     .cases h1
    .cases h1
  .cases he
 .rename_i bw ex sz r;cases hn:noP r with
  |false=>rw[hn]at he;cases he
  |true=>
   rw[hn,cond_true]at he;split at he
   .rename_i h1;cases he;unfold ZEe at h1;split at h1
    .rename_i k;have hs:∀sz,fnV e1 100 [.isl bw ex sz [],.clo (.func 101) [] [.iptr false [.clo (.func k) [] []]]] h=some (.tup [],h):=λsz=>by
      rw[V8 (s:=ZvW 101 3 ZEm) rfl];rfl
     rw[Q6 (f:=45) rfl rfl];simp only[go_sem,c45,hs,ZH,ZE5 (h:=h) rfl]
    .cases h1
   .cases he
 .rename_i b r;split at he
  .rename_i sz e sz2 es ks vs _ _ _;cases hk:Z4 ks&&Z4 vs with
   |false=>rw[hk]at he;cases he
   |true=>
    rw[hk,cond_true]at he;have hnone:∀{k:Nat}{x y:List AV}{z:Nat},ZEe 46 3 ZEf (.ptr k 0 0 z::r) sz x=some y->False:=λh=>by
     cases r<;>simp[ZEe]at h
    split at he
    .rename_i hh;exact(hnone hh).elim
    .cases he
  .cases he
 .cases he
variable [REdz]
def ffr(t:AV):Fr:=[(4,.ptr 0 0 0 1),(5,I 0),(7,.ptr 3 0 0 1),(19,t)]
def fP(a:AObj)(D E:List AV)(b:List AObj):List AObj:=
 .row 2 [.agg [Iy 1 [],Iy 3 []]]::.row 1 D::.row 3 E::.row 2 [.agg [.sl 1 D.length 0 D.length false,.sl 2 E.length 0 E.length false]]::a::b
def feL(a:LoopState)(t:AV):AObj:=.loop a .normal (ffr t) [20] c17R0a c17R0b
def ZEp(h:Hp)(x y:AObj):setH (h++[x]) h.length y=h++[y]:=by
 unfold setH;rw[show Nat.blt h.length (h++[x]).length=true by simp,cond_true,ZUP _ _<|ZSr _]
 simp
def ZGS(t:AV)(d:Ga)(b:AObj)(D E:List AV)(a:List AObj):Zb rE c17R0a ((20,d.enc)::ffr t) (fP b D E a)=some (.normal,(8,.ptr (a.length+5) 0 0 1)::(20,d.enc)::ffr t,fP b D E<|a++[.row 16 [d.enc]]):=by
 simp only[go_sem,c17R0a,fP,ffr,Ga.enc,NL.enc,ZSv,ZSG,ZEp]
def ZEx{n:Nat}{h:Hp}{b:Bool}(a:h.length=n):trimB n h b=h:=by
 unfold trimB;cases b with
 |true=>rw[cond_true,ZSR<|by omega]
 |false=>rfl
def ZF2(e d c f g x:AObj)(a:List AObj)(b:Bool):trimB (a.length+1+1+1+1+1+1) (e::d::c::f::g::(a++[x])) b=e::d::c::f::g::(a++[x]):=ZEx<|by simp
def faD(d:Ga)(D:List AV):List AV:=bif decide (d.Ld<0)then D++[.str d.Id]else D
def ZEB(d:Ga):AV:=.agg [.str d.Id,I d.Why,I d.Ld]
def faE(d:Ga)(E:List AV):List AV:=bif !decide (d.Ld<0)&&d.After.l.isEmpty then E++[ZEB d]else E
def ZGT(t:AV)(d:Ga)(n:AObj)(D E:List AV)(e:List AObj)(w:D.length<=1000)(v:E.length<=1000):Zb rE c17R0b ((8,.ptr (e.length+5) 0 0 1)::(20,d.enc)::ffr t) (fP n D E<|e++[.row 16 [d.enc]]) =
 some (.normal,[],fP n (faD d D) (faE d E)<|e++[.row 16 [d.enc]]):=by
 have u:=λ(f o i j:AObj)(e:List AObj)=>XC (h:=f::.row 1 D::o::i::j::e) (fz:=false) (b:=1) (g:=D.length) (sz:=1) (es:=D) (bw:=false) (ex:=false) (ys:=[.str d.Id]) (bytes:=16) (by simp[rowAt]) rfl (by rfl) (by omega) (by omega) (by simp;omega)
 have k:=λ(f p i j:AObj)(e:List AObj)=>XC (h:=f::p::.row 3 E::i::j::e) (fz:=false) (b:=2) (g:=E.length) (sz:=3) (es:=E) (bw:=false) (ex:=false) (ys:=[ZEB d]) (bytes:=32) (by simp[rowAt]) rfl (by rfl) (by omega) (by omega) (by simp;omega)
 unfold ZEB at k;unfold faD faE;cases c:decide (d.Ld<0)with
 |true=>simp only[go_sem,c17R0b,fP,ffr,Ga.enc,NL.enc,ZSv,ZSG,ZF2,c,u,ZSJ,ZT1,ZSI,ZSO]
 |false=>
  cases m:d.After.l with
  |nil=>
   have s:(((0:Nat):Int)==0)=true:=rfl;simp only[go_sem,s,c17R0b,fP,ffr,Ga.enc,NL.enc,ZSv,ZSG,ZF2,c,m,k,ZEB,ZSJ,ZT1,ZSK,ZSB,List.isEmpty_nil,ZSS]
  |cons a r=>
   have q:(((r.length+1:Nat):Int)==0)=false:=by
    rw[beq_eq_false_iff_ne];omega
   simp only[go_sem,c17R0b,fP,ffr,Ga.enc,NL.enc,ZSG,ZF2,c,m,q,ZSJ,ZT1,ZSK,ZSB,ZV5,ZSx,ZSs]
def ZGU(t:AV)(d:Ga)(D E:List AV)(c:List AObj)(f:D.length<=1000)(i:E.length<=1000):
 U4 rE 4 [d.enc] (fP (feL .ready t) D E c)=some (.bool true,fP (feL .ready t) (faD d D) (faE d E)<|c++[.row 16 [d.enc]]):=by
 have h:=Ss (E:=rE) (b:=4) (a:=[d.enc]) (h:=fP (feL .ready t) D E c) (fr:=ffr t) (ps:=[20]) (assign:=c17R0a) (body:=c17R0b)
  (g:=(20,d.enc)::ffr t) rfl rfl (ZGS t d (feL .ready t) D E c) (r:=fP (feL .ready t) D E<|c++[.row 16 [d.enc]]) rfl
  (e:=.normal) (t:=[]) (s:=fP (feL .busy t) (faD d D) (faE d E)<|c++[.row 16 [d.enc]]) (ZGT t d (feL .busy t) D E c f i) rfl
 exact h
def ZDZ(Lv:AV)(L:List Str)(b:List AObj):Prop:=
 ∃a g off ex es,Lv=.sl (a+6) g off L.length ex/\b[a]?=some (.row 1 es)/\es.length=g/\off+L.length=g/\es.drop off=L.map encS
def TC'(a:List AObj):Prop:=∀n,X4 n a=true
def ZEu:∀(n:Nat)(a b:List AObj),X4 n (a++b)=(X4 n a&&X4 n b)
 |_,[],b=>by simp[X4]
 |n,x::a,b=>by simp[X4,ZEu n a b,ZUz]
def ZEN{n:Nat}:∀{a:List AObj}{i:Nat}{x:AObj},X4 n a=true->Zj n x=true->X4 n (a.set i x)=true
 |[],_,_,h,_=>h
 |y::a,0,x,h,hx=>by
  simp only[List.set_cons_zero,X4,ZSq]at h⊢;exact⟨hx,h.2⟩
 |y::a,i+1,x,h,hx=>by
  simp only[List.set_cons_succ,X4,ZSq]at h⊢;exact⟨h.1,ZEN h.2 hx⟩
def ZEv(n:Nat):∀L:List Str,Zd n (L.map encS)=true
 |[]=>rfl
 |x::r=>by simp only[ZSx,Zd,ZEv n r,ZSW];rfl
def ZEC{h:Hp}{b:Nat}{o:AObj}(a:b<h.length):setH h b o=h.set b o:=by
 unfold setH;rw[show Nat.blt b h.length=true by simpa using a,cond_true]
def ZF3(h:Hp)(x:AObj):(h++[x])[h.length]?=some x:=by simp
def ZGV(f h b c i d:AObj){Lv:AV}{L:List Str}{a:List AObj}(x:Str)(C:ZDZ Lv L a)(w:TC' a)(D:L.length<=1000):
 ∃m,m.length=a.length/\TC' m/\ZE9 (f::h::b::c::i::d::a) 1 16 Lv (Iy 1 [.str x]) =
  some (.sl (a.length+6) (L.length+1) 0 (L.length+1) false,f::h::b::c::i::d::(m++[.row 1<|(L++[x]).map encS])):=by
 obtain⟨o,g,off,ex,es,rfl,v,y,p,s⟩:=C;have B:o<a.length:=(ZSA.1 v).1;have l:(f::h::b::c::i::d::a)[o+6]?=some (.row 1 es):=by simpa using v
 have j:(L++[x]).map encS=es.drop off++[.str x]:=by rw[ZSF,s];rfl
 cases ex with
 |true=>
  refine⟨a,rfl,w,?_⟩;have r:Q2 (f::h::b::c::i::d::a) (.sl (o+6) g off L.length true)=some (es.drop off):=by
   simp only[Q2,l,y,beq_self_eq_true,cond_true];rw[ZSR<|by simp;omega]
  have q:Qq (f::h::b::c::i::d::a) 1 (.sl (o+6) g off L.length true)=true:=by simp only[Qq,l];rfl
  have u:(es.drop off++[AV.str x]).length=L.length+1:=by simp;omega
  have t:((es.drop off).length+1)*16<=140737488355328:=by simp;omega
  have A:Qt (f::h::b::c::i::d::a) (f::h::b::c::i::d::a).length false 1 16 (.sl (o+6) g off L.length true) (Iy 1 [.str x]) =
   some (.sl (f::h::b::c::i::d::a).length (es.drop off++[AV.str x]).length 0 (es.drop off++[AV.str x]).length false,[o+6],some ((f::h::b::c::i::d::a).length,.row 1<|es.drop off++[.str x])):=by
   unfold Qt;rw[r];dsimp only[Q2];rw[if_pos ⟨q,rfl,Nat.zero_lt_one,by decide,t⟩]
   rfl
  unfold ZE9;dsimp only;rw[A,j,u];have e:setH (f::h::b::c::i::d::a) (f::h::b::c::i::d::a).length (.row 1<|es.drop off++[.str x])=f::h::b::c::i::d::(a++[.row 1<|es.drop off++[.str x]]):=by
   rw[J1];rfl
  exact congrArg some<|Prod.ext rfl e
 |false=>
  refine⟨a.set o .gone,by simp,λn=>ZEN (w n) rfl,?_⟩
  have q:Qq (f::h::b::c::i::d::a) 1 (Iy 1 [.str x])=true:=rfl;have k:((es.length==g&&(1==1))&&((off+L.length==g)&&(Qq (f::h::b::c::i::d::a) 1 (Iy 1 [.str x])&&(([AV.str x]:List AV).all (fits 1)&&(Nat.blt 0 ([AV.str x]:List AV).length&&(Nat.blt 0 1&&(Nat.blt 0 16&&Nat.ble ((L.length+([AV.str x]:List AV).length)*16) 140737488355328)))))))=true:=by
   simp only[y,p,q,beq_self_eq_true,ZSB,ZSW];have:(L.length+([AV.str x]:List AV).length)*16<=140737488355328:=by simp;omega
   have z:Nat.ble ((L.length+([AV.str x]:List AV).length)*16) 140737488355328=true:=ZTn this;rw[z];rfl
  unfold ZE9;simp only[l,Q2,k,cond_true];rw[ZEC (by simp;omega),j]
  rfl
def wkS(s:List Str×List Str)(x:Str):List Str×List Str:=bif s.1.any (Z3 x)then s else(s.1++[x],s.2++[x])
def ZGW(s:List Str×List Str)(x:Str):(wkS s x).2.length<=s.2.length+1:=by
 unfold wkS;cases s.1.any (Z3 x)<;>simp
def ZF4:∀(l:List Str)(s:List Str×List Str),(l.foldl wkS s).2.length<=s.2.length+l.length
 |[],s=>by simp
 |x::r,s=>by
  have a:=ZF4 r<|wkS s x;have b:=ZGW s x;simp only[ZTe,ZSG];omega
def ZED(d f e g h c:AObj)(a:List AObj)(b:Bool):trimB (a.length+1+1+1+1+1+1) (d::f::e::g::h::c::a) b=d::f::e::g::h::c::a:=ZEx<|by simp
def kM(K:List Str):AObj:=.map (K.map encS)<|ZO K.length
def ZGX(p q k o u:AObj)(G:AV)(ex:Bool)(l:List Str)(d:List Str×List Str)(j:AV)(g:List AObj)(J:ZDZ j d.2 g)(N:TC' g)(hn:d.2.length+l.length<=1000):
 ∃fr' Lv a,Zg rE [0,2,4,5,37,38,39] c96L0b [(0,.yld 4),(2,G),(4,.mp 5),(5,j),(37,.isl false ex 1<|l.map encS),(38,I l.length),(39,I 0)] (p::q::k::o::u::kM d.1::g) =
  some (.exit 2,fr',p::q::k::o::u::kM (l.foldl wkS d).1::a)/\ZDZ Lv (l.foldl wkS d).2 a/\TC' a/\get fr' 0=.yld 4/\get fr' 2=G/\get fr' 4=.mp 5/\get fr' 5=Lv:=by
 have⟨e,fr',h',L,X⟩:=Z9Y (E:=rE) (live:=[0,2,4,5,37,38,39]) (b:=c96L0b) l.length
  (λi fr h=>∃Lv a,fr=[(0,.yld 4),(2,G),(4,.mp 5),(5,Lv),(37,.isl false ex 1<|l.map encS),(38,I l.length),(39,I i)]/\h=p::q::k::o::u::kM ((l.take i).foldl wkS d).1::a/\ZDZ Lv ((l.take i).foldl wkS d).2 a/\TC' a)
  (λe fr h=>e=.exit 2/\∃Lv a,h=p::q::k::o::u::kM (l.foldl wkS d).1::a/\ZDZ Lv (l.foldl wkS d).2 a/\TC' a/\get fr 0=.yld 4/\get fr 2=G/\get fr 4=.mp 5/\get fr 5=Lv)
  (λi fr h m=>by obtain⟨Lv,a,rfl,_⟩:=m;rfl)
  (λi fr h R m=>by
   obtain⟨Lv,a,rfl,rfl,t,A⟩:=m;refine .inl ?_;obtain⟨x,P⟩:∃x,l[i]?=some x:=⟨_,ZSu R⟩;have M:=Z6 (f:=encS) P;have w:=Zh R;have y:=Zx (n:=i)<|by omega
   have hf:(l.take<|i+1).foldl wkS d=wkS ((l.take i).foldl wkS d) x:=Us wkS d P;have r:=ZF4 (l.take i) d;have aa:(l.take i).length<=l.length:=by simp;omega
   rw[hf];generalize(l.take i).foldl wkS d=s at t r⊢;have⟨K,L⟩:=s;have B:=λ(a:List AObj)=>H5 (enc:=encS) (eq:=Z3) Z1Y K x (h:=p::q::k::o::u::.map (K.map encS) (ZO K.length)::a) (b:=5) rfl
   have Q:=λ(a:List AObj)=>Ur (enc:=encS) (eq:=Z3) Z1Y K x (h:=p::q::k::o::u::.map (K.map encS) (ZO K.length)::a) (b:=5) rfl
   have H:L.length<=d.2.length+(l.take i).length:=r;have t:ZDZ Lv L a:=t;unfold encS at B Q M;cases c:K.any (Z3 x)with
   |true=>
    have F:wkS (K,L) x=(K,L):=by unfold wkS;rw[c];rfl
    rw[F];unfold kM encS;refine⟨_,_,by simp only[go_sem,c96L0b,M,w,y,B,c,ZED,ZSI,ZSG]<;>rfl,Lv,a,?_,rfl,t,A⟩
    simp only[go_sem]
   |false=>
    have⟨Z,D,O,C⟩:=ZGV p q k o u (.map ((Qi Z3 K x).map encS)<|ZO (Qi Z3 K x).length) x t A<|by omega
    unfold encS at C;have z:Qi Z3 K x=K++[x]:=by unfold Qi;rw[c];rfl
    have v:decide (a.length+6<a.length+1+1+1+1+1+1)=false:=by simp
    have S:(K++[x]).length=K.length+1:=by simp
    rw[z,S]at C;have F:wkS (K,L) x=(K++[x],L++[x]):=by unfold wkS;rw[c];rfl
    rw[F];unfold kM encS;rw[S];refine⟨_,_,by simp only[go_sem,c96L0b,M,w,y,B,Q,c,z,C,ZED,Z04,v,ZSK,ZU2,ZSO,ZSG]<;>rfl,.sl (a.length+6) (L.length+1) 0 (L.length+1) false,_,?_,rfl,?_,?_⟩
    .simp only[go_sem]
    .refine⟨a.length,L.length+1,0,false,(L++[x]).map encS,by simp,by rw[<-D];exact ZF3 _ _,by simp,by simp,by simp⟩
    .intro n;rw[ZEu,O n];show(true&&(Zj n (.row 1<|(L++[x]).map encS)&&true))=true
     simp only[Zj,ZEv,ZSW])
  (λfr h m=>by
   obtain⟨Lv,a,rfl,rfl,t,A⟩:=m;rw[ZSZ]at t⊢;refine⟨.exit 2,_,_,by simp only[go_sem,c96L0b,ZG,ZED,kM,ZSG]<;>rfl,by simp,rfl,Lv,a,rfl,t,A,?_⟩
   refine⟨?_,?_,?_,?_⟩<;>simp only[go_sem])
  l.length 0 [(0,.yld 4),(2,G),(4,.mp 5),(5,j),(37,.isl false ex 1<|l.map encS),(38,I l.length),(39,I 0)] (p::q::k::o::u::kM d.1::g) (by omega) ⟨j,g,rfl,rfl,J,N⟩
 obtain⟨rfl,Lv,a,rfl,Y,T,U,V,h5,W⟩:=X;exact⟨fr',Lv,a,L,Y,T,U,V,h5,W⟩
end Go.AM
