/- What the functions of the program compute, part 2, for RouteEnds. No condition. -/
import Derived.Test.YtaeppjlndecijabGreatDoorP3a
import Derived.Test.YtaeppjlndecijabGreatDoorQ5
set_option linter.unusedVariables false
set_option linter.defProp false
set_option linter.unusedSimpArgs false
set_option linter.unusedSectionVars false
open Nat renaming reduceAdd → qq, reduceSub → qx, reduceMul → qz, reduceLT → qv, reduceLeDiff → qk, reduceBEq → qy
namespace Go.AM
open Go
variable [REdz]
structure Sta where
 Fa:List Gk
 Gm:List By
 Bt:List Ev
 Bc:List Ga
 Nk:List be
 Gc:List bf
 ba:List bf
abbrev stA(s:Sta):AV:=.agg [.isl false false 6<|s.Fa.map Gk.enc,.isl false false 5<|s.Gm.map By.enc,.isl false false 4<|s.Bt.map Ev.enc,.isl false false 16<|s.Bc.map Ga.enc,
 .isl false false 6 (s.Nk.map be.enc),.isl false false 2<|s.Gc.map bf.enc,.isl false false 2<|s.ba.map bf.enc]
structure StS(s:Sta):Prop where
 regions:s.Fa.length<=1000
 streets:s.Gm.length<=1000
 buildings:s.Bt.length<=1000
 doors:s.Bc.length<=1000
 units:s.Nk.length<=1000
 merged:s.Gc.length<=1000
 rulings:s.ba.length<=1000
def Qo(s:Sta)(id:Str):Int:=Zp (λx:Gk=>Z3 x.Id id) s.Fa 0
def ZL(s:Sta)(id:Str):Int:=Zp (λx:By=>Z3 x.Id id) s.Gm 0
def Y1(s:Sta)(id:Str):Int:=Zp (λx:Ev=>Z3 x.Id id) s.Bt 0
def Zn(s:Sta)(id:Str):Int:=Zp (λx:Ga=>Z3 x.Id id) s.Bc 0
def Wf(s:Sta)(id:Str):Int:=Zp (λx:be=>Z3 x.Id id) s.Nk 0
def NI(s:Sta)(b:StS s)(id:Str):pfn rE 149 [stA s,.str id]=some (I<|Qo s id):=by
 have a:∀x:Gk,pfn rE 266 [x.enc,.iptr false [.str id]]=some (.bool<|Z3 x.Id id):=λx=>by
  rw[Z5 (f:=266) rfl rfl];simp[go_sem,c266,Gk.enc,NL.enc]
 have h1:=WF (E:=rE) (f:=258) (sz:=6) (n:=some 6) (enc:=Gk.enc) (p:=λx=>Z3 x.Id id) (g:=266) (cap:=[.iptr false [.str id]]) rfl rfl rfl s.Fa (by have:=b.regions;omega) (λx _=>x.el) (λx _=>a x) false false
 have h2:pfn rE 265 [.isl false false 6<|s.Fa.map Gk.enc,.clo (.func 266) [] [.iptr false [.str id]]]=some (I<|Qo s id):=by
  rw[Z5 (f:=265) rfl rfl];simp[go_sem,c265,h1];rfl
 rw[Z5 (f:=149) rfl rfl];simp[go_sem,c149,h2]
def K7(s:Sta)(b:StS s)(id:Str):pfn rE 155 [stA s,.str id]=some (I<|ZL s id):=by
 have a:∀x:By,pfn rE 269 [x.enc,.iptr false [.str id]]=some (.bool<|Z3 x.Id id):=λx=>by
  rw[Z5 (f:=269) rfl rfl];simp[go_sem,c269,By.enc,NL.enc]
 have h1:=WF (E:=rE) (f:=335) (sz:=5) (n:=some 5) (enc:=By.enc) (p:=λx=>Z3 x.Id id) (g:=269) (cap:=[.iptr false [.str id]]) rfl rfl rfl s.Gm (by have:=b.streets;omega) (λx _=>x.el) (λx _=>a x) false false
 have h2:pfn rE 268 [.isl false false 5<|s.Gm.map By.enc,.clo (.func 269) [] [.iptr false [.str id]]]=some (I<|ZL s id):=by
  rw[Z5 (f:=268) rfl rfl];simp[go_sem,c268,h1];rfl
 rw[Z5 (f:=155) rfl rfl];simp[go_sem,c155,h2]
def Hb(s:Sta)(b:StS s)(id:Str):pfn rE 162 [stA s,.str id]=some (I<|Y1 s id):=by
 have a:∀x:Ev,pfn rE 272 [x.enc,.iptr false [.str id]]=some (.bool<|Z3 x.Id id):=λx=>by
  rw[Z5 (f:=272) rfl rfl];simp[go_sem,c272,Ev.enc,NL.enc]
 have h1:=WF (E:=rE) (f:=336) (sz:=4) (n:=some 4) (enc:=Ev.enc) (p:=λx=>Z3 x.Id id) (g:=272) (cap:=[.iptr false [.str id]]) rfl rfl rfl s.Bt (by have:=b.buildings;omega) (λx _=>x.el) (λx _=>a x) false false
 have h2:pfn rE 271 [.isl false false 4<|s.Bt.map Ev.enc,.clo (.func 272) [] [.iptr false [.str id]]]=some (I<|Y1 s id):=by
  rw[Z5 (f:=271) rfl rfl];simp[go_sem,c271,h1];rfl
 rw[Z5 (f:=162) rfl rfl];simp only[go_sem,c162,h2]
def find_ok(s:Sta)(b:StS s)(id:Str):pfn rE 103 [stA s,.str id]=some (I<|Zn s id):=by
 have a:∀x:Ga,pfn rE 191 [x.enc,.iptr false [.str id]]=some (.bool<|Z3 x.Id id):=λx=>by
  rw[Z5 (f:=191) rfl rfl];simp[go_sem,c191,Ga.enc,NL.enc]
 have h1:=WF (E:=rE) (f:=279) (sz:=16) (n:=some 16) (enc:=Ga.enc) (p:=λx=>Z3 x.Id id) (g:=191) (cap:=[.iptr false [.str id]]) rfl rfl rfl s.Bc (by have:=b.doors;omega) (λx _=>x.el) (λx _=>a x) false false
 have h2:pfn rE 190 [.isl false false 16<|s.Bc.map Ga.enc,.clo (.func 191) [] [.iptr false [.str id]]]=some (I<|Zn s id):=by
  rw[Z5 (f:=190) rfl rfl];simp[go_sem,c190,h1];rfl
 rw[Z5 (f:=103) rfl rfl];simp[go_sem,c103,h2]
def Z2Q(s:Sta)(b:StS s)(id:Str):pfn rE 177 [stA s,.str id]=some (I<|Wf s id):=by
 have a:∀x:be,pfn rE 281 [x.enc,.iptr false [.str id]]=some (.bool<|Z3 x.Id id):=λx=>by
  rw[Z5 (f:=281) rfl rfl];simp[go_sem,c281,be.enc]
 have h1:=WF (E:=rE) (f:=337) (sz:=6) (n:=some 6) (enc:=be.enc) (p:=λx=>Z3 x.Id id) (g:=281) (cap:=[.iptr false [.str id]]) rfl rfl rfl s.Nk (by have:=b.units;omega) (λx _=>x.el) (λx _=>a x) false false
 have h2:pfn rE 280 [.isl false false 6<|s.Nk.map be.enc,.clo (.func 281) [] [.iptr false [.str id]]]=some (I<|Wf s id):=by
  rw[Z5 (f:=280) rfl rfl];simp[go_sem,c280,h1];rfl
 rw[Z5 (f:=177) rfl rfl];simp[go_sem,c177,h2]
def XJ(s:Sta)(a:Int):Int:=match s.Gc.find? (λp=>p.b==a)with
 |some p=>p.a
 |none=>-1
theorem UA{α:Type}(P:α->Bool):∀(l:List α)(i:Int),(Zp P l i=-1/\l.find? P=none)\/∃(j:Nat)(x:α),Zp P l i=i+j/\l[j]?=some x/\l.find? P=some x
 |[],i=>Or.inl ⟨rfl,rfl⟩
 |y::r,i=>by
  cases h:P y with
  |true=>right;exact⟨0,y,by grind [Zp],by simp,by grind⟩
  |false=>
   rcases UA P r (i+1)with⟨h1,h2⟩|⟨j,x,h1,h2,h3⟩
   .grind [Zp]
   .right;refine⟨j+1,x,?_,by grind,by grind⟩
    simp[Zp,h,h1];omega
def NJ(s:Sta)(l:StS s)(a:Int):pfn rE 180 [stA s,I a]=some (I<|XJ s a):=by
 have m:∀x:bf,pfn rE 284 [x.enc,.iptr false [I a]]=some (.bool<|x.b==a):=λx=>by
  have c:(0<=(1:Int)/\(1:Int)<((2:Nat):Int))=True:=by simp
  have h:((1:Int)).toNat=1:=rfl;rw[Z5 (f:=284) rfl rfl];simp[go_sem,c284,bf.enc,ZXN]
 have h1:=WF (E:=rE) (f:=338) (sz:=2) (n:=some 2) (enc:=bf.enc) (p:=λx=>x.b==a) (g:=284) (cap:=[.iptr false [I a]]) rfl rfl rfl s.Gc (by have:=l.merged;omega) (λx _=>x.el) (λx _=>m x) false false
 have h2:pfn rE 283 [.isl false false 2<|s.Gc.map bf.enc,.clo (.func 284) [] [.iptr false [I a]]]=some (I<|Zp (λx:bf=>x.b==a) s.Gc 0):=by
  rw[Z5 (f:=283) rfl rfl];simp[go_sem,c283,h1]
 rw[Z5 (f:=180) rfl rfl];unfold XJ;rcases UA (λx:bf=>x.b==a) s.Gc 0 with⟨k,d⟩|⟨j,x,k,d,h5⟩
 .rw[d];rw[k]at h2;have i:decide ((-1:Int)>=0)=false:=rfl;simp only[go_sem,c180,h2,i]
 .rw[h5];have e:(0:Int)+(j:Int)=(j:Int):=by omega
  rw[k,e]at h2;have i:decide ((j:Int)>=0)=true:=decide_eq_true<|by omega
  have o:=Z6 (f:=bf.enc) d;have c:(0<=(0:Int)/\(0:Int)<((2:Nat):Int))=True:=by simp
  have h:((0:Int)).toNat=0:=rfl;simp only[go_sem,c180,h2,i,o,bf.enc,c,h,if_true,ZYY]
def Qp(s:Sta):List Str:=s.Fa.map (·.Id)++(s.Gm.map (·.Id)++(s.Bt.map (·.Id)++(s.Bc.map (·.Id)++s.Nk.map (·.Id))))
def Z2R(v:AV)(p:∀n,bel n v=true)(K:List Str)(l:List Gk)(w:l.length<=1000)(y:K.length<=10000):∃fr',Zg rE [1,3,15,16,17] c91L0b [(1,v),(3,.sl 0 K.length 0 K.length false),(15,.isl false false 6<|l.map Gk.enc),(16,I l.length),(17,.int .i64 0)] [.row 1<|K.map encS] =
 some (.exit 0,fr',[.row 1 ((K++l.map (·.Id)).map encS)])/\get fr' 1=v/\get fr' 3=.sl 0 (K.length+l.length) 0 (K.length+l.length) false:=by
 have j:∀n(K:List Str),Zd n (K.map encS)=true:=λn K=>ZN _<|Zw (λt=>rfl) K
 have L:=Y8 (E:=rE) (live:=[1,3,15,16,17]) (b:=c91L0b) l.length (λi=>[(1,v),(3,.sl 0 (K.length+i) 0 (K.length+i) false),(15,.isl false false 6<|l.map Gk.enc),(16,I l.length),(17,I i)])
  (λi=>[.row 1 ((K++(l.take i).map (·.Id)).map encS)]) (λi=>rfl)
  (λi hi=>by
   obtain⟨x,d⟩:∃x,l[i]?=some x:=⟨_,ZXj hi⟩;have m:=Z6 (f:=Gk.enc) d;have c:=Zh hi;have s:=Zx (n:=i)<|by omega
   have u:=YW (λx:Gk=>x.Id) d
   have a:(K++(l.take i).map (·.Id)).length=K.length+i:=by rw[ZXy,ZXg,take_len d]
   have r:(K++(l.take<|i+1).map (·.Id)).map encS=(K++(l.take i).map (·.Id)).map encS++[.str x.Id]:=by
    rw[u,<-ZY0,ZXx];rfl
   rw[r];generalize K++(l.take i).map (·.Id)=KS at a⊢;rw[<-a,<-ZYx,<-a];have k:=λq=>XC (h:=[.row 1<|KS.map encS,q]) (fz:=false) (b:=0) (g:=KS.length) (sz:=1) (es:=KS.map encS) (bw:=false) (ex:=false) (ys:=[.str x.Id]) (bytes:=16) (by simp[rowAt]) rfl (by rfl) (by omega) (by omega) (by grind)
   refine⟨_,by simp only[go_sem,c91L0b,m,c,s,Gk.enc,NL.enc,k,beq_self_eq_true,j,p];rfl,?_⟩
   simp only[go_sem])
  (e:=.exit 0) (by simp only[go_sem,c91L0b,ZG,ZXG];rfl) (by simp)
 have o:K++(l.take 0).map (λx:Gk=>x.Id)=K:=by simp
 rw[o]at L;refine⟨_,L,?_,?_⟩<;>simp only[go_sem]
def Z2S(v:AV)(p:∀n,bel n v=true)(K:List Str)(l:List By)(w:l.length<=1000)(y:K.length<=10000):∃fr',Zg rE [1,3,28,29,30] c91L1b [(1,v),(3,.sl 0 K.length 0 K.length false),(28,.isl false false 5<|l.map By.enc),(29,I l.length),(30,.int .i64 0)] [.row 1<|K.map encS] =
 some (.exit 2,fr',[.row 1 ((K++l.map (·.Id)).map encS)])/\get fr' 1=v/\get fr' 3=.sl 0 (K.length+l.length) 0 (K.length+l.length) false:=by
 have j:∀n(K:List Str),Zd n (K.map encS)=true:=λn K=>ZN _<|Zw (λt=>rfl) K
 have L:=Y8 (E:=rE) (live:=[1,3,28,29,30]) (b:=c91L1b) l.length (λi=>[(1,v),(3,.sl 0 (K.length+i) 0 (K.length+i) false),(28,.isl false false 5<|l.map By.enc),(29,I l.length),(30,I i)])
  (λi=>[.row 1 ((K++(l.take i).map (·.Id)).map encS)]) (λi=>rfl)
  (λi hi=>by
   obtain⟨x,d⟩:∃x,l[i]?=some x:=⟨_,ZXj hi⟩;have m:=Z6 (f:=By.enc) d;have c:=Zh hi;have s:=Zx (n:=i)<|by omega
   have u:=YW (λx:By=>x.Id) d
   have a:(K++(l.take i).map (·.Id)).length=K.length+i:=by rw[ZXy,ZXg,take_len d]
   have r:(K++(l.take<|i+1).map (·.Id)).map encS=(K++(l.take i).map (·.Id)).map encS++[.str x.Id]:=by
    rw[u,<-ZY0,ZXx];rfl
   rw[r];generalize K++(l.take i).map (·.Id)=KS at a⊢;rw[<-a,<-ZYx,<-a];have k:=λq=>XC (h:=[.row 1<|KS.map encS,q]) (fz:=false) (b:=0) (g:=KS.length) (sz:=1) (es:=KS.map encS) (bw:=false) (ex:=false) (ys:=[.str x.Id]) (bytes:=16) (by simp[rowAt]) rfl (by rfl) (by omega) (by omega) (by grind)
   refine⟨_,by simp only[go_sem,c91L1b,m,c,s,By.enc,NL.enc,k,beq_self_eq_true,j,p];rfl,?_⟩
   simp only[go_sem])
  (e:=.exit 2) (by simp only[go_sem,c91L1b,ZG,ZXG];rfl) (by simp)
 have o:K++(l.take 0).map (λx:By=>x.Id)=K:=by simp
 rw[o]at L;refine⟨_,L,?_,?_⟩<;>simp only[go_sem]
def Z2T(v:AV)(p:∀n,bel n v=true)(K:List Str)(l:List Ev)(w:l.length<=1000)(y:K.length<=10000):∃fr',Zg rE [1,3,41,42,43] c91L2b [(1,v),(3,.sl 0 K.length 0 K.length false),(41,.isl false false 4<|l.map Ev.enc),(42,I l.length),(43,.int .i64 0)] [.row 1<|K.map encS] =
 some (.exit 4,fr',[.row 1 ((K++l.map (·.Id)).map encS)])/\get fr' 1=v/\get fr' 3=.sl 0 (K.length+l.length) 0 (K.length+l.length) false:=by
 have j:∀n(K:List Str),Zd n (K.map encS)=true:=λn K=>ZN _<|Zw (λt=>rfl) K
 have L:=Y8 (E:=rE) (live:=[1,3,41,42,43]) (b:=c91L2b) l.length (λi=>[(1,v),(3,.sl 0 (K.length+i) 0 (K.length+i) false),(41,.isl false false 4<|l.map Ev.enc),(42,I l.length),(43,I i)])
  (λi=>[.row 1 ((K++(l.take i).map (·.Id)).map encS)]) (λi=>rfl)
  (λi hi=>by
   obtain⟨x,d⟩:∃x,l[i]?=some x:=⟨_,ZXj hi⟩;have m:=Z6 (f:=Ev.enc) d;have c:=Zh hi;have s:=Zx (n:=i)<|by omega
   have u:=YW (λx:Ev=>x.Id) d
   have a:(K++(l.take i).map (·.Id)).length=K.length+i:=by rw[ZXy,ZXg,take_len d]
   have r:(K++(l.take<|i+1).map (·.Id)).map encS=(K++(l.take i).map (·.Id)).map encS++[.str x.Id]:=by
    rw[u,<-ZY0,ZXx];rfl
   rw[r];generalize K++(l.take i).map (·.Id)=KS at a⊢;rw[<-a,<-ZYx,<-a];have k:=λq=>XC (h:=[.row 1<|KS.map encS,q]) (fz:=false) (b:=0) (g:=KS.length) (sz:=1) (es:=KS.map encS) (bw:=false) (ex:=false) (ys:=[.str x.Id]) (bytes:=16) (by simp[rowAt]) rfl (by rfl) (by omega) (by omega) (by grind)
   refine⟨_,by simp only[go_sem,c91L2b,m,c,s,Ev.enc,NL.enc,k,beq_self_eq_true,j,p];rfl,?_⟩
   simp only[go_sem])
  (e:=.exit 4) (by simp only[go_sem,c91L2b,ZG,ZXG];rfl) (by simp)
 have o:K++(l.take 0).map (λx:Ev=>x.Id)=K:=by simp
 rw[o]at L;refine⟨_,L,?_,?_⟩<;>simp only[go_sem]
def Z2U(v:AV)(p:∀n,bel n v=true)(K:List Str)(l:List Ga)(w:l.length<=1000)(y:K.length<=10000):∃fr',Zg rE [1,3,54,55,56] c91L3b [(1,v),(3,.sl 0 K.length 0 K.length false),(54,.isl false false 16<|l.map Ga.enc),(55,I l.length),(56,.int .i64 0)] [.row 1<|K.map encS] =
 some (.exit 6,fr',[.row 1 ((K++l.map (·.Id)).map encS)])/\get fr' 1=v/\get fr' 3=.sl 0 (K.length+l.length) 0 (K.length+l.length) false:=by
 have j:∀n(K:List Str),Zd n (K.map encS)=true:=λn K=>ZN _<|Zw (λt=>rfl) K
 have L:=Y8 (E:=rE) (live:=[1,3,54,55,56]) (b:=c91L3b) l.length (λi=>[(1,v),(3,.sl 0 (K.length+i) 0 (K.length+i) false),(54,.isl false false 16<|l.map Ga.enc),(55,I l.length),(56,I i)])
  (λi=>[.row 1 ((K++(l.take i).map (·.Id)).map encS)]) (λi=>rfl)
  (λi hi=>by
   obtain⟨x,d⟩:∃x,l[i]?=some x:=⟨_,ZXj hi⟩;have m:=Z6 (f:=Ga.enc) d;have c:=Zh hi;have s:=Zx (n:=i)<|by omega
   have u:=YW (λx:Ga=>x.Id) d
   have a:(K++(l.take i).map (·.Id)).length=K.length+i:=by rw[ZXy,ZXg,take_len d]
   have r:(K++(l.take<|i+1).map (·.Id)).map encS=(K++(l.take i).map (·.Id)).map encS++[.str x.Id]:=by
    rw[u,<-ZY0,ZXx];rfl
   rw[r];generalize K++(l.take i).map (·.Id)=KS at a⊢;rw[<-a,<-ZYx,<-a];have k:=λq=>XC (h:=[.row 1<|KS.map encS,q]) (fz:=false) (b:=0) (g:=KS.length) (sz:=1) (es:=KS.map encS) (bw:=false) (ex:=false) (ys:=[.str x.Id]) (bytes:=16) (by simp[rowAt]) rfl (by rfl) (by omega) (by omega) (by grind)
   refine⟨_,by simp only[go_sem,c91L3b,m,c,s,Ga.enc,NL.enc,k,beq_self_eq_true,j,p];rfl,?_⟩
   simp only[go_sem])
  (e:=.exit 6) (by simp only[go_sem,c91L3b,ZG,ZXG];rfl) (by simp)
 have o:K++(l.take 0).map (λx:Ga=>x.Id)=K:=by simp
 rw[o]at L;refine⟨_,L,?_,?_⟩<;>simp only[go_sem]
def Z2V(v:AV)(y:∀n,bel n v=true)(K:List Str)(l:List be)(u:l.length<=1000)(w:K.length<=10000):∃fr',Zg rE [3,67,68,69] c91L4b [(3,.sl 0 K.length 0 K.length false),(67,.isl false false 6<|l.map be.enc),(68,I l.length),(69,.int .i64 0)] [.row 1<|K.map encS] =
 some (.exit 8,fr',[.row 1 ((K++l.map (·.Id)).map encS)])/\get fr' 3=.sl 0 (K.length+l.length) 0 (K.length+l.length) false:=by
 have j:∀n(K:List Str),Zd n (K.map encS)=true:=λn K=>ZN _<|Zw (λt=>rfl) K
 have L:=Y8 (E:=rE) (live:=[3,67,68,69]) (b:=c91L4b) l.length (λi=>[(3,.sl 0 (K.length+i) 0 (K.length+i) false),(67,.isl false false 6<|l.map be.enc),(68,I l.length),(69,I i)])
  (λi=>[.row 1 ((K++(l.take i).map (·.Id)).map encS)]) (λi=>rfl)
  (λi hi=>by
   obtain⟨x,d⟩:∃x,l[i]?=some x:=⟨_,ZXj hi⟩;have m:=Z6 (f:=be.enc) d;have c:=Zh hi;have r:=Zx (n:=i)<|by omega
   have s:=YW (λx:be=>x.Id) d
   have a:(K++(l.take i).map (·.Id)).length=K.length+i:=by rw[ZXy,ZXg,take_len d]
   have p:(K++(l.take<|i+1).map (·.Id)).map encS=(K++(l.take i).map (·.Id)).map encS++[.str x.Id]:=by
    rw[s,<-ZY0,ZXx];rfl
   rw[p];generalize K++(l.take i).map (·.Id)=KS at a⊢;rw[<-a,<-ZYx,<-a];have k:=λq=>XC (h:=[.row 1<|KS.map encS,q]) (fz:=false) (b:=0) (g:=KS.length) (sz:=1) (es:=KS.map encS) (bw:=false) (ex:=false) (ys:=[.str x.Id]) (bytes:=16) (by simp[rowAt]) rfl (by rfl) (by omega) (by omega) (by grind)
   refine⟨_,by simp only[go_sem,c91L4b,m,c,r,be.enc,k,j];rfl,?_⟩
   simp[go_sem])
  (e:=.exit 8) (by simp only[go_sem,c91L4b,ZG,ZXG];rfl) (by simp)
 have o:K++(l.take 0).map (λx:be=>x.Id)=K:=by simp
 rw[o]at L;refine⟨_,L,?_⟩<;>simp only[go_sem]
def Fd(s:Sta)(b:StS s):pfn rE 91 [stA s]=some (.isl false false 1<|(Qp s).map encS):=by
 have c:∀K:List Str,Z4 (K.map encS)=true:=λK=>Zw (λt=>rfl) K
 have d:∀n(K:List Str),Zd n (K.map encS)=true:=λn K=>ZN _<|c K
 have z:=b.regions;have x:=b.streets;have w:=b.buildings;have r:=b.doors;have y:=b.units;have a:∀n,bel n (.iptr false [.isl false false 6<|s.Fa.map Gk.enc,.isl false false 5<|s.Gm.map By.enc,.isl false false 4<|s.Bt.map Ev.enc,.isl false false 16<|s.Bc.map Ga.enc,.isl false false 6<|s.Nk.map be.enc,.isl false false 2<|s.Gc.map bf.enc,.isl false false 2<|s.ba.map bf.enc])=true:=λn=>rfl
 obtain⟨E,l,q,m⟩:=Z2R _ a [] s.Fa z<|by simp
 obtain⟨F,h1,u,i⟩:=Z2S _ a (s.Fa.map (·.Id)) s.Gm x<|by grind
 obtain⟨C,h2,p,k⟩:=Z2T _ a (s.Fa.map (·.Id)++s.Gm.map (·.Id)) s.Bt w<|by grind
 obtain⟨G,j,v,o⟩:=Z2U _ a ((s.Fa.map (·.Id)++s.Gm.map (·.Id))++s.Bt.map (·.Id)) s.Bc r<|by grind
 obtain⟨D,h,g⟩:=Z2V .bot (λn=>rfl) (((s.Fa.map (·.Id)++s.Gm.map (·.Id))++s.Bt.map (·.Id))++s.Bc.map (·.Id)) s.Nk y<|by grind
 have e:((((s.Fa.map (·.Id)++s.Gm.map (·.Id))++s.Bt.map (·.Id))++s.Bc.map (·.Id))++s.Nk.map (·.Id))=Qp s:=by simp[Qp]
 rw[e]at h;have B:∀K:List Str,List.take K.length (K.map encS)=K.map encS:=λK=>ZXz<|by simp
 have A:(((s.Fa.map (·.Id)++s.Gm.map (·.Id))++s.Bt.map (·.Id))++s.Bc.map (·.Id)).length+s.Nk.length=(Qp s).length:=by grind
 rw[A]at g;rw[Z5 (f:=91) rfl rfl];simp only[ZXg,ZXy,ZXo,ZXK,ZXA,ZXD]at l m h1 i h2 k j o h g;simp only[go_sem,c91,c91L0,c91L1,c91L2,c91L3,c91L4,l,q,m,h1,u,i,h2,p,k,j,v,o,h,g,d,c,beq_self_eq_true,B]
def ffr(t:AV):Fr:=[(4,.ptr 0 0 0 1),(5,I 0),(7,.ptr 3 0 0 1),(19,t)]
def fP(b:AObj)(D E:List AV)(a:List AObj):List AObj:=
 .row 2 [.agg [.isl false false 1 [],.isl false false 3 []]]::.row 1 D::.row 3 E::.row 2 [.agg [.sl 1 D.length 0 D.length false,.sl 2 E.length 0 E.length false]]::b::a
def feL(a:LoopState)(t:AV):AObj:=.loop a .normal (ffr t) [20] c36R0a c36R0b
def ZEp(h:Hp)(x y:AObj):setH (h++[x]) h.length y=h++[y]:=by
 unfold setH;rw[show Nat.blt h.length (h++[x]).length=true by simp,cond_true,ZZf _ _<|ZXh _]
 simp
def ZGS(t:AV)(d:Ga)(b:AObj)(D E:List AV)(a:List AObj):Zb rE c36R0a ((20,d.enc)::ffr t) (fP b D E a)=some (.normal,(8,.ptr (a.length+5) 0 0 1)::(20,d.enc)::ffr t,fP b D E<|a++[.row 16 [d.enc]]):=by
 simp only[go_sem,c36R0a,fP,ffr,Ga.enc,NL.enc,ZXl,ZXw,ZEp]
def ZEx{n:Nat}{h:Hp}{b:Bool}(a:h.length=n):trimB n h b=h:=by
 unfold trimB;cases b with
 |true=>rw[cond_true,ZXz<|by omega]
 |false=>rfl
def ZF2(g f d h e x:AObj)(c:List AObj)(b:Bool):trimB (c.length+1+1+1+1+1+1) (g::f::d::h::e::(c++[x])) b=g::f::d::h::e::(c++[x]):=ZEx<|by simp
def faD(d:Ga)(D:List AV):List AV:=bif decide (d.Ld<0)then D++[.str d.Id]else D
def ZEB(d:Ga):AV:=.agg [.str d.Id,I d.Why,I d.Ld]
def faE(d:Ga)(E:List AV):List AV:=bif !decide (d.Ld<0)&&d.After.l.isEmpty then E++[ZEB d]else E
def ZGT(t:AV)(d:Ga)(n:AObj)(D E:List AV)(e:List AObj)(h1:D.length<=1000)(h2:E.length<=1000):Zb rE c36R0b ((8,.ptr (e.length+5) 0 0 1)::(20,d.enc)::ffr t) (fP n D E<|e++[.row 16 [d.enc]]) =
 some (.normal,[],fP n (faD d D) (faE d E)<|e++[.row 16 [d.enc]]):=by
 have s:=λ(i p j f:AObj)(e:List AObj)=>XC (h:=i::.row 1 D::p::j::f::e) (fz:=false) (b:=1) (g:=D.length) (sz:=1) (es:=D) (bw:=false) (ex:=false) (ys:=[.str d.Id]) (bytes:=16) (by simp[rowAt]) rfl (by rfl) (by omega) (by omega) (by simp;omega)
 have m:=λ(i q j f:AObj)(e:List AObj)=>XC (h:=i::q::.row 3 E::j::f::e) (fz:=false) (b:=2) (g:=E.length) (sz:=3) (es:=E) (bw:=false) (ex:=false) (ys:=[ZEB d]) (bytes:=32) (by simp[rowAt]) rfl (by rfl) (by omega) (by omega) (by simp;omega)
 unfold ZEB at m;unfold faD faE;cases c:decide (d.Ld<0)with
 |true=>simp only[go_sem,c36R0b,fP,ffr,Ga.enc,NL.enc,ZXl,ZXw,ZF2,c,s,ZXy,ZXK,ZXq,ZXm]
 |false=>
  cases k:d.After.l with
  |nil=>
   have o:(((0:Nat):Int)==0)=true:=rfl;simp only[go_sem,o,c36R0b,fP,ffr,Ga.enc,NL.enc,ZXl,ZXw,ZF2,c,k,m,ZEB,ZXy,ZXK,ZXv,ZXk,List.isEmpty_nil,ZXD]
  |cons a r=>
   have u:(((r.length+1:Nat):Int)==0)=false:=by
    rw[beq_eq_false_iff_ne];omega
   simp only[go_sem,c36R0b,fP,ffr,Ga.enc,NL.enc,ZXw,ZF2,c,k,u,ZXy,ZXK,ZXv,ZXk,ZZu,ZXn,ZXg]
def ZGU(t:AV)(d:Ga)(D E:List AV)(a:List AObj)(h1:D.length<=1000)(h2:E.length<=1000):
 U4 rE 4 [d.enc] (fP (feL .ready t) D E a)=some (.bool true,fP (feL .ready t) (faD d D) (faE d E)<|a++[.row 16 [d.enc]]):=by
 have h:=Ss (E:=rE) (b:=4) (args:=[d.enc]) (h:=fP (feL .ready t) D E a) (fr:=ffr t) (ps:=[20]) (assign:=c36R0a) (body:=c36R0b)
  (fr0:=(20,d.enc)::ffr t) rfl rfl (ZGS t d (feL .ready t) D E a) (h1:=fP (feL .ready t) D E<|a++[.row 16 [d.enc]]) rfl
  (e:=.normal) (fr2:=[]) (h2:=fP (feL .busy t) (faD d D) (faE d E)<|a++[.row 16 [d.enc]]) (ZGT t d (feL .busy t) D E a h1 h2) rfl
 exact h
def ZDZ(Lv:AV)(L:List Str)(b:List AObj):Prop:=
 ∃a g off ex es,Lv=.sl (a+6) g off L.length ex/\b[a]?=some (.row 1 es)/\es.length=g/\off+L.length=g/\es.drop off=L.map encS
def TC'(a:List AObj):Prop:=∀n,X4 n a=true
def ZEu:∀(n:Nat)(a b:List AObj),X4 n (a++b)=(X4 n a&&X4 n b)
 |_,[],b=>by simp[X4]
 |n,x::a,b=>by simp[X4,ZEu n a b,Bool.and_assoc]
def ZEN{n:Nat}:∀{a:List AObj}{i:Nat}{x:AObj},X4 n a=true->Zj n x=true->X4 n (a.set i x)=true
 |[],_,_,h,_=>h
 |y::a,0,x,h,hx=>by
  simp only[ZZL,X4,ZXf]at h⊢;exact⟨hx,h.2⟩
 |y::a,i+1,x,h,hx=>by
  simp only[List.set_cons_succ,X4,ZXf]at h⊢;exact⟨h.1,ZEN h.2 hx⟩
def ZEv(n:Nat):∀L:List Str,Zd n (L.map encS)=true
 |[]=>rfl
 |x::r=>by simp only[ZXn,Zd,ZEv n r,ZXC];rfl
theorem ZEC{h:Hp}{b:Nat}{o:AObj}(a:b<h.length):setH h b o=h.set b o:=by
 unfold setH;rw[show Nat.blt b h.length=true by simpa using a,cond_true]
def ZF3(h:Hp)(x:AObj):(h++[x])[h.length]?=some x:=by simp
def ZGV(f h d i c b:AObj){Lv:AV}{L:List Str}{a:List AObj}(x:Str)(B:ZDZ Lv L a)(v:TC' a)(D:L.length<=1000):
 ∃o,o.length=a.length/\TC' o/\ZE9 (f::h::d::i::c::b::a) 1 16 Lv (.isl false false 1 [.str x]) =
  some (.sl (a.length+6) (L.length+1) 0 (L.length+1) false,f::h::d::i::c::b::(o++[.row 1<|(L++[x]).map encS])):=by
 obtain⟨m,g,off,ex,es,rfl,w,y,p,r⟩:=B;have A:m<a.length:=(ZXu.1 w).1;have l:(f::h::d::i::c::b::a)[m+6]?=some (.row 1 es):=by simpa using w
 have j:(L++[x]).map encS=es.drop off++[.str x]:=by rw[ZXx,r];rfl
 cases ex with
 |true=>
  refine⟨a,rfl,v,?_⟩;have s:Q2 (f::h::d::i::c::b::a) (.sl (m+6) g off L.length true)=some (es.drop off):=by
   simp only[Q2,l,y,beq_self_eq_true,cond_true];rw[ZXz<|by simp;omega]
  have t:Qq (f::h::d::i::c::b::a) 1 (.sl (m+6) g off L.length true)=true:=by simp only[Qq,l];rfl
  have q:(es.drop off++[AV.str x]).length=L.length+1:=by simp;omega
  have u:((es.drop off).length+1)*16<=140737488355328:=by simp;omega
  have z:Qt (f::h::d::i::c::b::a) (f::h::d::i::c::b::a).length false 1 16 (.sl (m+6) g off L.length true) (.isl false false 1 [.str x]) =
   some (.sl (f::h::d::i::c::b::a).length (es.drop off++[AV.str x]).length 0 (es.drop off++[AV.str x]).length false,[m+6],some ((f::h::d::i::c::b::a).length,.row 1<|es.drop off++[.str x])):=by
   unfold Qt;rw[s];dsimp only[Q2];rw[if_pos ⟨t,rfl,Nat.zero_lt_one,by decide,u⟩]
   rfl
  unfold ZE9;dsimp only;rw[z,j,q];have e:setH (f::h::d::i::c::b::a) (f::h::d::i::c::b::a).length (.row 1<|es.drop off++[.str x])=f::h::d::i::c::b::(a++[.row 1<|es.drop off++[.str x]]):=by
   rw[J1];rfl
  exact congrArg some<|Prod.ext rfl e
 |false=>
  refine⟨a.set m .gone,by simp,λn=>ZEN (v n) rfl,?_⟩
  have t:Qq (f::h::d::i::c::b::a) 1 (.isl false false 1 [.str x])=true:=rfl;have k:((es.length==g&&(1==1))&&((off+L.length==g)&&(Qq (f::h::d::i::c::b::a) 1 (.isl false false 1 [.str x])&&(([AV.str x]:List AV).all (fits 1)&&(Nat.blt 0 ([AV.str x]:List AV).length&&(Nat.blt 0 1&&(Nat.blt 0 16&&Nat.ble ((L.length+([AV.str x]:List AV).length)*16) 140737488355328)))))))=true:=by
   simp only[y,p,t,beq_self_eq_true,ZXk,ZXC];have:(L.length+([AV.str x]:List AV).length)*16<=140737488355328:=by simp;omega
   have C:Nat.ble ((L.length+([AV.str x]:List AV).length)*16) 140737488355328=true:=ZXH this;rw[C];rfl
  unfold ZE9;simp only[l,Q2,k,cond_true];rw[ZEC (by simp;omega),j]
  rfl
def wkS(s:List Str×List Str)(x:Str):List Str×List Str:=bif s.1.any (Z3 x)then s else(s.1++[x],s.2++[x])
def ZGW(s:List Str×List Str)(x:Str):(wkS s x).2.length<=s.2.length+1:=by
 unfold wkS;cases s.1.any (Z3 x)<;>simp
def ZF4:∀(l:List Str)(s:List Str×List Str),(l.foldl wkS s).2.length<=s.2.length+l.length
 |[],s=>by simp
 |x::r,s=>by
  have h1:=ZF4 r<|wkS s x;have h2:=ZGW s x;simp only[ZY5,ZXw];omega
def ZED(d g c h f e:AObj)(a:List AObj)(b:Bool):trimB (a.length+1+1+1+1+1+1) (d::g::c::h::f::e::a) b=d::g::c::h::f::e::a:=ZEx<|by simp
def kM(K:List Str):AObj:=.map (K.map encS)<|ZO K.length
def ZGX(r t o u k:AObj)(G:AV)(ex:Bool)(l:List Str)(d:List Str×List Str)(j:AV)(g:List AObj)(M:ZDZ j d.2 g)(D:TC' g)(hn:d.2.length+l.length<=1000):
 ∃fr' Lv a,Zg rE [0,2,4,5,37,38,39] c182L0b [(0,.yld 4),(2,G),(4,.mp 5),(5,j),(37,.isl false ex 1<|l.map encS),(38,I l.length),(39,I 0)] (r::t::o::u::k::kM d.1::g) =
  some (.exit 2,fr',r::t::o::u::k::kM (l.foldl wkS d).1::a)/\ZDZ Lv (l.foldl wkS d).2 a/\TC' a/\get fr' 0=.yld 4/\get fr' 2=G/\get fr' 4=.mp 5/\get fr' 5=Lv:=by
 obtain⟨e,fr',h',L,Z⟩:=Z9Y (E:=rE) (live:=[0,2,4,5,37,38,39]) (b:=c182L0b) l.length
  (λi fr h=>∃Lv a,fr=[(0,.yld 4),(2,G),(4,.mp 5),(5,Lv),(37,.isl false ex 1<|l.map encS),(38,I l.length),(39,I i)]/\h=r::t::o::u::k::kM ((l.take i).foldl wkS d).1::a/\ZDZ Lv ((l.take i).foldl wkS d).2 a/\TC' a)
  (λe fr h=>e=.exit 2/\∃Lv a,h=r::t::o::u::k::kM (l.foldl wkS d).1::a/\ZDZ Lv (l.foldl wkS d).2 a/\TC' a/\get fr 0=.yld 4/\get fr 2=G/\get fr 4=.mp 5/\get fr 5=Lv)
  (λi fr h m=>by obtain⟨Lv,a,rfl,_⟩:=m;rfl)
  (λi fr h hi m=>by
   obtain⟨Lv,a,rfl,rfl,p,A⟩:=m;refine .inl ?_;obtain⟨x,R⟩:∃x,l[i]?=some x:=⟨_,ZXj hi⟩;have O:=Z6 (f:=encS) R;have z:=Zh hi;have w:=Zx (n:=i)<|by omega
   have V:(l.take<|i+1).foldl wkS d=wkS ((l.take i).foldl wkS d) x:=Us wkS d R;have q:=ZF4 (l.take i) d;have S:(l.take i).length<=l.length:=by simp;omega
   rw[V];generalize(l.take i).foldl wkS d=s at p q⊢;obtain⟨K,L⟩:=s;have N:=λ(a:List AObj)=>H5 (enc:=encS) (eq:=Z3) Z1Y K x (h:=r::t::o::u::k::.map (K.map encS) (ZO K.length)::a) (b:=5) rfl
   have P:=λ(a:List AObj)=>Ur (enc:=encS) (eq:=Z3) Z1Y K x (h:=r::t::o::u::k::.map (K.map encS) (ZO K.length)::a) (b:=5) rfl
   have B:L.length<=d.2.length+(l.take i).length:=q;have p:ZDZ Lv L a:=p;unfold encS at N P O;cases c:K.any (Z3 x)with
   |true=>
    have F:wkS (K,L) x=(K,L):=by unfold wkS;rw[c];rfl
    rw[F];unfold kM encS;refine⟨_,_,by simp only[go_sem,c182L0b,O,z,w,N,c,ZED,ZXq,ZXw]<;>rfl,Lv,a,?_,rfl,p,A⟩
    simp only[go_sem]
   |false=>
    obtain⟨X,C,J,H⟩:=ZGV r t o u k (.map ((Qi Z3 K x).map encS)<|ZO (Qi Z3 K x).length) x p A<|by omega
    unfold encS at H;have y:Qi Z3 K x=K++[x]:=by unfold Qi;rw[c];rfl
    have v:decide (a.length+6<a.length+1+1+1+1+1+1)=false:=by simp
    have Q:(K++[x]).length=K.length+1:=by simp
    rw[y,Q]at H;have F:wkS (K,L) x=(K++[x],L++[x]):=by unfold wkS;rw[c];rfl
    rw[F];unfold kM encS;rw[Q];refine⟨_,_,by simp only[go_sem,c182L0b,O,z,w,N,P,c,y,H,ZED,Z04,v,ZXv,ZXT,ZXm,ZXw]<;>rfl,.sl (a.length+6) (L.length+1) 0 (L.length+1) false,_,?_,rfl,?_,?_⟩
    .simp only[go_sem]
    .refine⟨a.length,L.length+1,0,false,(L++[x]).map encS,by simp,by rw[<-C];exact ZF3 _ _,by simp,by simp,by simp⟩
    .intro n;rw[ZEu,J n];show(true&&(Zj n (.row 1<|(L++[x]).map encS)&&true))=true
     simp only[Zj,ZEv,ZXC])
  (λfr h m=>by
   obtain⟨Lv,a,rfl,rfl,p,A⟩:=m;rw[ZXG]at p⊢;refine⟨.exit 2,_,_,by simp only[go_sem,c182L0b,ZG,ZED,kM,ZXw]<;>rfl,by simp,rfl,Lv,a,rfl,p,A,?_⟩
   refine⟨?_,?_,?_,?_⟩<;>simp only[go_sem])
  l.length 0 [(0,.yld 4),(2,G),(4,.mp 5),(5,j),(37,.isl false ex 1<|l.map encS),(38,I l.length),(39,I 0)] (r::t::o::u::k::kM d.1::g) (by omega) ⟨j,g,rfl,rfl,M,D⟩
 obtain⟨rfl,Lv,a,rfl,h1,h2,U,Y,T,W⟩:=Z;exact⟨fr',Lv,a,L,h1,h2,U,Y,T,W⟩
def ZGY(d:Ga)(h:Hp):fnV rE 94 [d.enc] h=some (d.After.enc 1 encS,h):=by
 rw[Q6 (f:=94) rfl rfl];simp only[go_sem,c94,Ga.enc,NL.enc,ZE5 (h:=h) rfl]
def grA(s:Sta):AV:=.iptr false<|(stA s).cells++[.clo (.func 94) [] []]
def wfr(s:Sta)(Lv:AV):Fr:=[(0,.yld 4),(2,grA s),(4,.mp 5),(5,Lv)]
def ZFT(n:Nat):decide (((n+1:Nat):Int)>0)=true:=decide_eq_true<|by omega
def ZEO:∀{n k:Nat}{l:List AObj},X4 n l=true->X4 n (l.take k)=true
 |_,0,_,_=>rfl
 |_,_+1,[],h=>h
 |n,k+1,x::r,h=>by
  simp only[X4,ZXf,ZZM]at h⊢;exact⟨h.1,ZEO h.2⟩
def ZGZ{Lv:AV}{L:List Str}{a:List AObj}{n:Nat}(h:ZDZ Lv L a)(d:bel (n+6) Lv=true):ZDZ Lv L (a.take n):=by
 obtain⟨b,g,off,ex,es,rfl,h2,c⟩:=h;refine⟨b,g,off,ex,es,rfl,?_,c⟩;have:b+6<n+6:=by simpa[bel]using d
 rw[ZZt,if_pos<|by omega]
 exact h2
def ZH0{Lv:AV}{L:List Str}{b:List AObj}(h:ZDZ Lv L b)(l:List AObj):ZDZ Lv L (b++l):=by
 obtain⟨c,g,off,ex,es,rfl,h2,d⟩:=h;refine⟨c,g,off,ex,es,rfl,?_,d⟩;rw[ZYw (ZXu.1 h2).1];exact h2
def ZEE{fr:Fr}{G Lv:AV}{L:List Str}(f i d j h g:AObj){b:List AObj}(n:Nat)(e:AExit)(r:get fr 0=.yld 4)(h2:get fr 2=G)(p:get fr 4=.mp 5)(o:get fr 5=Lv)(k:ZDZ Lv L b)(l:TC' b):
 ∃a,kp [0,2,4,5] (n+6) (some (e,fr,f::i::d::j::h::g::b))=some (e,[(0,.yld 4),(2,G),(4,.mp 5),(5,Lv)],f::i::d::j::h::g::a)/\ZDZ Lv L a/\TC' a:=by
 have q:Z2 [0,2,4,5] fr=[(0,.yld 4),(2,G),(4,.mp 5),(5,Lv)]:=by
  show [(0,get fr 0),(2,get fr 2),(4,get fr 4),(5,get fr 5)]=_
  rw[r,h2,p,o]
 rw[Sd,q,Z07];cases c:Zd (n+6) (frV [(0,.yld 4),(2,G),(4,.mp 5),(5,Lv)])&&X4 (n+6) ((f::i::d::j::h::g::b).take (n+6))with
 |false=>exact⟨b,rfl,k,l⟩
 |true=>
  refine⟨b.take n,rfl,ZGZ k ?_,λm=>ZEO<|l m⟩
  simp only[frV,List.map,Zd,ZXf,ZXC]at c;exact c.1.2.2.2
def c71L1m:ACode:=match c182L1b with| .keep _ (.seq _<|.seq (.keep _<|.block _ m) _)=>m|_=>.skip
def c71D:ACode:=match c71L1m with| .seq d _=>d|_=>.skip
def c71Y:ACode:=match c71L1m with| .seq _ (.seq y _)=>y|_=>.skip
def c71Z:ACode:=match c71L1m with| .seq _ (.seq _ z)=>z|_=>.skip
def ZEP(a L:List AObj)(x:AV)(sz:Nat):rowAt (a++.row sz [x]::L) a.length 1=some (sz,[x]):=by
 unfold rowAt;rw[ZYl<|ZXh _,Nat.sub_self];rfl
def ZH1(s:Sta)(P:AObj)(t:AV)(D E:List AV)(K:List Str)(Lv:AV)(id:Str)(r:List Str)(tl:List AObj)(hL:ZDZ Lv (id::r) tl)(k:Nat)(d:Ga)(hd:s.Bc[k]?=some d)
 (hf:pfn rE 103 [stA s,.str id]=some (I k)):
 Zb rE c71D (wfr s Lv++[(16,.bool true)]) (fP P D E<|kM K::tl)=some (.normal,[(0,.yld 4),(2,grA s),(4,.mp 5),(5,Lv),(6,.ptr (tl.length+6) 0 0 1)],fP P D E<|kM K::(tl++[.row 16 [d.enc]])):=by
 obtain⟨bl,g,off,ex,es,rfl,hb,hg1,hg2,hes⟩:=hL;have hlt:bl<tl.length:=(ZXu.1 hb).1;have hr:rowAt tl bl g=some (1,es):=by unfold rowAt;rw[hb];simp only[hg1,beq_self_eq_true,cond_true]
 have hes0:es[off]?=some (.str id):=by
  have:=congrArg List.head? hes;rw[List.head?_drop]at this;exact this
 have hg:=Z6 (f:=Ga.enc) hd;have hk:(0<=(k:Int))=True:=by simp
 have hk2:((k:Int)).toNat=k:=ZY4 k;have z0:((0:Int)).toNat=0:=rfl;have hlen:(id::r).length=r.length+1:=rfl;have hi0:iaP (bl+6) g off 1 0 (r.length+1) (some (1,es))=some (.ptr (bl+6) off 0 g):=VT _ _ _ _ _ _ _ ⟨ZYN _,by omega⟩
 have hne:(tl.length+1+1+1+1+1+1==bl+6)=false:=by rw[beq_eq_false_iff_ne];omega
 have hirr:decide (tl.length+1+1+1+1+1+1<tl.length+1+1+1+1+1+1)=false:=by simp
 simp only[stA]at hf;simp only[Ga.enc,NL.enc]at hg;simp only[go_sem,c71D,c71L1m,c182L1b,wfr,fP,kM,grA,stA,hne,hirr,Ga.enc,NL.enc,hr,ZXw,Z04,ZXT,ZXm,hf,hg,hi0,hes0,ZEp,ZXl]
def ZH2(d g c h f e x y:AObj)(a:List AObj)(b:Bool):trimB (a.length+1+1+1+1+1+1+1) (d::g::c::h::f::e::(a++[x,y])) b=d::g::c::h::f::e::(a++x::bif b then []else [y]):=by
 unfold trimB;cases b with
 |false=>rfl
 |true=>
  simp only[cond_true,ZZM];rw[List.take_append,ZXz<|by omega]
  simp
def ZH3(s:Sta)(t:AV)(D E:List AV)(K:List Str)(Lv:AV)(tl:List AObj)(d:Ga)(h1:D.length<=1000)(h2:E.length<=1000):
 ∃b:Bool,Zb rE c71Y [(0,.yld 4),(2,grA s),(4,.mp 5),(5,Lv),(6,.ptr (tl.length+6) 0 0 1)] (fP (feL .ready t) D E<|kM K::(tl++[.row 16 [d.enc]])) =
  some (.normal,[(0,.yld 4),(2,grA s),(4,.mp 5),(5,Lv),(6,.ptr (tl.length+6) 0 0 1),(33,.bool false)],fP (feL .ready t) (faD d D) (faE d E)<|kM K::(tl++.row 16 [d.enc]::bif b then []else [.row 16 [d.enc]])):=by
 have hy:=ZGU t d D E (kM K::(tl++[.row 16 [d.enc]])) h1 h2;simp only[fP,ZXl,ZXo,ZY0]at hy;simp only[Ga.enc,NL.enc,kM]at hy;apply Exists.intro;simp only[go_sem,S3,c71Y,c71L1m,c182L1b,fP,kM,Ga.enc,NL.enc,ZXw,ZXy,ZXK,ZEP,hy,ZXq,ZH2];rfl
def c71R:ACode:=match c71Z with| .seq r _=>r|_=>.skip
def ZH4(d g c h f e x:AObj)(a L:List AObj)(b:Bool):trimB (a.length+(L.length+1)+1+1+1+1+1+1) (d::g::c::h::f::e::(a++x::L)) b=d::g::c::h::f::e::(a++x::L):=ZEx<|by simp
def ZH5(s:Sta)(P:AObj)(D E:List AV)(K:List Str)(Lv:AV)(tl L:List AObj)(d:Ga):
 Zb rE c71R [(0,.yld 4),(2,grA s),(4,.mp 5),(5,Lv),(6,.ptr (tl.length+6) 0 0 1),(33,.bool false)] (fP P D E<|kM K::(tl++.row 16 [d.enc]::L)) =
  some (.normal,[(0,.yld 4),(2,grA s),(4,.mp 5),(5,Lv),(37,.isl false d.After.ex 1<|d.After.l.map encS),(38,I d.After.l.length),(39,I 0)],fP P D E<|kM K::(tl++.row 16 [d.enc]::L)):=by
 have ha:=λh=>ZGY d h
 simp only[Ga.enc,NL.enc]at ha;simp only[go_sem,c71R,c71Z,c71L1m,c182L1b,fP,kM,grA,stA,Ga.enc,NL.enc,ZXl,ZXo,ZXw,ZEP,ha,ZH4,ZXg]
def ZH6(s:Sta)(t:AV)(D E:List AV)(K:List Str)(Lv:AV)(id:Str)(r:List Str)(tl:List AObj)(hL:ZDZ Lv (id::r) tl)(hc:TC' tl)(k:Nat)(d:Ga)(hd:s.Bc[k]?=some d)
 (hf:pfn rE 103 [stA s,.str id]=some (I k)) (h1:D.length<=1000) (h2:E.length<=1000) (h3:(id::r).length+d.After.l.length<=1000):
 ∃Lv' tl',Zb rE c71L1m (wfr s Lv++[(16,.bool true)]) (fP (feL .ready t) D E<|kM K::tl)=some (.normal,wfr s Lv',fP (feL .ready t) (faD d D) (faE d E)<|kM (d.After.l.foldl wkS (K,id::r)).1::tl')/\
  ZDZ Lv' (d.After.l.foldl wkS (K,id::r)).2 tl'/\TC' tl':=by
 obtain⟨b,hy⟩:=ZH3 s t D E K Lv tl d h1 h2;have hT:TC' (tl++.row 16 [d.enc]::bif b then []else [.row 16 [d.enc]]):=λn=>by
  have e:Zj n (.row 16 [d.enc])=true:=by simp only[Zj,Zd,Ga.enc,NL.enc,bel,ZY3]
  rw[ZEu,hc n];cases b<;>simp only[cond_true,cond_false,X4,e,ZY3]
 generalize(bif b then []else [AObj.row 16 [d.enc]])=X at hy hT;obtain⟨fr',Lv',tl',hin,q1,q2,q3,q4,q5,q6⟩:=ZGX (.row 2 [.agg [.isl false false 1 [],.isl false false 3 []]]) (.row 1<|faD d D) (.row 3<|faE d E) (.row 2 [.agg [.sl 1 (faD d D).length 0 (faD d D).length false,.sl 2 (faE d E).length 0 (faE d E).length false]]) (feL .ready t) (grA s) d.After.ex d.After.l (K,id::r) _ _ (ZH0 hL _) hT h3;obtain⟨tl2,hk,q7,q8⟩:=ZEE (.row 2 [.agg [.isl false false 1 [],.isl false false 3 []]]) (.row 1<|faD d D) (.row 3<|faE d E) (.row 2 [.agg [.sl 1 (faD d D).length 0 (faD d D).length false,.sl 2 (faE d E).length 0 (faE d E).length false]]) (feL .ready t) (kM (d.After.l.foldl wkS (K,id::r)).1) (tl++.row 16 [d.enc]::X).length .normal q3 q4 q5 q6 q1 q2;refine⟨Lv',tl2,?_,q7,q8⟩;show Zb rE (.seq c71D<|.seq c71Y<|.seq c71R<|.keep [0,2,4,5]<|.block 2 c182L0) _ _=_
 rw[SK,ZH1 s (feL .ready t) t D E K Lv id r tl hL k d hd hf,SH,SK,hy,SH,SK,ZH5 s (feL .ready t) (faD d D) (faE d E) K Lv tl X d,SH,Sm,Sl];show kp _ _ (blk 2<|Zg rE [0,2,4,5,37,38,39] c182L0b _ _)=_
 unfold fP;rw[hin];exact hk
def c71A:ACode:=match c182L1b with| .keep _ (.seq a _)=>a|_=>.skip
def c71C:ACode:=match c182L1b with| .keep _ (.seq _<|.seq _<|.keep _ c)=>c|_=>.skip
def ZH7(s:Sta)(P:AObj)(D E:List AV)(K:List Str)(Lv:AV)(id:Str)(r:List Str)(tl:List AObj)(hL:ZDZ Lv (id::r) tl):
 Zb rE c71A (wfr s Lv) (fP P D E<|kM K::tl)=some (.normal,wfr s Lv++[(16,.bool true)],fP P D E<|kM K::tl):=by
 obtain⟨bl,g,off,ex,es,rfl,hb,hg1,hg2,hes⟩:=hL;have hr:rowAt tl bl g=some (1,es):=by unfold rowAt;rw[hb];simp only[hg1,beq_self_eq_true,cond_true]
 have hlen:(id::r).length=r.length+1:=rfl;simp only[go_sem,c71A,c182L1b,wfr,fP,kM,hlen,hr,ZXw,ZFT,ZED,ZXl,ZXo]
def ZH8(s:Sta)(P:AObj)(D E:List AV)(K:List Str)(Lv:AV)(tl:List AObj)(hL:ZDZ Lv [] tl):
 Zb rE c71A (wfr s Lv) (fP P D E<|kM K::tl)=some (.exit 0,wfr s Lv++[(16,.bool false)],fP P D E<|kM K::tl):=by
 obtain⟨bl,g,off,ex,es,rfl,hb,hg1,hg2,hes⟩:=hL;have hr:rowAt tl bl g=some (1,es):=by unfold rowAt;rw[hb];simp only[hg1,beq_self_eq_true,cond_true]
 have hlen:([]:List Str).length=0:=rfl;have h0:decide (((0:Nat):Int)>0)=false:=rfl;simp only[go_sem,c71A,c182L1b,wfr,fP,kM,hlen,hr,ZXw,h0,ZED,ZXl,ZXo]
def ZFU(n:Nat):bounds (some<|.int .i64 1) none none (n+1)=some (1,n+1,none):=by
 have e:bounds (some<|.int .i64 1) none none (n+1)=bif Nat.ble 1 (n+1)&&Nat.ble (n+1) (n+1)&&VB (n+1) (n+1) none then some (1,n+1,none)else none:=rfl;rw[e,ZXH (show 1<=n+1 by omega),ZXH<|ZXh<|n+1]
 rfl
def ZFV{h:Hp}{b g off n:Nat}{ex:Bool}{es:List AV}(a:rowAt h b g=some (1,es)):slF h 1 (.sl b g off (n+1) ex) (some (1,n+1,none))=some (.sl b g (off+1) n ex):=by
 simp only[slF,a,beq_self_eq_true,cond_true,ZXC,Nat.add_sub_cancel]
def ZH9(s:Sta)(P:AObj)(D E:List AV)(K:List Str)(Lv:AV)(id:Str)(r:List Str)(tl:List AObj)(hL:ZDZ Lv (id::r) tl):
 ∃fr Lv',Zb rE c71C (wfr s Lv) (fP P D E<|kM K::tl)=some (.normal,fr,fP P D E<|kM K::tl)/\get fr 0=.yld 4/\get fr 2=grA s/\get fr 4=.mp 5/\get fr 5=Lv'/\ZDZ Lv' r tl:=by
 obtain⟨bl,g,off,ex,es,rfl,hb,hg1,hg2,hes⟩:=hL;have hlen:(id::r).length=r.length+1:=rfl;have hr:rowAt tl bl g=some (1,es):=by unfold rowAt;rw[hb];simp only[hg1,beq_self_eq_true,cond_true]
 refine⟨[(5,.sl (bl+6) g (off+1) r.length ex),(18,.sl (bl+6) g (off+1) r.length ex),(17,.sl (bl+6) g off (r.length+1) ex)]++wfr s (.sl (bl+6) g off (r.length+1) ex),.sl (bl+6) g (off+1) r.length ex,?_,rfl,rfl,rfl,rfl,?_⟩
 .have hs:=ZFV (h:=.row 2 [.agg [.isl false false 1 [],.isl false false 3 []]]::.row 1 D::.row 3 E::.row 2 [.agg [.sl 1 D.length 0 D.length false,.sl 2 E.length 0 E.length false]]::P::.map (K.map encS) (ZO K.length)::tl) (b:=bl+6) (off:=off) (n:=r.length) (ex:=ex) hr;simp only[go_sem,c71C,c182L1b,wfr,fP,kM,hlen,ZFU,hs,ZXl,ZXo]
 .refine⟨bl,g,off+1,ex,es,rfl,hb,hg1,by simp at hg2;omega,?_⟩
  have:=congrArg List.tail hes
  rwa[List.tail_drop]at this
def ZOq(Lv:AV)(L:List Nat)(tl:List AObj):Prop:=
 ∃bl g off ex es,Lv=.sl (bl+2) g off L.length ex/\tl[bl]?=some (.row 1 es)/\es.length=g/\off+L.length=g/\es.drop off=L.map nA
def ZSg(n:Nat):∀L:List Nat,Zd n (L.map nA)=true
 |[]=>rfl
 |x::r=>by simp[Zd,ZSg n r];rfl
def ZUF(p0 p1:AObj){Lv:AV}{L:List Nat}{tl:List AObj}(x:Nat)(hL:ZOq Lv L tl)(hc:TC' tl)(hn:L.length<=100000):
 ∃tl',tl'.length=tl.length/\TC' tl'/\ZE9 (p0::p1::tl) 1 8 Lv (.isl false false 1 [nA x]) =
  some (.sl (tl.length+2) (L.length+1) 0 (L.length+1) false,p0::p1::(tl'++[.row 1<|(L++[x]).map nA])):=by
 obtain⟨bl,g,off,ex,es,rfl,hb,hg,hoff,hes⟩:=hL;have hbb:(p0::p1::tl)[bl+2]?=some (.row 1 es):=by grind
 have hmap:(L++[x]).map nA=es.drop off++[nA x]:=by grind
 cases ex with
 |true=>
  refine⟨tl,rfl,hc,?_⟩;have hel:Q2 (p0::p1::tl) (.sl (bl+2) g off L.length true)=some (es.drop off):=by
   simp[Q2,hbb,hg,cond_true];rw[ZXz<|by grind]
  have hz:Qq (p0::p1::tl) 1 (.sl (bl+2) g off L.length true)=true:=by grind [Qq]
  have hl2:(es.drop off++[nA x]).length=L.length+1:=by grind
  have hbd:((es.drop off).length+1)*8<=140737488355328:=by grind
  have he:Qt (p0::p1::tl) (p0::p1::tl).length false 1 8 (.sl (bl+2) g off L.length true) (.isl false false 1 [nA x]) =
   some (.sl (p0::p1::tl).length (es.drop off++[nA x]).length 0 (es.drop off++[nA x]).length false,[bl+2],some ((p0::p1::tl).length,.row 1<|es.drop off++[nA x])):=by
   unfold Qt;rw[hel];dsimp only[Q2];rw[if_pos ⟨hz,rfl,Nat.zero_lt_one,by decide,hbd⟩]
   rfl
  unfold ZE9;rw[he,hmap,hl2];have e:setH (p0::p1::tl) (p0::p1::tl).length (.row 1<|es.drop off++[nA x])=p0::p1::(tl++[.row 1<|es.drop off++[nA x]]):=by
   grind [J1]
  exact congrArg some<|Prod.ext rfl e
 |false=>
  refine⟨tl.set bl .gone,by simp,λn=>ZEN (hc n) rfl,?_⟩
  have hz:Qq (p0::p1::tl) 1 (.isl false false 1 [nA x])=true:=rfl;have hcond:((es.length==g&&(1==1))&&((off+L.length==g)&&(Qq (p0::p1::tl) 1 (.isl false false 1 [nA x])&&(([nA x]:List AV).all (fits 1)&&(Nat.blt 0 ([nA x]:List AV).length&&(Nat.blt 0 1&&(Nat.blt 0 8&&Nat.ble ((L.length+([nA x]:List AV).length)*8) 140737488355328)))))))=true:=by
   simp only[hg,hoff,hz,beq_self_eq_true,ZXk,ZXC];have:(L.length+([nA x]:List AV).length)*8<=140737488355328:=by grind
   have e2:Nat.ble ((L.length+([nA x]:List AV).length)*8) 140737488355328=true:=ZXH this;rw[e2];rfl
  unfold ZE9;simp only[hbb,Q2,hcond,cond_true]
  grind [ZEC]
def ZPN(p0 p1:AObj)(tl:List AObj)(b:Bool):trimB (tl.length+1+1) (p0::p1::tl) b=p0::p1::tl:=ZEx<|by simp
def gI(l:List Int)(k:Nat):Int:=l.getD k 0
def spS(q:Nat)(s:List Int×List Nat)(k:Nat):List Int×List Nat:=bif gI s.1 k==64 then(s.1.set k<|gI s.1 q+1,s.2++[k])else s
def ZSh(q:Nat)(s:List Int×List Nat)(k:Nat):(spS q s k).2.length<=s.2.length+1/\(spS q s k).1.length=s.1.length:=by grind [spS,gI]
def ZSi(q:Nat):∀(l:List Nat)(s:List Int×List Nat),(l.foldl (spS q) s).2.length<=s.2.length+l.length/\(l.foldl (spS q) s).1.length=s.1.length
 |[],s=>by simp
 |x::r,s=>by
  have h1:=ZSi q r<|spS q s x;have h2:=ZSh q s x;simp[ZXw];omega
def ZPO(l:List Int)(k j:Nat)(v:Int)(hk:k<l.length):gI (l.set k v) j=if k=j then v else gI l j:=by grind [gI]
def ZUG(q:Nat)(s:List Int×List Nat)(k:Nat)(hk:k<s.1.length)(hq:gI s.1 q≠64):gI (spS q s k).1 q=gI s.1 q:=by
 unfold spS;cases h:gI s.1 k==64 with
 |false=>rfl
 |true=>
  show gI (s.1.set k _) q=_
  rw[ZPO _ _ _ _ hk,if_neg]
  grind
def ZSj(q:Nat):∀(l:List Nat)(s:List Int×List Nat),(∀k∈l,k<s.1.length)->gI s.1 q≠64->gI (l.foldl (spS q) s).1 q=gI s.1 q
 |[],s,_,_=>rfl
 |x::r,s,hk,hq=>by
  have h1:=ZUG q s x (hk x ZXV) hq;have h2:=(ZSh q s x).2;rw[ZY5,ZSj q r (spS q s x) (λk h=>by grind) (by grind),h1]
def ZQG(q:Nat)(s:List Int×List Nat)(k:Nat)(r:List Nat)(h:s.2=q::r):∃r',(spS q s k).2=q::r':=by
 grind [spS]
def ZPP(q:Nat):∀(l:List Nat)(s:List Int×List Nat)(r:List Nat),s.2=q::r->∃r',(l.foldl (spS q) s).2=q::r'
 |[],s,r,h=>⟨r,h⟩
 |x::l,s,r,h=>by
  obtain⟨r',h'⟩:=ZQG q s x r h
  simp_all[ZPP]
def f38(A Lv:AV)(lx:Bool)(lk:List Nat)(i:Nat):Fr:=[(0,A),(4,.ptr 0 0 0 1),(5,.ptr 1 0 0 1),(7,Lv),(31,.isl false lx 1<|lk.map nA),(32,I lk.length),(33,I i)]
def h38(p0:AObj)(out:List Int)(tl:List AObj):Hp:=p0::.row 64 [.agg<|out.map I]::tl
def ZUH(A:AV)(lx:Bool)(lk:List Nat)(hk:∀k∈lk,k<64)(hll:lk.length<=1000)(q:Nat)(hq:q<64)(i:Nat)(hi:i<lk.length)(p0:AObj)(hp:∀n,Zj n p0=true)(s:List Int×List Nat)(h64:s.1.length=64)(h1:0<=gI s.1 q)(h2:gI s.1 q<=63)
 (r:List Nat) (hr:s.2=q::r) (Lv:AV) (tl:List AObj) (hL:ZOq Lv s.2 tl) (hc:TC' tl) (hn:s.2.length<=10000):
 ∃fr' Lv' tl',Zb rE c22L1b (f38 A Lv lx lk i) (h38 p0 s.1 tl)=some (.normal,fr',h38 p0 (spS q s lk[i]).1 tl')/\Z2 [0,4,5,7,31,32,33] fr'=f38 A Lv' lx lk (i+1)/\ZOq Lv' (spS q s lk[i]).2 tl'/\TC' tl':=by
 have hx:lk[i]?=some lk[i]:=ZXj hi;have hg:=Z6 (f:=nA) hx;have hxl:=hk _<|ZYA hi;generalize lk[i]=x at hx hg hxl⊢;have hi':=Zh hi;have hw:=Zx (n:=i)<|by omega
 obtain⟨out,L⟩:=s;dsimp only at h64 h1 h2 hr hL hn⊢;have hxb:(0<=(x:Int)/\(x:Int)<((64:Nat):Int))=True:=by grind
 have hqb:(0<=(q:Int)/\(q:Int)<((64:Nat):Int))=True:=by grind
 have hxn:((x:Int)).toNat=x:=rfl;have hqn:((q:Int)).toNat=q:=rfl;have hxd:(out.map I).drop x=I (gI out x)::(out.map I).drop (x+1):=by
  grind [List.drop_eq_getElem_cons,gI]
 have hqd:(out.map I).drop q=I (gI out q)::(out.map I).drop (q+1):=by
  grind [List.drop_eq_getElem_cons,gI]
 have hwq:IntKind.i64.wrap (gI out q+1)=gI out q+1:=YM (by omega)<|by omega
 unfold f38 h38 nA;unfold nA at hg;cases c:gI out x==64 with
 |false=>
  have e:spS q (out,L) x=(out,L):=by grind [spS]
  rw[e];refine⟨_,Lv,tl,by simp only[go_sem,c22L1b,hg,hi',hw,hxb,hxn,hxd,c,ZPN,ZXw,if_true,ZXN,ZXA];rfl,?_,hL,hc⟩
  simp only[go_sem]
 |true=>
  have hx64:gI out x=64:=by grind
  have e:spS q (out,L) x=(out.set x<|gI out q+1,L++[x]):=by grind [spS]
  rw[e];dsimp only;have hset:((out.map I).take x++[I<|gI out q+1]++(out.map I).drop (x+1))=(out.set x<|gI out q+1).map I:=by
   simp_all[ZZ7]
  have hdc:decide (x+1<=out.length)=true:=decide_eq_true<|by omega
  obtain⟨tl',hl',hc',ha⟩:=ZUF p0 (.row 64 [.agg<|(out.set x<|gI out q+1).map I]) x hL hc<|by omega
  obtain⟨bl,g,off,ex,es,rfl,hb,hg1,hg2,hes⟩:=hL;have hlt:bl<tl.length:=(ZXu.1 hb).1;have hrow:rowAt tl bl g=some (1,es):=by simp_all[rowAt]
  have hes0:es[off]?=some (I q):=by
   have:=congrArg List.head? hes;rw[List.head?_drop,hr]at this;exact this
  have hlen:L.length=r.length+1:=by grind
  have hi0:iaP (bl+2) g off 1 0 L.length (some (1,es))=some (.ptr (bl+2) off 0 g):=VT _ _ _ _ _ _ _ ⟨ZYN _,by omega⟩
  have hirr:decide (tl.length+2<tl.length+1+1)=false:=by simp
  unfold nA at ha;refine⟨_,.sl (tl.length+2) (L.length+1) 0 (L.length+1) false,_,by simp only[go_sem,c22L1b,hg,hi',hw,hxb,hxn,hxd,hqb,hqn,hqd,hwq,c,hrow,hi0,hes0,hdc,hset,ha,hirr,ZPN,Z04,ZXT,ZXm,ZXw,if_true,ZXN,ZXA,ZYb,GM,GN];rfl,?_,?_,?_⟩
  .simp only[go_sem]
  .refine⟨tl.length,L.length+1,0,false,(L++[x]).map nA,by simp,by rw[<-hl'];exact ZF3 _ _,by simp,by simp,by simp⟩
  .intro n;rw[ZEu,hc' n];show(true&&(Zj n (.row 1<|(L++[x]).map nA)&&true))=true
   simp only[Zj,ZSg,ZXC]
def ZUI(A:AV)(lx:Bool)(lk:List Nat)(hk:∀k∈lk,k<64)(hll:lk.length<=1000)(q:Nat)(hq:q<64)(p0:AObj)(hp:∀n,Zj n p0=true)(s:List Int×List Nat)(h64:s.1.length=64)(h1:0<=gI s.1 q)(h2:gI s.1 q<=63)
 (r:List Nat) (hr:s.2=q::r) (Lv:AV) (tl:List AObj) (hL:ZOq Lv s.2 tl) (hc:TC' tl) (hn:s.2.length+lk.length<=10000):
 ∃fr' Lv' tl',Zg rE [0,4,5,7,31,32,33] c22L1b (f38 A Lv lx lk 0) (h38 p0 s.1 tl)=some (.exit 4,fr',h38 p0 (lk.foldl (spS q) s).1 tl')/\ZOq Lv' (lk.foldl (spS q) s).2 tl'/\TC' tl'/\get fr' 0=A/\get fr' 4=.ptr 0 0 0 1/\get fr' 5=.ptr 1 0 0 1/\get fr' 7=Lv':=by
 obtain⟨e,fr',h',L,hQ⟩:=Z9Y (E:=rE) (live:=[0,4,5,7,31,32,33]) (b:=c22L1b) lk.length
  (λi fr h=>∃Lv tl,fr=f38 A Lv lx lk i/\h=h38 p0 ((lk.take i).foldl (spS q) s).1 tl/\ZOq Lv ((lk.take i).foldl (spS q) s).2 tl/\TC' tl)
  (λe fr h=>e=.exit 4/\∃Lv tl,h=h38 p0 (lk.foldl (spS q) s).1 tl/\ZOq Lv (lk.foldl (spS q) s).2 tl/\TC' tl/\get fr 0=A/\get fr 4=.ptr 0 0 0 1/\get fr 5=.ptr 1 0 0 1/\get fr 7=Lv)
  (λi fr h m=>by obtain⟨Lv,tl,rfl,_⟩:=m;rfl)
  (λi fr h hi m=>by
   obtain⟨Lv,tl,rfl,rfl,hL,hc⟩:=m;have hx:lk[i]?=some lk[i]:=ZXj hi;have hf:(lk.take<|i+1).foldl (spS q) s=spS q ((lk.take i).foldl (spS q) s) lk[i]:=Us (spS q) s hx;have hlen:=ZSi q (lk.take i) s;have hle:(lk.take i).length<=lk.length:=by grind
   have hkt:∀k∈lk.take i,k<s.1.length:=λk h=>by grind
   have hqq:=ZSj q (lk.take i) s hkt<|by omega
   obtain⟨r',hr'⟩:=ZPP q (lk.take i) s r hr;obtain⟨fr',Lv',tl',a1,a2,a3,a4⟩:=ZUH A lx lk hk hll q hq i hi p0 hp ((lk.take i).foldl (spS q) s) (by grind) (by grind) (by grind) r' hr' Lv tl hL hc<|by omega
   grind)
  (λfr h m=>by
   obtain⟨Lv,tl,rfl,rfl,hL,hc⟩:=m;rw[ZXG]at hL⊢;unfold f38 h38;refine⟨.exit 4,_,_,by simp[go_sem,c22L1b,ZG,ZPN,ZXw]<;>rfl,by simp,rfl,Lv,tl,rfl,hL,hc,?_⟩
   refine⟨?_,?_,?_,?_⟩<;>simp only[go_sem])
  lk.length 0 _ _ (by omega) ⟨Lv,tl,rfl,rfl,hL,hc⟩
 grind
def g38(A Lv:AV):Fr:=[(0,A),(4,.ptr 0 0 0 1),(5,.ptr 1 0 0 1),(7,Lv)]
def ZUJ{Lv:AV}{L:List Nat}{tl:List AObj}{n:Nat}(h:ZOq Lv L tl)(hb:bel (n+2) Lv=true):ZOq Lv L (tl.take n):=by
 obtain⟨bl,g,off,ex,es,rfl,h2,h3⟩:=h;refine⟨bl,g,off,ex,es,rfl,?_,h3⟩
 simp_all[bel]
def ZQH{fr:Fr}{A Lv:AV}{L:List Nat}(p0 p1:AObj){tl:List AObj}(n:Nat)(e:AExit)(h0:get fr 0=A)(h4:get fr 4=.ptr 0 0 0 1)(h5:get fr 5=.ptr 1 0 0 1)(h7:get fr 7=Lv)(hL:ZOq Lv L tl)(hc:TC' tl):
 ∃tl',kp [0,4,5,7] (n+1+1) (some (e,fr,p0::p1::tl))=some (e,g38 A Lv,p0::p1::tl')/\ZOq Lv L tl'/\TC' tl':=by
 have hr:Z2 [0,4,5,7] fr=g38 A Lv:=by
  show [(0,get fr 0),(4,get fr 4),(5,get fr 5),(7,get fr 7)]=_
  rw[h0,h4,h5,h7];rfl
 rw[Sd,hr,Z07];cases c:Zd (n+1+1) (frV<|g38 A Lv)&&X4 (n+1+1) ((p0::p1::tl).take (n+1+1))with
 |false=>exact⟨tl,rfl,hL,hc⟩
 |true=>
  refine⟨tl.take n,rfl,ZUJ hL ?_,λm=>ZEO<|hc m⟩
  simp_all[g38,frV,Zd]
def ZUK(ex:Bool)(l:List Off)(q:Nat)(o:Off)(ho:l[q]?=some o)(lk:List Nat)(hlk:o.Lk.map I=lk.map nA)(hk:∀k∈lk,k<64)(hll:lk.length<=1000)(hq:q<64)(p0:AObj)(hp:∀n,Zj n p0=true)(s:List Int×List Nat)(h64:s.1.length=64)(h1:0<=gI s.1 q)(h2:gI s.1 q<=63)
 (r:List Nat) (hr:s.2=q::r) (Lv:AV) (tl:List AObj) (hL:ZOq Lv s.2 tl) (hc:TC' tl) (hn:s.2.length+lk.length<=10000):
 ∃fr' Lv' tl',Zb rE c22L2b (g38 (ofA ex l) Lv) (h38 p0 s.1 tl)=some (.normal,fr',h38 p0 (lk.foldl (spS q) s).1 tl')/\Z2 [0,4,5,7] fr'=g38 (ofA ex l) Lv'/\ZOq Lv' (lk.foldl (spS q) s).2.tail tl'/\TC' tl':=by
 obtain⟨fr1,Lv1,tl1,i1,i2,i3,i4,i5,i6,i7⟩:=ZUI (ofA ex l) o.lx lk hk hll q hq p0 hp s h64 h1 h2 r hr Lv tl hL hc hn;obtain⟨r',hr'⟩:=ZPP q lk s r hr;obtain⟨tl2,k1,k2,k3⟩:=ZQH p0 (.row 64 [.agg<|(lk.foldl (spS q) s).1.map I]) tl.length .normal i4 i5 i6 i7 i2 i3;obtain⟨tl3,k4,k5,k6⟩:=ZQH (fr:=g38 (ofA ex l) Lv1) p0 (.row 64 [.agg<|(lk.foldl (spS q) s).1.map I]) tl.length .normal rfl rfl rfl rfl k2 k3;obtain⟨bl,g,off,ex1,es,rfl,hb,hg1,hg2,hes⟩:=hL;have hrow:rowAt tl bl g=some (1,es):=by simp_all[rowAt]
 have hes0:es[off]?=some (I q):=by
  have:=congrArg List.head? hes;rw[List.head?_drop,hr]at this;exact this
 have hlen:s.2.length=r.length+1:=by grind
 have hi0:iaP (bl+2) g off 1 0 s.2.length (some (1,es))=some (.ptr (bl+2) off 0 g):=VT _ _ _ _ _ _ _ ⟨ZYN _,by omega⟩
 have hgt:decide (((s.2.length:Nat):Int)>0)=true:=decide_eq_true<|by omega
 have hg:=Z6 (f:=Off.enc) ho;have hk0:(0<=(q:Int))=True:=by simp
 have hk2:((q:Int)).toNat=q:=ZY4 q;have hle:lk.length=o.Lk.length:=by have:=congrArg List.length hlk;grind
 generalize(lk.foldl (spS q) s).2=L2 at*;generalize(lk.foldl (spS q) s).1=o2 at*;subst hr';obtain⟨bl2,g2,off2,ex2,es2,rfl,hb2,hg3,hg4,hes2⟩:=k5;have hrow2:rowAt tl3 bl2 g2=some (1,es2):=by simp_all[rowAt]
 have hs:=ZFV (h:=p0::.row 64 [.agg<|o2.map I]::tl3) (b:=bl2+2) (off:=off2) (n:=r'.length) (ex:=ex2) hrow2;have hq':ZOq (.sl (bl2+2) g2 (off2+1) r'.length ex2) r' tl3:=by
  refine⟨bl2,g2,off2+1,ex2,es2,rfl,hb2,hg3,by grind,?_⟩
  have:=congrArg List.tail hes2
  rwa[List.tail_drop]at this
 obtain⟨tl5,n1,n2,n3⟩:=ZQH (A:=ofA ex l) (Lv:=.sl (bl2+2) g2 (off2+1) r'.length ex2) (L:=r') (fr:=g38 (ofA ex l)<|.sl (bl2+2) g2 (off2+1) r'.length ex2) p0 (.row 64 [.agg<|o2.map I]) tl.length .normal rfl rfl rfl rfl hq' k6;unfold f38 h38 at i1;rw[<-hlk,hle,show((0:Nat):Int)=0 from rfl]at i1
 unfold g38 ofA at*;unfold h38;unfold Off.enc at*;simp only[ZXw]at k4;refine⟨_,.sl (bl2+2) g2 (off2+1) r'.length ex2,tl5,Eq.trans ?_ n1,?_,n2,n3⟩
 .simp only[go_sem,c22L2b,c22L1,hrow,hi0,hes0,hgt,hg,hk0,hk2,i1,k1,k4,hs,ZFU,ZPN,ZXw,ZXg,ZXl,ZXo,ZYb,if_true]
 .rfl
def lkN(l:List Off)(q:Nat):List Nat:=match l[q]? with|some o=>o.Lk.map Int.toNat|none=>[]
def ZOr(l:List Off):Prop:=l.length<=64/\∀o∈l,o.Lk.length<=1000/\∀k∈o.Lk,0<=k/\k<l.length
def ZOR{l:List Off}(h:ZOr l){q k:Nat}(hk:k∈lkN l q):k<l.length:=by
 unfold lkN at hk;split at hk
 .next o ho=>
  obtain⟨x,hx,rfl⟩:=ZXI.1 hk;have:=(h.2 o<|ZXp ho).2 x hx;omega
 grind
def ZSk{l:List Off}(h:ZOr l){q:Nat}{o:Off}(ho:l[q]?=some o):o.Lk.map I=(lkN l q).map nA:=by
 unfold lkN;rw[ho];rw[ZYc];apply ZYL;intro x hx;have:=((h.2 o<|ZXp ho).2 x hx).1;show I x=I ((x.toNat:Nat):Int)
 rw[ZZd this]
def cnu(out:List Int):Nat:=out.countP (·==64)
def ZPa:∀(out:List Int)(k:Nat)(v:Int),k<out.length->gI out k=64->v≠64->cnu (out.set k v)+1=cnu out
 |[],_,_,h,_,_=>by grind
 |x::r,0,v,_,h,hv=>by
  have hx:x=64:=h
  grind [cnu]
 |x::r,k+1,v,hk,h,hv=>by
  have:=ZPa r k v (by simpa using hk) h hv
  unfold cnu at*;simp[List.countP_cons];omega
structure SpI(l:List Off)(f:Nat)(out:List Int)(Q:List Nat):Prop where
 len:out.length=64
 rng:∀v,v<64->0<=gI out v/\(gI out v≠64->gI out v+1+cnu out<=64)
 bnd:Q.length+cnu out<=64
 src:gI out f=0
 pre:∀v,v<64->gI out v≠64->v≠f->∃u,v∈lkN l u/\gI out v=gI out u+1
 mem:∀v∈Q,v<l.length/\gI out v≠64
 ord:Q.Pairwise λa b=>gI out a<=gI out b
 done:∀u,u<64->gI out u≠64->u ∉ Q->∀v∈lkN l u,gI out v≠64/\gI out v<=gI out u+1
 top:∀q∈Q,∀v,v<64->gI out v≠64->gI out v<=gI out q+1
def ZOS{l:List Off}{u v:Nat}(h:v∈lkN l u):u<l.length:=by grind [lkN]
def ZSl{l:List Off}(hl:ZOr l){f q:Nat}{s:List Int×List Nat}{k:Nat}(hs:SpI l f s.1 s.2){r:List Nat}(hr0:s.2=q::r)(hk:k∈lkN l q):SpI l f (spS q s k).1 (spS q s k).2:=by
 have hkl:=ZOR hl hk;obtain⟨hl1,_⟩:=hl;obtain⟨out,Q⟩:=s;dsimp only at hs hr0;have hq:q∈Q:=by grind
 unfold spS;cases hc:gI out k==64 with
 |false=>grind
 |true=>
  have h64:gI out k=64:=by grind
  obtain⟨a1,a2,a3,a4,a5,a6,a7,a8,a9⟩:=hs;obtain⟨b1,b2⟩:=a6 q hq;have hkk:k<out.length:=by omega
  have hq1:=a2 q<|by omega
  have hq2:=hq1.2 b2;have hqk:k≠q:=by grind
  have hcn0:cnu (out.set k 0)+1=cnu out:=ZPa out k 0 hkk h64<|by decide
  have hcnt:cnu (out.set k<|gI out q+1)+1=cnu out:=ZPa out k _ hkk h64<|by omega
  have hG:∀j,gI (out.set k<|gI out q+1) j=if k=j then gI out q+1 else gI out j:=λj=>ZPO out k j _ hkk
  rw[cond_true];dsimp only;refine⟨by grind,λv hv=>?_,by grind,?_,λv hv hr hf=>?_,λv hv=>?_,?_,λu hu hr hn v hv=>?_,λp hp v hv hr=>?_⟩
  .grind
  .grind
  .grind
  .grind
  .rw[List.pairwise_append];refine⟨?_,List.pairwise_singleton _ _,λx hx y hy=>?_⟩
   .refine List.Pairwise.imp_of_mem ?_ a7
    grind
   grind
  .grind
  .have hqp:∀p'∈Q,gI out q<=gI out p':=λp' h1=>by
    rw[hr0]at h1 a7;rcases ZXF.1 h1 with rfl|h1
    all_goals simp_all
   grind
def ZUL{l:List Off}{q:Nat}{s:List Int×List Nat}{k:Nat}(hk:k<s.1.length)(h1:gI s.1 k=64->gI s.1 q+1≠64)(top:gI s.1 k≠64->gI s.1 k<=gI s.1 q+1):
 (gI (spS q s k).1 k≠64/\gI (spS q s k).1 k<=gI s.1 q+1)/\∀j,gI s.1 j≠64->gI (spS q s k).1 j=gI s.1 j:=by
 unfold spS;cases hc:gI s.1 k==64 with
 |false=>
  grind
 |true=>
  rw[cond_true];refine⟨?_,λj hj=>?_⟩
  .simp_all[ZPO]
  .rw[ZPO _ _ _ _ hk,if_neg]
   grind
def ZSm{l:List Off}(hl:ZOr l){f q:Nat}:∀(lk:List Nat){s:List Int×List Nat}{r:List Nat},SpI l f s.1 s.2->s.2=q::r->(∀k∈lk,k∈lkN l q)->
 SpI l f (lk.foldl (spS q) s).1 (lk.foldl (spS q) s).2/\(∀k∈lk,gI (lk.foldl (spS q) s).1 k≠64/\gI (lk.foldl (spS q) s).1 k<=gI s.1 q+1)/\(∀j,gI s.1 j≠64->gI (lk.foldl (spS q) s).1 j=gI s.1 j)
 |[],s,r,hs,_,_=>⟨hs,λ_ h=>absurd h ZY1,λ_ _=>rfl⟩
 |k::lk,s,r,hs,hr,hk=>by
  have hkq:=hk k ZXV;have h1:=ZSl hl hs hr hkq;obtain⟨r',hr'⟩:=ZQG q s k r hr;have hq:q∈s.2:=by grind
  have hkl:=ZOR hl hkq;have hq64:=(hs.mem q hq).2;have hql:=(hs.mem q hq).1;have hl1:=hl.1;have hqr:=hs.rng q<|by omega
  have hkk:k<s.1.length:=by rw[hs.len];omega
  obtain⟨⟨n1,n2⟩,n3⟩:=ZUL (l:=l) (q:=q) (s:=s) (k:=k) hkk (λhk64 h=>by
   have:=ZPa s.1 k 0 hkk hk64<|by decide
   omega) (hs.top q hq k<|by omega)
  obtain⟨b1,b2,b3⟩:=ZSm hl lk h1 hr'<|λk h=>hk k<|ZY2 _ h
  grind
def ZUM{l:List Off}(hl:ZOr l){f q:Nat}{s:List Int×List Nat}{r:List Nat}(hs:SpI l f s.1 s.2)(hr:s.2=q::r):
 SpI l f ((lkN l q).foldl (spS q) s).1 ((lkN l q).foldl (spS q) s).2.tail:=by
 have hq:q∈s.2:=by grind
 obtain⟨a,b,c⟩:=ZSm hl (lkN l q) hs hr<|λ_ h=>h
 obtain⟨r',hr'⟩:=ZPP q (lkN l q) s r hr;have hqe:=c q (hs.mem q hq).2;generalize(lkN l q).foldl (spS q) s=t at a b c hr' hqe;obtain⟨out,Q⟩:=t;subst hr';obtain⟨a1,a2,a3,a4,a5,a6,a7,a8,a9⟩:=a;refine⟨a1,a2,by grind,a4,a5,λv h=>a6 v<|ZY2 _ h,(ZY6.1 a7).2,λu hu hR hn v hv=>?_,λp h=>a9 p<|ZY2 _ h⟩
 grind
def ZUN(q:Nat)(s:List Int×List Nat)(k:Nat)(hk:k<s.1.length)(hq:gI s.1 k=64->gI s.1 q+1≠64):2*cnu (spS q s k).1+(spS q s k).2.length<=2*cnu s.1+s.2.length:=by
 unfold spS;cases hc:gI s.1 k==64 with
 |false=>grind
 |true=>
  have h64:gI s.1 k=64:=by grind
  have:=ZPa s.1 k (gI s.1 q+1) hk h64<|hq h64
  grind
def ZSn{l:List Off}(hl:ZOr l){f q:Nat}:∀(lk:List Nat){s:List Int×List Nat}{r:List Nat},SpI l f s.1 s.2->s.2=q::r->(∀k∈lk,k∈lkN l q)->
 2*cnu (lk.foldl (spS q) s).1+(lk.foldl (spS q) s).2.length<=2*cnu s.1+s.2.length
 |[],s,r,hs,_,_=>ZXh _
 |k::lk,s,r,hs,hr,hk=>by
  have hkq:=hk k ZXV;have h1:=ZSl hl hs hr hkq;obtain⟨r',hr'⟩:=ZQG q s k r hr;have hq:q∈s.2:=by grind
  have hkl:=ZOR hl hkq;have hq64:=(hs.mem q hq).2;have hql:=(hs.mem q hq).1;have hl1:=hl.1;have hqr:=hs.rng q<|by omega
  have hkk:k<s.1.length:=by rw[hs.len];omega
  have h2:=ZUN q s k hkk (λhk64 h=>by
   have:=ZPa s.1 k 0 hkk hk64<|by decide
   omega)
  have h3:=ZSn hl lk h1 hr'<|λk h=>hk k<|ZY2 _ h
  grind
def ZSo(ex:Bool)(l:List Off)(hl:ZOr l)(f:Nat)(p0:AObj)(hp:∀n,Zj n p0=true):
 ∀(m:Nat)(out:List Int)(Q:List Nat)(Lv:AV)(tl:List AObj),2*cnu out+Q.length<=m->SpI l f out Q->ZOq Lv Q tl->TC' tl->
  ∃fr' D tl',Zg rE [0,4,5,7] c22L2b (g38 (ofA ex l) Lv) (h38 p0 out tl)=some (.exit 2,fr',h38 p0 D tl')/\SpI l f D []/\get fr' 4=.ptr 0 0 0 1/\get fr' 5=.ptr 1 0 0 1
 |m,out,[],Lv,tl,_,hI,hL,hc=>by
  have hgt:decide (((0:Nat):Int)>0)=false:=rfl;obtain⟨bl,g,off,ex1,es,rfl,hb,hg1,hg2,hes⟩:=hL;have hrow:rowAt tl bl g=some (1,es):=by simp_all[rowAt]
  rw[Q7 (fr':=_) (h':=_) (e:=.exit 2) (by rfl) (by
   unfold g38 h38;simp only[go_sem,c22L2b,hrow,hgt,ZPN]<;>rfl) (by simp)]
  refine⟨_,out,tl,rfl,hI,?_,?_⟩<;>simp[go_sem]
 |0,out,q::Q,Lv,tl,hm,_,_,_=>by grind
 |m+1,out,q::Q,Lv,tl,hm,hI,hL,hc=>by
  obtain⟨hql,hq64⟩:=hI.mem q ZXV;have hl1:=hl.1;have hqr:=hI.rng q<|by omega
  have ho:l[q]?=some l[q]:=ZXj hql;have hb:=hI.bnd;have hlen:(lkN l q).length<=1000:=by
   unfold lkN;rw[ho];rw[ZXg];exact(hl.2 _<|ZYA hql).1
  obtain⟨fr',Lv',tl',i1,i2,i3,i4⟩:=ZUK ex l q l[q] ho (lkN l q) (ZSk hl ho) (λk hk=>by have:=ZOR hl hk;omega) hlen (by omega) p0 hp (out,q::Q) hI.len hqr.1 (by grind) Q rfl Lv tl hL hc (by grind)
  have hI':=ZUM hl (s:=(out,q::Q)) hI rfl;have hms:=ZSn hl (lkN l q) (s:=(out,q::Q)) hI rfl (λ_ h=>h)
  obtain⟨r',hr'⟩:=ZPP q (lkN l q) (out,q::Q) Q rfl;rw[Yt (by rfl) i1,i2]
  generalize(lkN l q).foldl (spS q) (out,q::Q)=t at*;obtain⟨out',Q'⟩:=t;subst hr';exact ZSo ex l hl f p0 hp m out' r' Lv' tl' (by grind) hI' i3 i4
@[irreducible] def z64:List AV:=List.replicate 64<|.int .i64 0
def ZSp:z64.length=64:=by grind [z64]
def ZUO:z64.all scalar=true:=by
 unfold z64;rw[ZXs];intro x a;rw[ZZI a];rfl
def f64(i:Nat):List Int:=List.replicate i 64++List.replicate (64-i) 0
def ZSq:z64=(f64 0).map I:=by unfold z64;rfl
theorem ZPt(i:Nat)(h:i<=64):(f64 i).length=64:=by grind [f64]
def ZUP(i:Nat)(h:i<64):(f64 i).set i 64=f64 (i+1):=by
 unfold f64;rw[ZZf _ _ (by simp),ZZE,Nat.sub_self,show 64-i=(64-(i+1))+1 by omega,ZZh,ZZL,List.replicate_succ',ZY0]
 rfl
def c38b:ACode:=
 .seq (.seq (.region [o 10<|.mv<|.c<|.int .i64 0])<|
 .keep [0,1,4,5]<|.block 0<|
  c22L0)<|
.seq (.keep [0,1,4,5]<|.region [o 16<|.mv<|.t 1,
 o 17 (.aadr 1 64 (.t 5)<|.t 16),
 ⟨none,.store 1 (.t 17)<|.c<|.int .i64 0,none⟩])<|
.seq (.seq (.keep [0,4,5,7]<|.region [o 18<|.mv<|.t 1,
 o 19 (.bsl false false 1 (.int .i64 0) 1 [(0,(.t 18))]),
 o 7 (.mv<|.t 19)])<|
 .keep [4,5]<|.block 2<|
  c22L2)<|
.seq (.region [o 54<|.load (some 64)<|.t 5,
 ⟨none,.store 64 (.t 4)<|.t 54,none⟩])<|
.ret
def c38a:ACode:=.seq (.region [o 4<|.box 64<|.c<|.agg z64])<|.seq (.region [o 5<|.box 64<|.c<|.agg z64]) c38b
def c22_eq:c22=c38a:=by
 kernel_rfl
def c38_fill(A:AV)(f:Nat)(p0:AObj):
 Zg rE [0,1,4,5,10] c22L0b [(0,A),(1,I f),(4,.ptr 0 0 0 1),(5,.ptr 1 0 0 1),(10,.int .i64 0)] [p0,.row 64 [.agg z64]] =
  some (.exit 0,[(0,A),(1,I f),(4,.ptr 0 0 0 1),(5,.ptr 1 0 0 1),(10,I 64)],[p0,.row 64 [.agg<|(f64 64).map I]]):=by
 rw[ZSq];have h64:decide (((64:Nat):Int)<64)=false:=rfl;refine Y8 (E:=rE) (live:=[0,1,4,5,10]) (b:=c22L0b) 64 (λi=>[(0,A),(1,I f),(4,.ptr 0 0 0 1),(5,.ptr 1 0 0 1),(10,I i)]) (λi=>[p0,.row 64 [.agg<|(f64 i).map I]]) (λi=>rfl)
  (λi hi=>?_) (e:=.exit 0) (by simp only[go_sem,c22L0b,h64];rfl) (by simp)
 have hi':decide ((i:Int)<64)=true:=decide_eq_true<|by omega
 have hw:=Zx (n:=i)<|by omega
 have hn:((i:Int)).toNat=i:=rfl;have hb:(0<=(i:Int)/\(i:Int)<((64:Nat):Int))=True:=by grind
 have hl:=ZPt i<|by omega
 have hle:decide (i+1<=(f64 i).length)=true:=decide_eq_true<|by omega
 have hset:((f64 i).map I).take i++[.int .i64 64]++((f64 i).map I).drop (i+1)=(f64<|i+1).map I:=by
  rw[<-ZUP i hi,ZXJ,ZZ7,if_pos (by grind),ZY0];rfl
 refine⟨_,by simp only[go_sem,c22L0b,hi',hw,hn,hb,hle,hset,if_true,ZXA,ZXN];rfl,?_⟩
 simp[go_sem]
structure IsD(l:List Off)(f:Nat)(D:List Int):Prop where
 len:D.length=64
 rng:∀v,v<64->0<=gI D v/\gI D v<=64
 src:gI D f=0
 pre:∀v,v<64->gI D v≠64->v≠f->∃u,v∈lkN l u/\gI D v=gI D u+1
 done:∀u,u<64->gI D u≠64->∀v∈lkN l u,gI D v≠64/\gI D v<=gI D u+1
def SpI.isD{l:List Off}{f:Nat}{D:List Int}(h:SpI l f D []):IsD l f D:=by
 refine⟨h.len,λv hv=>?_,h.src,h.pre,λu hu hr=>h.done u hu hr ZY1⟩
 have:=h.rng v hv
 grind
theorem ZQI(x:Int):∀n v,v<n->gI (List.replicate n x) v=x
 |n+1,0,_=>rfl
 |n+1,v+1,h=>ZQI x n v<|Nat.lt_of_succ_lt_succ h
theorem ZSr:f64 64=List.replicate 64 64:=(rfl)
def o0(f:Nat):List Int:=(f64 64).set f 0
def ZUQ(f v:Nat)(hf:f<64)(hv:v<64):gI (o0 f) v=if f=v then 0 else 64:=by
 unfold o0;rw[ZPO _ _ _ _<|by grind [ZPt]]
 by_cases e:f=v
 .rw[if_pos e,if_pos e]
 .rw[ZSr,ZQI _ _ _ hv]
def ZUR{l:List Off}(hl:ZOr l){f:Nat}(hf:f<l.length):SpI l f (o0 f) [f]:=by
 have h1:=hl.1;have hlen:(o0 f).length=64:=by grind [o0,ZPt]
 have hc:cnu (o0 f)=63:=by
  have h64:gI (f64 64) f=64:=by grind [ZSr,ZQI]
  have:=ZPa (f64 64) f 0 (by grind [ZPt]) h64<|by decide
  simp_all[cnu,f64,o0]
 have g:=λv(hv:v<64)=>ZUQ f v (by omega) hv
 refine⟨hlen,λv hv=>?_,by grind,?_,λv hv hr hf'=>?_,λv hv=>?_,List.pairwise_singleton _ _,λu hu hr hn=>?_,λq hq v hv hr=>?_⟩
 all_goals grind
def ZUS{fr:Fr}(p0 p1:AObj)(tl:List AObj)(n:Nat)(e:AExit)(h4:get fr 4=.ptr 0 0 0 1)(h5:get fr 5=.ptr 1 0 0 1):
 ∃tl',kp [4,5] (n+1+1) (some (e,fr,p0::p1::tl))=some (e,[(4,.ptr 0 0 0 1),(5,.ptr 1 0 0 1)],p0::p1::tl'):=by
 have hr:Z2 [4,5] fr=[(4,.ptr 0 0 0 1),(5,.ptr 1 0 0 1)]:=by
  show [(4,get fr 4),(5,get fr 5)]=_
  rw[h4,h5]
 rw[Sd,hr,Z07];cases c:Zd (n+1+1) (frV [(4,.ptr 0 0 0 1),(5,.ptr 1 0 0 1)])&&X4 (n+1+1) ((p0::p1::tl).take (n+1+1))with
 |false=>exact⟨tl,rfl⟩
 |true=>exact⟨tl.take n,rfl⟩
theorem ZPu:∀l:List Int,Z4 (l.map I)=true
 |[]=>rfl
 |x::r=>ZPu r
def ZUT(ex:Bool)(l:List Off)(hl:ZOr l)(f:Nat)(hf:f<l.length):∃D,pfn rE 22 [ofA ex l,I f]=some (.agg<|D.map I)/\IsD l f D:=by
 have h1:=hl.1;obtain⟨fr',D,tl',k1,k2,k3,k4⟩:=ZSo ex l hl f (.row 64 [.agg z64]) (λn=>by rw[ZSq];exact Eq.trans rfl rfl) (2*cnu (o0 f)+1) (o0 f) [f] (.sl 2 1 0 1 true) [.row 1 [I f]] (ZXh _) (ZUR hl hf)
  ⟨0,1,0,true,[I f],rfl,rfl,rfl,rfl,rfl⟩ (λn=>rfl)
 refine⟨D,?_,k2.isD⟩;obtain⟨tl2,k5⟩:=ZUS (.row 64 [.agg z64]) (.row 64 [.agg<|D.map I]) tl' 1 .normal k3 k4;have hlD:=k2.len;have hlm:(D.map I).length=64:=by rw[ZXg,hlD]
 have htk:List.take 64 (D.map I)=D.map I:=ZXz<|by omega
 have hall:(D.map I).all scalar=true:=by
  rw[ZXs];intro x hx;obtain⟨y,_,rfl⟩:=ZXI.1 hx;rfl
 have hdz:List.drop 64 z64=[]:=ZYD<|by simp_all[ZSp]
 have hcl:clean (.agg<|D.map I)=true:=ZPu D;have hfit:fits 64 (.agg<|D.map I)=true:=by simp_all[fits]
 have hst:=Eb (.row 64 [.agg z64]::.row 64 [.agg<|D.map I]::tl2) 0 0 0 64 (.agg<|D.map I) 64 [.agg z64] hfit;have hfill:=c38_fill (ofA ex l) f<|.row 64 [.agg z64];have hb:(0<=(f:Int)/\(f:Int)<((64:Nat):Int))=True:=by grind
 have hn:((f:Int)).toNat=f:=rfl;have hle:decide (f+1<=(f64 64).length)=true:=decide_eq_true<|by rw[ZPt]<;>omega
 have hset:((f64 64).map I).take f++[.int .i64 0]++((f64 64).map I).drop (f+1)=(o0 f).map I:=by
  unfold o0;rw[ZXJ,ZZ7,if_pos (by rw[ZXg,ZPt]<;>omega),ZY0];rfl
 unfold g38 h38 at k1;have k15:kp [4,5] 3 (blk 2<|Zg rE [0,4,5,7] c22L2b [(0,ofA ex l),(4,.ptr 0 0 0 1),(5,.ptr 1 0 0 1),(7,.sl 2 1 0 1 true)] [.row 64 [.agg z64],.row 64 [.agg<|(o0 f).map I],.row 1 [I f]])=some (.normal,[(4,.ptr 0 0 0 1),(5,.ptr 1 0 0 1)],.row 64 [.agg z64]::.row 64 [.agg<|D.map I]::tl2):=by rw[k1];exact k5
 rw[Z5 (f:=22) (c:=c38a) rfl (by rw[<-c22_eq];rfl)]
 simp only[go_sem,c38a,c38b,c22L0,c22L2,ZSp,ZUO,hfill,hb,hn,hle,hset,k15,htk,hst,hdz,hcl,ZXr,hlD,if_true,ZXA,ZXN,ZXg]
def ZQJ{E:Env}{α:Type}{live:List Nat}{b:ACode}(l:List α)(R:Nat->Prop)(P:Nat->α->Bool)(S:Nat->Fr)(H:Nat->Hp)(a:Nat)(m Q:Fr->Hp->Prop)(r0:R 0)
 (j:∀i,Z2 live (S i)=S i)
 (d:∀i x,l[i]?=some x->R i->P i x=true->R (i+1)/\∃fr',Zb E b (S i) (H i)=some (.normal,fr',H<|i+1)/\Z2 live fr'=S (i+1))
 (g:∀i x,l[i]?=some x->R i->P i x=false->∃fr' h',Zb E b (S i) (H i)=some (.ret,fr',h')/\Q fr' h')
 (e:∃fr' h',Zb E b (S l.length) (H l.length)=some (.exit a,fr',h')/\m fr' h'):
 ∃fr' h',Zg E live b (S 0) (H 0)=some (if Zu P 0 l=true then .exit a else .ret,fr',h')/\(Zu P 0 l=true->m fr' h')/\(Zu P 0 l=false->Q fr' h'):=by
 suffices G:∀k i,k+i=l.length->R i->∃fr' h',Zg E live b (S i) (H i)=some (if Zu P i (l.drop i)=true then .exit a else .ret,fr',h')/\(Zu P i (l.drop i)=true->m fr' h')/\(Zu P i (l.drop i)=false->Q fr' h')by
  have:=G l.length 0 (by omega) r0
  grind
 intro k;induction k with
 |zero=>
  grind [Q7,Zu]
 |succ k ih=>
  intro i s ri;have f:i<l.length:=by omega
  have n:l[i]?=some l[i]:=ZXj f;rw[ZXP f];cases c:P i l[i]with
  |true=>
   obtain⟨ri',q,h1,h2⟩:=d _ _ n ri c;obtain⟨fr',h',r,p,o⟩:=ih (i+1) (by omega) ri'
   refine⟨fr',h',?_,?_,?_⟩
   .rw[Yt (j _) h1,h2,r]
    simp_all[Zu]
   all_goals simp_all[Zu]
  |false=>
   grind [Q7,Zu]
def ZPb(L:List Int)(i:Nat):Int:=(L.take i).foldl (λ_ k=>k) (-1)
def ZPQ(l:List Off)(k:Int)(i:Nat):Bool:=match l[k.toNat]? with|some o=>o.Lk.any ((i:Int)==·)|none=>false
def lkP(l:List Off)(L:List Int)(i j:Nat)(k:Int):Bool:=!decide (k<=ZPb L j)&&(!decide (k>=(l.length:Int))&&(!(k==(i:Int))&&ZPQ l k i))
def ZSs{L:List Int}{j:Nat}{k:Int}(hx:L[j]?=some k):ZPb L (j+1)=k:=Us (λ(_:Int)(k:Int)=>k) (-1) hx
def ZSt(ex:Bool)(l:List Off)(hl:l.length<=64)(hS:∀o∈l,OffS o)(o:Off)(ho:OffS o)(i:Nat)(N:Int):
 ∃fr' h',Zg rE [0,3,4,5,19,20,21,27,28,29] c30L0b [(0,ofA ex l),(3,I i),(4,.ptr 0 0 0 1),(5,.int .i64<|-1),(19,ofA ex l),(20,I N),(21,I i),(27,.isl false o.lx 1<|o.Lk.map I),(28,I o.Lk.length),(29,.int .i64 0)] [.row 2 [o.enc]]
  = some (if Zu (lkP l o.Lk i) 0 o.Lk=true then .exit 2 else .ret,fr',h')/\(Zu (lkP l o.Lk i) 0 o.Lk=true->h'=[.row 2 [o.enc]]/\get fr' 0=ofA ex l/\get fr' 3=I i/\get fr' 4=.ptr 0 0 0 1/\get fr' 19=ofA ex l/\get fr' 20=I N/\get fr' 21=I i/\get fr' 2=.bot)/\(Zu (lkP l o.Lk i) 0 o.Lk=false->get fr' 2=.bool false):=by
 have hk1:=ho.lk;refine ZQJ (E:=rE) (live:=[0,3,4,5,19,20,21,27,28,29]) (b:=c30L0b) o.Lk (λj=>-1<=ZPb o.Lk j) (lkP l o.Lk i)
  (λj=>[(0,ofA ex l),(3,I i),(4,.ptr 0 0 0 1),(5,I<|ZPb o.Lk j),(19,ofA ex l),(20,I N),(21,I i),(27,.isl false o.lx 1<|o.Lk.map I),(28,I o.Lk.length),(29,I j)])
  (λ_=>[.row 2 [o.enc]]) 2 _ _ (ZYN _) (λj=>rfl) (λj k hx hR hP=>?_) (λj k hx hR hP=>?_) ⟨_,_,by simp only[go_sem,c30L0b,ZG];rfl,by simp only[go_sem];trivial⟩
 .have hg:=Z6 (f:=I) hx;have hi:=Zh<|Z7 hx;have hw:=Zx (n:=j) (by grind)
  have hls:=ZSs hx;rw[hls];unfold lkP at hP;generalize ZPb o.Lk j=la at*;simp only[ZXf,ZXM]at hP;obtain⟨h1,h2,h3,h4⟩:=hP;have h1':¬k<=la:=of_decide_eq_false h1;obtain⟨n,rfl⟩:∃n:Nat,k=n:=⟨k.toNat,by omega⟩
  unfold ZPQ at h4;rw[ZY4]at h4;have hn0:(0<=(n:Int))=True:=by simp
  have hn1:((n:Int)).toNat=n:=rfl;cases ho':l[n]? with
  |none=>grind
  |some o'=>
   rw[ho']at h4;dsimp only at h4;have hg2:=Z6 (f:=Off.enc) ho';have hlk:=(hS o'<|ZXp ho').lk;have hh:=ZQF false o'.lx o'.Lk (by omega) i
   rw[h4]at hh;unfold ofA;unfold Off.enc at*;refine⟨by omega,_,by simp only[go_sem,c30L0b,hg,hi,hw,h1,h2,h3,hg2,hn0,hn1,hh,ZXg];rfl,?_⟩
   simp only[go_sem]
 .have hg:=Z6 (f:=I) hx;have hi:=Zh<|Z7 hx;unfold lkP at hP;generalize ZPb o.Lk j=la at*;unfold ofA;unfold Off.enc at*;cases h1:decide (k<=la)with
  |true=>refine⟨_,_,by simp only[go_sem,c30L0b,hg,hi,h1];rfl,?_⟩;simp only[go_sem]
  |false=>
   cases h2:decide (k>=(l.length:Int))with
   |true=>refine⟨_,_,by simp only[go_sem,c30L0b,hg,hi,h1,h2,ZXg];rfl,?_⟩;simp only[go_sem]
   |false=>
    cases h3:k==(i:Int)with
    |true=>refine⟨_,_,by simp only[go_sem,c30L0b,hg,hi,h1,h2,h3,ZXg];rfl,?_⟩;simp only[go_sem]
    |false=>
     rw[h1,h2,h3]at hP;have h1':¬k<=la:=of_decide_eq_false h1;have h2':¬k>=(l.length:Int):=of_decide_eq_false h2;obtain⟨n,rfl⟩:∃n:Nat,k=n:=⟨k.toNat,by omega⟩
     have hn0:(0<=(n:Int))=True:=by simp
     have hn1:((n:Int)).toNat=n:=rfl;have ho':l[n]?=some l[n]:=ZXj<|by omega
     have h4:ZPQ l (n:Int) i=false:=by grind
     unfold ZPQ at h4;rw[ZY4,ho']at h4;dsimp only at h4;have hg2:=Z6 (f:=Off.enc) ho';have hlk:=(hS _<|ZXp ho').lk;generalize l[n]=o' at*;have hh:=ZQF false o'.lx o'.Lk (by omega) i
     rw[h4]at hh;unfold Off.enc at hg2;refine⟨_,_,by simp only[go_sem,c30L0b,hg,hi,h1,h2,h3,hg2,hn0,hn1,hh,ZXg];rfl,?_⟩
     simp only[go_sem]
def cdP(L:List Str)(j:Nat)(c:Str):Bool:=ZZ c&&(match j with|0=>true|j+1=>match L[j]? with|some p=>WW p c|none=>false)
def ZSu(ex:Bool)(l:List Off)(o:Off)(ho:OffS o)(i:Nat)(N:Int):
 ∃fr' h',Zg rE [0,3,4,19,20,21,60,61,62] c30L1b [(0,ofA ex l),(3,I i),(4,.ptr 0 0 0 1),(19,ofA ex l),(20,I N),(21,I i),(60,.isl false o.cx 1<|o.Cd.map encS),(61,I o.Cd.length),(62,.int .i64 0)] [.row 2 [o.enc]]
  = some (if Zu (cdP o.Cd) 0 o.Cd=true then .exit 4 else .ret,fr',h')/\(Zu (cdP o.Cd) 0 o.Cd=true->h'=[.row 2 [o.enc]]/\get fr' 0=ofA ex l/\get fr' 3=I i/\get fr' 4=.ptr 0 0 0 1/\get fr' 19=ofA ex l/\get fr' 20=I N/\get fr' 21=I i/\get fr' 2=.bot)/\(Zu (cdP o.Cd) 0 o.Cd=false->get fr' 2=.bool false):=by
 have hk1:=ho.cd;refine ZQJ (E:=rE) (live:=[0,3,4,19,20,21,60,61,62]) (b:=c30L1b) o.Cd (λj=>True) (cdP o.Cd)
  (λj=>[(0,ofA ex l),(3,I i),(4,.ptr 0 0 0 1),(19,ofA ex l),(20,I N),(21,I i),(60,.isl false o.cx 1<|o.Cd.map encS),(61,I o.Cd.length),(62,I j)])
  (λ_=>[.row 2 [o.enc]]) 4 _ _ trivial (λj=>rfl) (λj k hx hR hP=>⟨trivial,?_⟩) (λj k hx hR hP=>?_) ⟨_,_,by simp only[go_sem,c30L1b,ZG];rfl,by simp only[go_sem];trivial⟩
 .have hg:=Z6 (f:=encS) hx;have hi:=Zh<|Z7 hx;have hj:=Z7 hx;have hw:=Zx (n:=j) (by omega)
  have hn:=ZSb k;unfold cdP at hP;unfold Off.enc;cases j with
  |zero=>
   have hP1:ZZ k=true:=by grind
   rw[hP1]at hn;have h0:decide (((0:Nat):Int)>0)=false:=rfl;refine⟨_,by simp only[go_sem,c30L1b,hg,hi,hw,hn,encS,h0];rfl,?_⟩
   simp only[go_sem]
  |succ j=>
   have hp':o.Cd[j]?=some o.Cd[j]:=ZXj<|by omega
   dsimp only at hP;rw[hp']at hP;have hg':=Z6 (f:=encS) hp';generalize o.Cd[j]=p at*;simp only[ZXf]at hP;obtain⟨h1,h2⟩:=hP;rw[h1]at hn;have h0:decide (((j+1:Nat):Int)>0)=true:=decide_eq_true<|by omega
   have hs:IntKind.i64.wrap (((j+1:Nat):Int)-1)=(j:Int):=by
    grind [YM]
   have hn1:((j:Int)).toNat=j:=rfl;have hn0:(0<=(j:Int))=True:=by simp
   refine⟨_,by simp only[go_sem,c30L1b,hg,hi,hw,hn,encS,h0,hs,hn1,hn0,hg',h2];rfl,?_⟩
   simp only[go_sem]
 .have hg:=Z6 (f:=encS) hx;have hi:=Zh<|Z7 hx;have hj:=Z7 hx;have hn:=ZSb k;unfold cdP at hP;unfold Off.enc;cases h1:ZZ k with
  |false=>
   rw[h1]at hn;refine⟨_,_,by simp only[go_sem,c30L1b,hg,hi,hn,encS];rfl,?_⟩
   simp only[go_sem]
  |true=>
   rw[h1]at hn hP;cases j with
   |zero=>grind
   |succ j=>
    have hp':o.Cd[j]?=some o.Cd[j]:=ZXj<|by omega
    dsimp only at hP;rw[hp']at hP;have hg':=Z6 (f:=encS) hp';generalize o.Cd[j]=p at*;have h2:WW p k=false:=by grind
    have h0:decide (((j+1:Nat):Int)>0)=true:=decide_eq_true<|by omega
    have hs:IntKind.i64.wrap (((j+1:Nat):Int)-1)=(j:Int):=by
     grind [YM]
    have hn1:((j:Int)).toNat=j:=rfl;have hn0:(0<=(j:Int))=True:=by simp
    refine⟨_,_,by simp only[go_sem,c30L1b,hg,hi,hn,encS,h0,hs,hn1,hn0,hg',h2];rfl,?_⟩
    simp only[go_sem]
def QM(a b c:Int):Bool:=ZD a 0 63&&(ZD b (-1) 100000&&ZD c 0 100000)
def Qc(a b c:Int):pfn rE 75 [I a,I b,I c]=some (.bool<|QM a b c):=by
 rw[Z5 (f:=75) rfl rfl];unfold QM;cases h1:ZD a 0 63<;>cases h2:ZD b (-1) 100000<;>simp only[go_sem,c75,DY,h1,h2]
def Wg(k:Int)(e:Gt)(a:EvS e):pfn rE 144 [I k,evA e]=some (.bool<|Q9 {e with br:=k}):=by
 have h:=NH {e with br:=k} ⟨a.ids,a.names,a.path,a.lst,a.id,a.other,a.text⟩
 rw[Z5 (f:=144) rfl rfl];simp only[go_sem,c144,h]
def Jo(l:List Nm)(ex:Bool):Gt:=⟨3,0,0,0,0,B [120],emp,emp,⟨false,[]⟩,⟨ex,l⟩,⟨0,emp,0,0⟩,⟨0,0⟩,⟨false,[]⟩,⟨false,[]⟩⟩
def Jp(l:List Nm)(ex:Bool):Bool:=(l.length:Int)==0||Q9 (Jo l ex)
def Hc(l:List Nm)(ex:Bool)(a:l.length<=100):pfn rE 143 [.isl false ex 3<|l.map Nm.enc]=some (.bool<|Jp l ex):=by
 have h:=NH (Jo l ex) ⟨by simp[Jo],a,by simp[Jo],by simp[Jo],ZXL rfl,ZXL rfl,ZXL rfl⟩
 have h':pfn rE 68 [.agg [I 3,I 0,I 0,I 0,I 0,.str<|B [120],.str emp,.str emp,.isl false false 1 [],.isl false ex 3<|l.map Nm.enc,I 0,.str emp,I 0,I 0,I 0,I 0,.isl false false 2 [],.isl false false 7 []]]=some (.bool<|Q9<|Jo l ex):=h;rw[Z5 (f:=143) rfl rfl];unfold Jp;cases c:(l.length:Int)==0<;>simp only[go_sem,c143,c,h']
def Jq(l:List Str):Bool:=(((Ys<|Yk<|l.map encS).length:Nat):Int)==(l.length:Int)
def Fe(x:AV):∀l,(Vb x l).length=l.length+1
 |[]=>rfl
 |y::r=>by unfold Vb;cases GP x y<;>simp[Fe x r]
def Ff:∀l,(Yk l).length=l.length
 |[]=>rfl
 |x::r=>by unfold Yk;rw[Fe,Ff r,ZXw]
def Fg(p:AV->Bool)(x:AV):∀l,(Vb x l).all p=(p x&&l.all p)
 |[]=>rfl
 |y::r=>by
  unfold Vb;cases GP x y with
  |true=>rfl
  |false=>
   rw[cond_false,ZYi,Fg p x r,ZYi];cases p x<;>cases p y<;>rfl
def Fh(p:AV->Bool):∀l,(Yk l).all p=l.all p
 |[]=>rfl
 |x::r=>by unfold Yk;rw[Fg,Fh p r,ZYi]
def Fi:∀m:List AV,(Ys m).length<=m.length
 |[]=>by simp[Ys]
 |a::r=>by
  have c:=Fi r;unfold Ys;cases h:Ys r with
  |nil=>simp
  |cons b t=>rw[h]at c;simp at c⊢;cases sameKey a b<;>simp<;>omega
def Fj(l:List Str)(ex:Bool)(c:l.length<=1000000):pfn rE 146 [.isl false ex 1<|l.map encS]=some (.bool<|Jq l):=by
 have a:Nat.ble l.length 1000000=true:=ZXH c;have d:(l.map encS).all (fits 1)=true:=by rw[ZYE,ZXs];intro x _;rfl
 have b:(l.map encS).all WB=true:=by rw[ZYE,ZXs];intro x _;rfl
 have h1:fnV rE 255 [.isl false ex 1<|l.map encS] []=some (.sl 0 l.length 0 l.length false,[.row 1<|l.map encS]):=by
  rw[V8 (s:=J9) rfl];simp only[J9,Q2,Qq,d,ZXg,a,beq_self_eq_true,ZXE,ZXC,cond_true,ZXo,ZXK]
 have h2:fnV rE 263 [.sl 0 l.length 0 l.length false] [.row 1<|l.map encS]=some (.tup [],[.row 1<|Yk<|l.map encS]):=by
  rw[V8 (s:=J7) rfl];simp only[J7,ZYf,ZXg,beq_self_eq_true,b,a,ZXC,cond_true,GM]
 have e:∃h',fnV rE 264 [.sl 0 l.length 0 l.length false] [.row 1<|Yk<|l.map encS]=some (.sl 0 l.length 0 (Ys<|Yk<|l.map encS).length false,[.row 1 h'])/\h'.length=l.length:=by
  rw[V8 (s:=J8) rfl];have h:(Yk<|l.map encS).length=l.length:=by rw[Ff,ZXg]
  have i:(Yk<|l.map encS).all WB=true:=by rw[Fh,b]
  have j:=Fi<|Yk<|l.map encS;simp only[J8,ZYf,h,beq_self_eq_true,i,a,ZXC,cond_true,GM];refine⟨_,rfl,?_⟩;simp;omega
 obtain⟨h',e,g⟩:=e;rw[Z5 (f:=146) rfl rfl];unfold Jq;simp only[go_sem,c146,h1,h2,e,g,beq_self_eq_true]
structure Adr where
 street:Str
 n:HN
def Adr.enc(a:Adr):AV:=.agg [.str a.street,I a.n.N,.str a.n.bn,I a.n.Num,I a.n.Den]
def XK(a b:Adr):Bool:=Z3 a.street b.street&&(a.n.N==b.n.N&&(Z3 a.n.bn b.n.bn&&(a.n.Num==b.n.Num&&a.n.Den==b.n.Den)))
def NK(x y:Adr):Zz true [2,1,2,1,1] x.enc y.enc=some (XK x y):=by simp only[go_sem,Adr.enc,XK]
def WI(d:Ga):Adr:=⟨d.By,d.An⟩
def Jr(d:Ga):Bool:=d.Ld != -1||!Z3 d.Veil emp
def Hd(K:List Adr)(d:Ga):List Adr:=bif Jr d then K else Qi XK K<|WI d
def Y9(l:List Ga)(i:Nat):List Adr:=(l.take i).foldl Hd []
def Wh(l:List Ga):Bool:=Zu (λi d=>Jr d||!(Y9 l i).any (XK<|WI d)) 0 l
def Fk(s:Sta)(y:StS s):pfn rE 92 [stA s]=some (.bool<|Wh s.Bc):=by
 have z:Z4 (s.Bc.map Ga.enc)=true:=Zw (λt=>rfl) _
 have e:∀n(K:List Adr),Zd n (K.map Adr.enc)=true:=λn K=>ZN _<|Zw (λt=>rfl) K
 have g:∀n k,Zd n (ZO k)=true:=λn k=>ZN _<|Ut k
 have L:=Jk (E:=rE) (live:=[3,9,10,11]) (b:=c92L0b) s.Bc (λi d=>Jr d||!(Y9 s.Bc i).any (XK<|WI d))
  (λi=>[(3,.mp 0),(9,.isl false false 16<|s.Bc.map Ga.enc),(10,I s.Bc.length),(11,I i)])
  (λi=>[.map ((Y9 s.Bc i).map Adr.enc)<|ZO (Y9 s.Bc i).length]) 0 (λfr h=>get fr 2=.bot) (λfr h=>get fr 2=.bool false) (λi=>rfl)
  (λi x hx hP=>by
   have m:=Z6 (f:=Ga.enc) hx;have q:=Zh<|Z7 hx;have v:=Zx (n:=i) (by have:=Z7 hx;have:=y.doors;omega)
   have A:Y9 s.Bc (i+1)=Hd (Y9 s.Bc i) x:=Us Hd [] hx;have w:=λhh=>Ur (ag:=true) (kk:=[2,1,2,1,1]) (enc:=Adr.enc) (eq:=XK) NK (Y9 s.Bc i) (WI x) (h:=.map ((Y9 s.Bc i).map Adr.enc) (ZO (Y9 s.Bc i).length)::hh) (b:=0) rfl
   have o:=λhh=>H5 (ag:=true) (kk:=[2,1,2,1,1]) (enc:=Adr.enc) (eq:=XK) NK (Y9 s.Bc i) (WI x) (h:=.map ((Y9 s.Bc i).map Adr.enc) (ZO (Y9 s.Bc i).length)::hh) (b:=0) rfl
   rw[A];generalize Y9 s.Bc i=K at w o hP⊢;have r:∀a b,YK [.map (K.map Adr.enc)<|ZO K.length,a,b] true [2,1,2,1,1] (.mp 0) (.agg [.str x.By,I x.An.N,.str x.An.bn,I x.An.Num,I x.An.Den]) (.bool true)=_:=λa b=>w [a,b]
   have j:∀a b,W5 [.map (K.map Adr.enc)<|ZO K.length,a,b] true [2,1,2,1,1] false (.bool false) (.mp 0) (.agg [.str x.By,I x.An.N,.str x.An.bn,I x.An.Num,I x.An.Den])=_:=λa b=>o [a,b]
   unfold Hd;unfold Jr at hP⊢;cases h1:x.Ld != -1 with
   |true=>
    refine⟨_,by simp only[go_sem,c92L0b,m,q,v,Ga.enc,NL.enc,h1,e,g];rfl,?_⟩
    simp only[go_sem]
   |false=>
   cases h2:Z3 x.Veil emp with
   |false=>
    refine⟨_,by simp only[go_sem,c92L0b,m,q,v,Ga.enc,NL.enc,h1,h2,e,g];rfl,?_⟩
    simp only[go_sem]
   |true=>
    have l:K.any (XK<|WI x)=false:=by simpa[h1,h2]using hP
    refine⟨_,by simp only[go_sem,c92L0b,m,q,v,Ga.enc,NL.enc,h1,h2,j,r,l,e,g];rfl,?_⟩
    simp only[go_sem])
  (λi x hx hP=>by
   have m:=Z6 (f:=Ga.enc) hx;have q:=Zh<|Z7 hx;have o:=λhh=>H5 (ag:=true) (kk:=[2,1,2,1,1]) (enc:=Adr.enc) (eq:=XK) NK (Y9 s.Bc i) (WI x) (h:=.map ((Y9 s.Bc i).map Adr.enc) (ZO (Y9 s.Bc i).length)::hh) (b:=0) rfl
   generalize Y9 s.Bc i=K at o hP⊢;have j:∀a b,W5 [.map (K.map Adr.enc)<|ZO K.length,a,b] true [2,1,2,1,1] false (.bool false) (.mp 0) (.agg [.str x.By,I x.An.N,.str x.An.bn,I x.An.Num,I x.An.Den])=_:=λa b=>o [a,b]
   unfold Jr at hP;have h1:(x.Ld != -1)=false:=by cases h:x.Ld != -1<;>simp_all
   have h2:Z3 x.Veil emp=true:=by cases h:Z3 x.Veil emp<;>simp_all
   have l:K.any (XK<|WI x)=true:=by simpa[h1,h2]using hP
   refine⟨_,_,by simp only[go_sem,c92L0b,m,q,Ga.enc,NL.enc,h1,h2,j,l,e,g];rfl,?_⟩
   simp only[go_sem])
  (⟨_,_,by simp only[go_sem,c92L0b,ZG];rfl,by simp only[go_sem]⟩)
 obtain⟨fr',h',h1,h2,l⟩:=L;have c:Zg rE [3,9,10,11] c92L0b [(3,.mp 0),(9,.isl false false 16<|s.Bc.map Ga.enc),(10,I s.Bc.length),(11,.int .i64 0)] [.map [] []]=_:=h1;rw[Z5 (f:=92) rfl rfl];have p:Zu (λi d=>Jr d||!(Y9 s.Bc i).any (XK<|WI d)) 0 s.Bc=Wh s.Bc:=rfl
 rw[p]at c l;cases u:Wh s.Bc with
 |true=>rw[u]at c;simp only[go_sem,c92,c92L0,c]
 |false=>rw[u]at c;simp only[go_sem,c92,c92L0,c,l u,ZXB]
def Ye(V:List Bool):List AV:=V.map .bool
theorem Wi(x y:Int):Zz false [1] (I x) (I y)=some (x==y):=by simp[go_sem]
def Z2W(K:List Int)(V:List Bool)(e:V.length=K.length)(x:Int){h:Hp}{b:Nat}(d:h[b]?=some (.map (K.map I)<|Ye V)):
 ∃c,W5 h false [1] false (.bool false) (.mp b) (I x)=some (.bool c):=by
 simp[W5,QW,Wi];rcases Uq (ag:=false) (kk:=[1]) (enc:=I) (eq:=λa b=>a==b) Wi x K 0 with⟨h1,h2⟩|⟨j,h1,h2,h3,h4⟩
 all_goals simp_all[Ye]
def Z2X(K:List Int)(V:List Bool)(f:V.length=K.length)(x:Int)(c:Bool){h:Hp}{b:Nat}(g:h[b]?=some (.map (K.map I)<|Ye V)):
 ∃(d:List Int)(e:List Bool),e.length=d.length/\d.length<=K.length+1/\YK h false [1] (.mp b) (I x) (.bool c)=some (.bot,setH h b<|.map (d.map I)<|Ye e):=by
 simp[YK,g,Yo,Wi];rcases Uq (ag:=false) (kk:=[1]) (enc:=I) (eq:=λa b=>a==b) Wi x K 0 with⟨h1,h2⟩|⟨j,h1,h2,h3,h4⟩
 .rw[h1];refine⟨K++[x],V++[c],by grind,by simp,?_⟩
  simp[Ye,ZM,ZH]
 .rw[h1];refine⟨K,V.set j c,by grind,by omega,?_⟩
  simp[Ye,ZM,ZH]
def Vm(a b:Int):Bool:=a==b
def Y2(p:bf):Bool:=QM p.a 0 0&&(QM p.b 0 0&&!(p.a==p.b))
def QV(l:List bf)(i:Nat):List Int:=(l.take i).foldl (λK p=>Qi Vm K p.b) []
def UB(l:List bf):Bool:=Zu (λi p=>Y2 p&&!(QV l i).any (Vm p.b)) 0 l
def WJ:(0<=(0:Int)/\(0:Int)<((2:Nat):Int))=True:=by simp
def XL:(0<=(1:Int)/\(1:Int)<((2:Nat):Int))=True:=by simp
def Z2Y(d m:AV)(c:∀n,bel n d=true)(e:∀n,bel n m=true)(l:List bf)(C:l.length<=1000):
 ∃fr' h',Zg rE [1,3,4,17,18,19,24,25,26] c147L0b [(1,m),(3,.mp 0),(4,.int .i64 0),(17,d),(18,.int .i64 2),(19,.int .i64 0),(24,.isl false false 2<|l.map bf.enc),(25,I l.length),(26,.int .i64 0)] [.map [] []] =
  some (if UB l=true then .exit 2 else .ret,fr',h')/\
  (UB l=true->(get fr' 1=m/\get fr' 2=.bot/\get fr' 3=.mp 0/\get fr' 17=d/\get fr' 18=.int .i64 2/\get fr' 19=.int .i64 0)/\∃(K:List Int)(V:List Bool),V.length=K.length/\h'=[.map (K.map I)<|Ye V])/\(UB l=false->get fr' 2=.bool false/\get fr' 1=m/\get fr' 3=.mp 0/\get fr' 17=d/\get fr' 18=.int .i64 2/\get fr' 19=.int .i64 0):=by
 have g:∀n(K:List Int),Zd n (K.map I)=true:=λn K=>ZN _<|Zw (λt=>rfl) K
 have j:∀n k,Zd n (ZO k)=true:=λn k=>ZN _<|Ut k
 have n0:((0:Int)).toNat=0:=rfl;have v:((1:Int)).toNat=1:=rfl;have w:((0:Int)==0)=true:=rfl;have L:=Jk (E:=rE) (live:=[1,3,4,17,18,19,24,25,26]) (b:=c147L0b) l (λi p=>Y2 p&&!(QV l i).any (Vm p.b))
  (λi=>[(1,m),(3,.mp 0),(4,.int .i64 0),(17,d),(18,.int .i64 2),(19,.int .i64 0),(24,.isl false false 2<|l.map bf.enc),(25,I l.length),(26,I i)])
  (λi=>[.map ((QV l i).map I)<|ZO (QV l i).length]) 2
  (λfr h=>(get fr 1=m/\get fr 2=.bot/\get fr 3=.mp 0/\get fr 17=d/\get fr 18=.int .i64 2/\get fr 19=.int .i64 0)/\h=[.map ((QV l l.length).map I)<|ZO (QV l l.length).length])
  (λfr h=>get fr 2=.bool false/\get fr 1=m/\get fr 3=.mp 0/\get fr 17=d/\get fr 18=.int .i64 2/\get fr 19=.int .i64 0) (λi=>rfl)
  (λi x hx hP=>by
   have q:=Z6 (f:=bf.enc) hx;have r:=Zh<|Z7 hx;have B:=Zx (n:=i)<|by grind
   have A:QV l (i+1)=Qi Vm (QV l i) x.b:=Us _ [] hx;have y:=λhh=>Ur (ag:=false) (kk:=[1]) (enc:=I) (eq:=Vm) Wi (QV l i) x.b (h:=.map ((QV l i).map I) (ZO (QV l i).length)::hh) (b:=0) rfl
   have u:=λhh=>H5 (ag:=false) (kk:=[1]) (enc:=I) (eq:=Vm) Wi (QV l i) x.b (h:=.map ((QV l i).map I) (ZO (QV l i).length)::hh) (b:=0) rfl
   rw[A];generalize QV l i=K at y u hP⊢;simp only[Y2,ZXf,ZXM]at hP;obtain⟨⟨h1,h2,o⟩,s⟩:=hP;refine⟨_,by simp only[go_sem,c147L0b,q,r,B,bf.enc,WJ,XL,n0,v,ZXN,if_true,Qc,h1,h2,o,w,u,y,s,g,j,c,e];rfl,?_⟩
   simp only[go_sem])
  (λi x hx hP=>by
   have q:=Z6 (f:=bf.enc) hx;have r:=Zh<|Z7 hx;have u:=λhh=>H5 (ag:=false) (kk:=[1]) (enc:=I) (eq:=Vm) Wi (QV l i) x.b (h:=.map ((QV l i).map I) (ZO (QV l i).length)::hh) (b:=0) rfl
   generalize QV l i=K at u hP⊢;unfold Y2 at hP;cases h1:QM x.a 0 0 with
   |false=>
    refine⟨_,_,by simp only[go_sem,c147L0b,q,r,bf.enc,WJ,n0,ZXN,if_true,Qc,h1,g,j,c,e];rfl,?_⟩
    refine⟨?_,?_,?_,?_,?_,?_⟩<;>simp only[go_sem]
   |true=>
   cases h2:QM x.b 0 0 with
   |false=>
    refine⟨_,_,by simp only[go_sem,c147L0b,q,r,bf.enc,WJ,XL,n0,v,ZXN,if_true,Qc,h1,h2,g,j,c,e];rfl,?_⟩
    refine⟨?_,?_,?_,?_,?_,?_⟩<;>simp only[go_sem]
   |true=>
   cases o:x.a==x.b with
   |true=>
    refine⟨_,_,by simp only[go_sem,c147L0b,q,r,bf.enc,WJ,XL,n0,v,ZXN,if_true,Qc,h1,h2,o,g,j,c,e];rfl,?_⟩
    refine⟨?_,?_,?_,?_,?_,?_⟩<;>simp only[go_sem]
   |false=>
    have s:K.any (Vm x.b)=true:=by grind
    refine⟨_,_,by simp only[go_sem,c147L0b,q,r,bf.enc,WJ,XL,n0,v,ZXN,if_true,Qc,h1,h2,o,w,u,s,g,j,c,e];rfl,?_⟩
    refine⟨?_,?_,?_,?_,?_,?_⟩<;>simp only[go_sem])
  (⟨_,_,by simp only[go_sem,c147L0b,ZG];rfl,by refine⟨⟨?_,?_,?_,?_,?_,?_⟩,?_⟩<;>simp only[go_sem]⟩)
 obtain⟨fr',h',h1,h2,o⟩:=L;refine⟨fr',h',h1,λh=>?_,o⟩
 obtain⟨s,z⟩:=h2 h;refine⟨s,QV l l.length,List.replicate (QV l l.length).length true,by simp,?_⟩
 simp_all[Ye,ZO]
def Z2Z(g q:AV)(i:∀n,bel n g=true)(m:∀n,bel n q=true)(l:List bf)(T:l.length<=1000)(B:List Int)(F:List Bool)(C:F.length=B.length):
 ∃fr' h',Zg rE [1,3,4,17,18,19,24,25,26] c147L0b [(1,q),(3,.mp 0),(4,.int .i64 1),(17,g),(18,.int .i64 2),(19,.int .i64 1),(24,.isl false false 2<|l.map bf.enc),(25,I l.length),(26,.int .i64 0)] [.map (B.map I)<|Ye F] =
  some (if l.all Y2=true then .exit 2 else .ret,fr',h')/\
  (l.all Y2=true->(get fr' 1=q/\get fr' 2=.bot/\get fr' 3=.mp 0/\get fr' 17=g/\get fr' 18=.int .i64 2/\get fr' 19=.int .i64 1)/\∃o,h'=[o]/\∀n,Zj n o=true)/\(l.all Y2=false->get fr' 2=.bool false/\get fr' 1=q/\get fr' 3=.mp 0/\get fr' 17=g/\get fr' 18=.int .i64 2/\get fr' 19=.int .i64 1):=by
 have j:∀n(K:List Int),Zd n (K.map I)=true:=λn K=>ZN _<|Zw (λt=>rfl) K
 have k:∀n(V:List Bool),Zd n (Ye V)=true:=λn V=>ZN _<|Zw (λt=>rfl) V
 have n0:((0:Int)).toNat=0:=rfl;have H:((1:Int)).toNat=1:=rfl;have J:((1:Int)==0)=false:=rfl
 suffices G:∀(e d:List bf)(K:List Int)(V:List Bool),l=d++e->V.length=K.length->
  ∃fr' h',Zg rE [1,3,4,17,18,19,24,25,26] c147L0b [(1,q),(3,.mp 0),(4,.int .i64 1),(17,g),(18,.int .i64 2),(19,.int .i64 1),(24,.isl false false 2<|l.map bf.enc),(25,I l.length),(26,I d.length)] [.map (K.map I)<|Ye V] =
  some (if e.all Y2=true then .exit 2 else .ret,fr',h')/\
  (e.all Y2=true->(get fr' 1=q/\get fr' 2=.bot/\get fr' 3=.mp 0/\get fr' 17=g/\get fr' 18=.int .i64 2/\get fr' 19=.int .i64 1)/\∃o,h'=[o]/\∀n,Zj n o=true)/\(e.all Y2=false->get fr' 2=.bool false/\get fr' 1=q/\get fr' 3=.mp 0/\get fr' 17=g/\get fr' 18=.int .i64 2/\get fr' 19=.int .i64 1)from G l [] B F rfl C
 intro e;induction e with
 |nil=>
  intro d K V y r;have v:l.length=d.length:=by grind
  have O:decide ((d.length:Int)<(l.length:Int))=false:=by grind
  refine⟨_,_,Q7 rfl (by simp only[go_sem,c147L0b,O];rfl) (by simp),λ_=>⟨?_,_,rfl,λn=>by simp only[go_sem,j,k]⟩,λh=>by grind⟩
  refine⟨?_,?_,?_,?_,?_,?_⟩<;>simp only[go_sem]
 |cons x e ih=>
  intro d K V y r;have E:l[d.length]?=some x:=by grind
  have A:=Z6 (f:=bf.enc) E;have w:=Zh<|Z7 E;have L:=Z7 E;have P:=Zx (n:=d.length)<|by omega
  rw[ZYi];cases h1:QM x.a 0 0 with
  |false=>
   have p:Y2 x=false:=by grind [Y2]
   rw[p,ZXm];refine⟨_,_,Q7 rfl (by simp only[go_sem,c147L0b,A,w,bf.enc,WJ,n0,ZXN,if_true,Qc,h1,j,k,i,m];rfl) (by simp),λh=>(by grind),λ_=>?_⟩
   refine⟨?_,?_,?_,?_,?_,?_⟩<;>simp only[go_sem]
  |true=>
  cases h2:QM x.b 0 0 with
  |false=>
   have p:Y2 x=false:=by grind [Y2]
   rw[p,ZXm];refine⟨_,_,Q7 rfl (by simp only[go_sem,c147L0b,A,w,bf.enc,WJ,XL,n0,H,ZXN,if_true,Qc,h1,h2,j,k,i,m];rfl) (by simp),λh=>(by grind),λ_=>?_⟩
   refine⟨?_,?_,?_,?_,?_,?_⟩<;>simp only[go_sem]
  |true=>
  cases z:x.a==x.b with
  |true=>
   have p:Y2 x=false:=by simp_all[Y2]
   rw[p,ZXm];refine⟨_,_,Q7 rfl (by simp only[go_sem,c147L0b,A,w,bf.enc,WJ,XL,n0,H,ZXN,if_true,Qc,h1,h2,z,j,k,i,m];rfl) (by simp),λh=>(by grind),λ_=>?_⟩
   refine⟨?_,?_,?_,?_,?_,?_⟩<;>simp only[go_sem]
  |false=>
   have p:Y2 x=true:=by grind [Y2]
   rw[p,ZXk];obtain⟨c,R⟩:=Z2W K V r x.b (h:=[.map (K.map I)<|Ye V,.row 2 [.agg [I x.a,I x.b]]]) (b:=0) rfl;obtain⟨M,Q,s,_,u⟩:=Z2X K V r x.b c (h:=[.map (K.map I)<|Ye V,.row 2 [.agg [I x.a,I x.b]]]) (b:=0) rfl;obtain⟨fr',h',S,N⟩:=ih (d++[x]) M Q (by grind) s
   refine⟨fr',h',?_,N⟩;rw[<-S];have D:((d++[x]).length:Int)=((d.length+1:Nat):Int):=by simp
   rw[D];cases c<;>exact(Yt rfl (by simp only[go_sem,c147L0b,A,w,P,bf.enc,WJ,XL,n0,H,ZXN,if_true,Qc,h1,h2,z,J,R,u,j,k,i,m];rfl)).trans (by simp only[go_sem])
def chN(s:Sta):Nat->Int->Bool
 |0,at'=>!decide (at'>=0)
 |k+1,at'=>bif decide (at'>=0)then chN s k (XJ s at')else true
def Fl(s:Sta)(e:StS s)(b c d:AV)(h:Hp):∀k n a,n+k=s.Gc.length+1->
 ∃fr',Zg rE [1,10,11,71,72,73] c147L2b [(1,.iptr false [.isl false false 6<|s.Fa.map Gk.enc,.isl false false 5<|s.Gm.map By.enc,.isl false false 4<|s.Bt.map Ev.enc,.isl false false 16<|s.Bc.map Ga.enc,.isl false false 6<|s.Nk.map be.enc,.isl false false 2<|s.Gc.map bf.enc,.isl false false 2<|s.ba.map bf.enc]),(10,I a),(11,I (n:Nat)),(71,b),(72,c),(73,d)] h =
  some (if chN s k a=true then .exit 6 else .ret,fr',h)/\(chN s k a=true->get fr' 2=.bot/\get fr' 1=.iptr false [.isl false false 6<|s.Fa.map Gk.enc,.isl false false 5<|s.Gm.map By.enc,.isl false false 4<|s.Bt.map Ev.enc,.isl false false 16<|s.Bc.map Ga.enc,.isl false false 6<|s.Nk.map be.enc,.isl false false 2<|s.Gc.map bf.enc,.isl false false 2<|s.ba.map bf.enc]/\get fr' 71=b/\get fr' 72=c/\get fr' 73=d)/\(chN s k a=false->get fr' 2=.bool false/\get fr' 1=.iptr false [.isl false false 6<|s.Fa.map Gk.enc,.isl false false 5<|s.Gm.map By.enc,.isl false false 4<|s.Bt.map Ev.enc,.isl false false 16<|s.Bc.map Ga.enc,.isl false false 6<|s.Nk.map be.enc,.isl false false 2<|s.Gc.map bf.enc,.isl false false 2<|s.ba.map bf.enc]/\get fr' 71=b/\get fr' 72=c/\get fr' 73=d):=by
 intro k;induction k with
 |zero=>
  intro n a g;unfold chN;cases h1:decide (a>=0)with
  |false=>
   refine⟨_,Q7 rfl (by simp[go_sem,c147L2b,h1,GH];rfl) (by simp),λ_=>?_,λhh=>(by grind)⟩
   refine⟨?_,?_,?_,?_,?_⟩<;>simp[go_sem]
  |true=>
   have h2:decide ((n:Int)>(s.Gc.length:Int))=true:=decide_eq_true<|by omega
   refine⟨_,Q7 rfl (by simp only[go_sem,c147L2b,h1,h2,GH];rfl) (by simp),λhh=>(by grind),λ_=>?_⟩
   refine⟨?_,?_,?_,?_,?_⟩<;>simp only[go_sem]
 |succ k ih=>
  intro n a g;unfold chN;cases h1:decide (a>=0)with
  |false=>
   refine⟨_,Q7 rfl (by simp only[go_sem,c147L2b,h1,GH];rfl) (by simp),λ_=>?_,λhh=>(by grind)⟩
   refine⟨?_,?_,?_,?_,?_⟩<;>simp only[go_sem]
  |true=>
   have h2:decide ((n:Int)>(s.Gc.length:Int))=false:=decide_eq_false<|by omega
   have m:=e.merged;have j:=Zx (n:=n)<|by omega
   have l:=NJ s e a;obtain⟨fr',i,f⟩:=ih (n+1) (XJ s a)<|by omega
   rw[cond_true];refine⟨fr',?_,f⟩;rw[<-i];exact(Yt rfl (by simp only[go_sem,c147L2b,h1,h2,j,l,GH];rfl)).trans (by simp only[go_sem])
def WK(s:Sta):Bool:=UB s.Gc&&(s.ba.all Y2&&s.Gc.all (λp=>chN s (s.Gc.length+1) p.b))
def Z30(s:Sta)(m:StS s)(o:AObj)(v:∀n,Zj n o=true):
 ∃fr',Zg rE [1,71,72,73] c147L3b [(1,.iptr false [.isl false false 6<|s.Fa.map Gk.enc,.isl false false 5<|s.Gm.map By.enc,.isl false false 4<|s.Bt.map Ev.enc,.isl false false 16<|s.Bc.map Ga.enc,.isl false false 6<|s.Nk.map be.enc,.isl false false 2<|s.Gc.map bf.enc,.isl false false 2<|s.ba.map bf.enc]),(71,.isl false false 2<|s.Gc.map bf.enc),(72,I s.Gc.length),(73,.int .i64 0)] [o] =
  some (if s.Gc.all (λp=>chN s (s.Gc.length+1) p.b)=true then .exit 4 else .ret,fr',[o])/\(s.Gc.all (λp=>chN s (s.Gc.length+1) p.b)=false->get fr' 2=.bool false):=by
 have u:((1:Int)).toNat=1:=rfl;generalize j:AV.iptr false [.isl false false 6<|s.Fa.map Gk.enc,.isl false false 5<|s.Gm.map By.enc,.isl false false 4<|s.Bt.map Ev.enc,.isl false false 16<|s.Bc.map Ga.enc,.isl false false 6<|s.Nk.map be.enc,.isl false false 2<|s.Gc.map bf.enc,.isl false false 2<|s.ba.map bf.enc]=a;have k:∀n,bel n a=true:=λn=>by rw[<-j];rfl
 have L:=Uf (E:=rE) (live:=[1,71,72,73]) (b:=c147L3b) (h:=[o]) s.Gc (λ_ p=>chN s (s.Gc.length+1) p.b) (λi=>[(1,a),(71,.isl false false 2<|s.Gc.map bf.enc),(72,I s.Gc.length),(73,I i)]) 4 (λfr=>get fr 2=.bool false) (λi=>rfl)
  (λi x hx hP=>by
   have r:=Z6 (f:=bf.enc) hx;have t:=Zh<|Z7 hx;have w:=Zx (n:=i) (by have:=Z7 hx;have:=m.merged;omega)
   obtain⟨fr',h1,h2,_⟩:=Fl s m (.isl false false 2<|s.Gc.map bf.enc) (I s.Gc.length) (I i) [o,.row 2 [.agg [I x.a,I x.b]]] (s.Gc.length+1) 0 x.b<|by omega
   rw[hP,if_pos rfl,j]at h1;obtain⟨q,l,d,c,g⟩:=h2 hP;rw[j]at l;have e:Zg rE [1,10,11,71,72,73] c147L2b [(1,a),(10,I x.b),(11,.int .i64 0),(71,.isl false false 2<|s.Gc.map bf.enc),(72,I s.Gc.length),(73,I i)] [o,.row 2 [.agg [I x.a,I x.b]]]=_:=h1;refine⟨_,by simp only[go_sem,c147L3b,c147L2,r,t,w,bf.enc,XL,u,ZXN,if_true,e,l,q,d,c,g,v,k];rfl,?_⟩
   simp only[go_sem])
  (λi x hx hP=>by
   have r:=Z6 (f:=bf.enc) hx;have t:=Zh<|Z7 hx;obtain⟨fr',h1,_,h2⟩:=Fl s m (.isl false false 2<|s.Gc.map bf.enc) (I s.Gc.length) (I i) [o,.row 2 [.agg [I x.a,I x.b]]] (s.Gc.length+1) 0 x.b<|by omega
   rw[hP,j]at h1;obtain⟨q,l,d,c,g⟩:=h2 hP;rw[j]at l;have e:Zg rE [1,10,11,71,72,73] c147L2b [(1,a),(10,I x.b),(11,.int .i64 0),(71,.isl false false 2<|s.Gc.map bf.enc),(72,I s.Gc.length),(73,I i)] [o,.row 2 [.agg [I x.a,I x.b]]]=_:=h1;refine⟨_,by simp only[go_sem,c147L3b,c147L2,r,t,bf.enc,XL,u,ZXN,if_true,e,l,q,d,c,g,v,k,ZXB];rfl,?_⟩
   simp only[go_sem])
  (⟨_,by simp only[go_sem,c147L3b,ZG];rfl⟩)
 grind [QE]
def Z31(s:Sta)(B:StS s):pfn rE 147 [stA s]=some (.bool<|WK s):=by
 have W:∀n(K:List Int),Zd n (K.map I)=true:=λn K=>ZN _<|Zw (λt=>rfl) K
 have Y:∀n(V:List Bool),Zd n (Ye V)=true:=λn V=>ZN _<|Zw (λt=>rfl) V
 have Q:ixG [AV.isl false false 2<|s.Gc.map bf.enc,.isl false false 2<|s.ba.map bf.enc] 0=some (.isl false false 2<|s.Gc.map bf.enc):=rfl;have S:ixG [AV.isl false false 2<|s.Gc.map bf.enc,.isl false false 2<|s.ba.map bf.enc] 1=some (.isl false false 2<|s.ba.map bf.enc):=rfl;have u:decide ((0:Int)<2)=true:=rfl;have r:decide ((1:Int)<2)=true:=rfl;have J:decide ((2:Int)<2)=false:=rfl;have w0:IntKind.i64.wrap ((0:Int)+1)=1:=rfl;have X:IntKind.i64.wrap ((1:Int)+1)=2:=rfl;have c2:(((0+1+1:Nat):Nat):Int)=2:=rfl;have e:((2:Nat):Int)=2:=rfl;obtain⟨f1,g1,g,A,N⟩:=Z2Y (.isl false false 1 [.isl false false 2<|s.Gc.map bf.enc,.isl false false 2<|s.ba.map bf.enc]) (.iptr false [.isl false false 6<|s.Fa.map Gk.enc,.isl false false 5<|s.Gm.map By.enc,.isl false false 4<|s.Bt.map Ev.enc,.isl false false 16<|s.Bc.map Ga.enc,.isl false false 6<|s.Nk.map be.enc,.isl false false 2<|s.Gc.map bf.enc,.isl false false 2<|s.ba.map bf.enc]) (λn=>rfl) (λn=>rfl) s.Gc B.merged
 rw[Z5 (f:=147) rfl rfl];unfold WK;cases v:UB s.Gc with
 |false=>
  rw[v]at g;obtain⟨C,M,y,k,i,j⟩:=N v;have R:∃fr h,Zg rE [1,3,17,18,19] c147L1b [(1,.iptr false [.isl false false 6<|s.Fa.map Gk.enc,.isl false false 5<|s.Gm.map By.enc,.isl false false 4<|s.Bt.map Ev.enc,.isl false false 16<|s.Bc.map Ga.enc,.isl false false 6<|s.Nk.map be.enc,.isl false false 2<|s.Gc.map bf.enc,.isl false false 2<|s.ba.map bf.enc]),(3,.mp 0),(17,.isl false false 1 [.isl false false 2<|s.Gc.map bf.enc,.isl false false 2<|s.ba.map bf.enc]),(18,.int .i64 2),(19,.int .i64 0)] [.map [] []]=some (.ret,fr,h)/\get fr 2=.bool false:=by
   refine⟨_,_,Q7 rfl (by simp only[go_sem,c147L1b,c147L0,Q,u,g,M,C,y,k,i,j,ZXB];rfl) (by simp),?_⟩
   simp only[go_sem]
  obtain⟨fr,h,L,H⟩:=R;simp only[go_sem,c147,c147L1,e,L,H]
 |true=>
  rw[v,if_pos rfl]at g;obtain⟨⟨M,C,y,k,i,j⟩,K,V,hKV,rfl⟩:=A v;obtain⟨Z,g2,d,D,z⟩:=Z2Z (.isl false false 1 [.isl false false 2<|s.Gc.map bf.enc,.isl false false 2<|s.ba.map bf.enc]) (.iptr false [.isl false false 6<|s.Fa.map Gk.enc,.isl false false 5<|s.Gm.map By.enc,.isl false false 4<|s.Bt.map Ev.enc,.isl false false 16<|s.Bc.map Ga.enc,.isl false false 6<|s.Nk.map be.enc,.isl false false 2<|s.Gc.map bf.enc,.isl false false 2<|s.ba.map bf.enc]) (λn=>rfl) (λn=>rfl) s.ba B.rulings K V hKV
  have x:=Yt (E:=rE) (live:=[1,3,17,18,19]) (b:=c147L1b) (fr:=[(1,.iptr false [.isl false false 6<|s.Fa.map Gk.enc,.isl false false 5<|s.Gm.map By.enc,.isl false false 4<|s.Bt.map Ev.enc,.isl false false 16<|s.Bc.map Ga.enc,.isl false false 6<|s.Nk.map be.enc,.isl false false 2<|s.Gc.map bf.enc,.isl false false 2<|s.ba.map bf.enc]),(3,.mp 0),(17,.isl false false 1 [.isl false false 2<|s.Gc.map bf.enc,.isl false false 2<|s.ba.map bf.enc]),(18,.int .i64 2),(19,.int .i64 0)]) (h:=[.map [] []]) rfl (by simp only[go_sem,c147L1b,c147L0,Q,u,w0,g,M,C,y,k,i,j];rfl)
  simp only[go_sem]at x;cases a:s.ba.all Y2 with
  |false=>
   rw[a]at d;obtain⟨G,O,P,l,m,q⟩:=z a;have R:∃fr h,Zg rE [1,3,17,18,19] c147L1b [(1,.iptr false [.isl false false 6<|s.Fa.map Gk.enc,.isl false false 5<|s.Gm.map By.enc,.isl false false 4<|s.Bt.map Ev.enc,.isl false false 16<|s.Bc.map Ga.enc,.isl false false 6<|s.Nk.map be.enc,.isl false false 2<|s.Gc.map bf.enc,.isl false false 2<|s.ba.map bf.enc]),(3,.mp 0),(17,.isl false false 1 [.isl false false 2<|s.Gc.map bf.enc,.isl false false 2<|s.ba.map bf.enc]),(18,.int .i64 2),(19,.int .i64 1)] [.map (K.map I)<|Ye V]=some (.ret,fr,h)/\get fr 2=.bool false:=by
    refine⟨_,_,Q7 rfl (by simp only[go_sem,c147L1b,c147L0,S,r,d,O,G,P,l,m,q,ZXB];rfl) (by simp),?_⟩
    simp only[go_sem]
   obtain⟨fr,h,L,H⟩:=R;simp only[go_sem,c147,c147L1,e,x,L,H]
  |true=>
   rw[a,if_pos rfl]at d;obtain⟨⟨O,G,P,l,m,q⟩,o,rfl,ho⟩:=D a;have F:=Yt (E:=rE) (live:=[1,3,17,18,19]) (b:=c147L1b) (fr:=[(1,.iptr false [.isl false false 6<|s.Fa.map Gk.enc,.isl false false 5<|s.Gm.map By.enc,.isl false false 4<|s.Bt.map Ev.enc,.isl false false 16<|s.Bc.map Ga.enc,.isl false false 6<|s.Nk.map be.enc,.isl false false 2<|s.Gc.map bf.enc,.isl false false 2<|s.ba.map bf.enc]),(3,.mp 0),(17,.isl false false 1 [.isl false false 2<|s.Gc.map bf.enc,.isl false false 2<|s.ba.map bf.enc]),(18,.int .i64 2),(19,.int .i64 1)]) (h:=[.map (K.map I)<|Ye V]) rfl (by simp only[go_sem,c147L1b,c147L0,S,r,X,d,O,G,P,l,m,q];rfl)
   simp only[go_sem]at F;have T:=Q7 (E:=rE) (live:=[1,3,17,18,19]) (b:=c147L1b) (fr:=[(1,.iptr false [.isl false false 6<|s.Fa.map Gk.enc,.isl false false 5<|s.Gm.map By.enc,.isl false false 4<|s.Bt.map Ev.enc,.isl false false 16<|s.Bc.map Ga.enc,.isl false false 6<|s.Nk.map be.enc,.isl false false 2<|s.Gc.map bf.enc,.isl false false 2<|s.ba.map bf.enc]),(3,.mp 0),(17,.isl false false 1 [.isl false false 2<|s.Gc.map bf.enc,.isl false false 2<|s.ba.map bf.enc]),(18,.int .i64 2),(19,.int .i64 2)]) (h:=[o]) rfl (by simp only[go_sem,c147L1b,J];rfl) (by simp)
   obtain⟨f4,w,U⟩:=Z30 s B o ho;cases c:s.Gc.all (λp=>chN s (s.Gc.length+1) p.b)with
   |true=>rw[c,if_pos rfl]at w;simp only[go_sem,c147,c147L1,c147L3,e,x,F,T,w]
   |false=>rw[c]at w;simp only[go_sem,c147,c147L1,c147L3,e,x,F,T,w,U c,ZXB]
def c145_eq:c145=.seq s145p0 (.seq s145p1<|.seq s145p2<|.seq s145p3<|.seq s145p4<|.seq s145p5<|.seq s145p6<|.seq s145p7<|.seq s145p8<|.seq s145p9<|.seq s145p10 .ret):=(rfl)
def Zo(d:Ga):AV:=.agg [.str d.Id,.str d.Ev,.str d.By,I d.bh,I d.An.N,.str d.An.bn,I d.An.Num,I d.An.Den,I d.bg.X,I d.bg.Y,I d.From,I d.Ld,.isl false d.After.ex 1<|d.After.l.map encS,I d.Why,I d.bz,.str d.Veil]
def exD(d:Ga):Bool:=d.Ld==-1
def K8(s:Sta)(i:Int)(d:Ga):Bool:=d.After.l.all λid=>!decide (Zn s id<=i)
def Yf(d:Ga):Int:=(d.After.l.length:Int)
def He(d:Ga):Bool:=
 bif d.Why==12 then Yf d==0 else bif d.Why==11 then Yf d==0&&Z3 d.Veil emp else bif d.Why==9 then ZD (Yf d) 2 8&&Z3 d.Veil emp else bif d.Why==10 then Yf d==1&&Z3 d.Veil emp else false
def UC(d:Ga):Bool:=(((!(exD d==(d.Why==0)))||(exD d&&decide (Yf d>0)))||(!exD d&&!He d))||!Jq d.After.l
def NM(d:Ga):Gt:=⟨0,0,0,0,d.bz,d.Id,emp,d.Veil,⟨false,[]⟩,⟨false,[]⟩,⟨0,emp,0,0⟩,⟨0,0⟩,⟨false,[]⟩,⟨false,[]⟩⟩
def Hf(d:Ga):Gt:=⟨0,0,0,0,0,d.Id,d.Ev,d.By,⟨false,[]⟩,⟨false,[]⟩,d.An,d.bg,⟨false,[]⟩,⟨false,[]⟩⟩
def NN(d:Ga):Bool:=Z3 d.Ev emp&&(Z3 d.By emp&&(QL d.An ⟨0,emp,0,0⟩&&(QK d.bg ⟨0,0⟩&&Q9 {NM d with br:=15})))
def WL(s:Sta)(k:Int):Int:=match s.Bt[k.toNat]? with|some b=>b.Ld|none=>0
def QF(s:Sta)(k:Int):Int:=match s.Gm[k.toNat]? with|some b=>b.Ld|none=>0
def NO(s:Sta)(d:Ga):Bool:=((d.bz != 0||decide (Y1 s d.Ev<0))||decide (ZL s d.By<0))||(exD d&&(WL s (Y1 s d.Ev) != -1||QF s (ZL s d.By) != -1))
def Hg(s:Sta)(i:Int)(d:Ga):Bool:=
 K8 s i d&&(!UC d&&(bif Z3 d.Veil emp then !NO s d&&Q9 {Hf d with br:=6}else NN d))
structure DoS(d:Ga):Prop where
 after:d.After.l.length<=100
 id:d.Id.size<=1000
 building:d.Ev.size<=1000
 street:d.By.size<=1000
 veil:d.Veil.size<=1000
abbrev stI(s:Sta):AV:=.iptr false [.isl false false 6<|s.Fa.map Gk.enc,.isl false false 5<|s.Gm.map By.enc,.isl false false 4<|s.Bt.map Ev.enc,.isl false false 16<|s.Bc.map Ga.enc,.isl false false 6<|s.Nk.map be.enc,.isl false false 2<|s.Gc.map bf.enc,.isl false false 2<|s.ba.map bf.enc]
def Z32(s:Sta)(k:StS s)(i:Int)(d:Ga)(m:DoS d):∃fr',Zg rE [1,2,5,6,22,23,24] c145L0b [(1,I i),(2,stI s),(5,.ptr 0 0 0 1),(6,.bool<|exD d),(22,.isl false d.After.ex 1<|d.After.l.map encS),(23,I d.After.l.length),(24,.int .i64 0)] [.row 16 [Zo d]] =
 some (if K8 s i d=true then .exit 0 else .ret,fr',[.row 16 [Zo d]])/\(K8 s i d=true->get fr' 2=stI s/\get fr' 4=.bot/\get fr' 5=.ptr 0 0 0 1/\get fr' 6=.bool (exD d))/\(K8 s i d=false->get fr' 4=.bool false):=by
 have L:=QT (E:=rE) (live:=[1,2,5,6,22,23,24]) (b:=c145L0b) (h:=[.row 16 [Zo d]]) d.After.l (λ_ id=>!decide (Zn s id<=i))
  (λj=>[(1,I i),(2,stI s),(5,.ptr 0 0 0 1),(6,.bool<|exD d),(22,.isl false d.After.ex 1<|d.After.l.map encS),(23,I d.After.l.length),(24,I j)]) 0
  (λfr=>get fr 2=stI s/\get fr 4=.bot/\get fr 5=.ptr 0 0 0 1/\get fr 6=.bool (exD d)) (λfr=>get fr 4=.bool false) (λj=>rfl)
  (λj x hx hP=>by
   have c:=Z6 (f:=encS) hx;have g:=Zh<|Z7 hx;have o:=Zx (n:=j) (by have:=Z7 hx;have:=m.after;omega)
   have e:=find_ok s k x;have a:decide (Zn s x<=i)=false:=by grind
   refine⟨_,by simp only[go_sem,c145L0b,c,g,o,encS,e,a];rfl,?_⟩
   simp only[go_sem])
  (λj x hx hP=>by
   have c:=Z6 (f:=encS) hx;have g:=Zh<|Z7 hx;have e:=find_ok s k x;have a:decide (Zn s x<=i)=true:=by grind
   refine⟨_,by simp only[go_sem,c145L0b,c,g,encS,e,a];rfl,?_⟩
   simp only[go_sem])
  (⟨_,by simp only[go_sem,c145L0b,ZG];rfl,by refine⟨?_,?_,?_,?_⟩<;>simp only[go_sem]⟩)
 rw[QE]at L;exact L
theorem Fm(s:Sta)(k:StS s)(i:Nat)(d:Ga)(l:DoS d)(n:s.Bc[i]?=some d)(a:ACode):
 (K8 s i d=true->Zb rE (.seq s145p0<|.seq s145p1<|.seq s145p2<|.seq s145p3 a) [(0,stA s),(1,I i)] []=Zb rE a [(2,stI s),(4,.bot),(5,.ptr 0 0 0 1),(6,.bool<|exD d)] [.row 16 [Zo d]])/\
 (K8 s i d=false->∃fr h,Zb rE (.seq s145p0<|.seq s145p1<|.seq s145p2<|.seq s145p3 a) [(0,stA s),(1,I i)] []=some (.ret,fr,h)/\get fr 4=.bool false):=by
 obtain⟨fr',h1,h2,p⟩:=Z32 s k i d l;have j:=Z6 (f:=Ga.enc) n;have b:(d.Ld==-1)=exD d:=rfl;unfold Zo at h1⊢;constructor
 .intro c;rw[if_pos c]at h1;obtain⟨m,e,q,o⟩:=h2 c;simp[go_sem,s145p0,s145p1,s145p2,s145p3,c145L0,j,Ga.enc,NL.enc,b,h1,m,e,q,o]
 .intro c;rw[c]at h1;have e:=p c;simp only[ZXB,if_false]at h1;refine⟨_,_,by simp only[go_sem,s145p0,s145p1,s145p2,s145p3,c145L0,j,Ga.enc,NL.enc,b,h1,e];rfl,?_⟩
  simp only[go_sem]
def XM(d:Ga):AObj:=.map [.int .i64 12,.int .i64 11,.int .i64 9,.int .i64 10] [.bool<|Yf d==0,.bool<|Yf d==0&&Z3 d.Veil emp,.bool<|ZD (Yf d) 2 8&&Z3 d.Veil emp,.bool<|Yf d==1&&Z3 d.Veil emp]
def Z33(f d:Bool)(e b:List Nat)(c a:Option Nat)(k v j u:AV):Kp ⟨f,e,c,some (k,v)⟩ ⟨d,b,a,some (j,u)⟩=YF k j:=(rfl)
def Fo(a b:Int):YF (.int .i64 a) (.int .i64 b)=(a != b):=(rfl)
def Z34(x:AObj)(a vs:List AV)(k:Int)(v:AV)(b:ZW false [1] (I k) a 0=some none):YK [x,.map a vs] false [1] (.mp 1) (I k) v=some (.bot,[x,.map (a++[I k])<|vs++[v]]):=by
 simp_all[YK,Yo,Wi,ZM,ZH,GN,GM]
def Js(b:Nat)(v:AV):Bool:=match v with| .mp c=>c==b|_=>false
def Z35(b:Nat):Js b (.mp b)=true:=by simp[Js]
def Z36{b:Nat}{v:AV}(h:Js b v=true):v=.mp b:=by
 cases v with
 |mp c=>have:c=b:=by grind [Js]
        rw[this]
 |_=>simp[Js]at h
def Z37(fr:Fr)(x:AObj)(a vs:List AV)(k:Int)(t:Nat)(d:Js 1 (get fr 37)=true)(l:ZW false [1] (I k) a 0=some none)(g:t≠37):
 Za rE (.ins false [1] (.t 37) (.c<|.int .i64 k)<|.t t) fr [x,.map a vs]=⟨false,[],some 1,some (I k,get fr t)⟩:=by
 have e:=Z36 d;obtain⟨v,m⟩:∃v,get fr t=v:=⟨_,rfl⟩;have b:get (Z2 (AOp.ins false [1] (.t 37) (.c<|.int .i64 k)<|.t t).slots fr) 37=.mp 1:=by
  grind [AOp.slots,Arg.slots,Z2,get]
 have i:get (Z2 (AOp.ins false [1] (.t 37) (.c<|.int .i64 k)<|.t t).slots fr) t=v:=by
  have:(37==t)=false:=by grind
  simp[AOp.slots,Arg.slots,Z2,get,this,m]
 simp_all[Fo,Za,QG,Z8,ev,Yo,Wi,Wm]
def Z38(s:Sta)(d:Ga)(a:ACode):
 Zb rE (.seq s145p4<|.seq s145p5 a) [(2,stI s),(4,.bot),(5,.ptr 0 0 0 1),(6,.bool<|exD d)] [.row 16 [Zo d]] =
  Zb rE a [(2,stI s),(5,.ptr 0 0 0 1),(6,.bool<|exD d),(9,I<|Yf d),(10,.mp 1)] [.row 16 [Zo d],XM d]:=by
 have f:((d.After.l.length:Nat):Int)=Yf d:=rfl;have q:ZW false [1] (.int .i64 12) [] 0=some none:=rfl;have e:ZW false [1] (.int .i64 11) [.int .i64 12] 0=some none:=rfl;have m:ZW false [1] (.int .i64 9) [.int .i64 12,.int .i64 11] 0=some none:=rfl;have j:ZW false [1] (.int .i64 10) [.int .i64 12,.int .i64 11,.int .i64 9] 0=some none:=rfl;have h:((11:Int) != 12)=true:=rfl;have n:((9:Int) != 12)=true:=rfl;have k:((9:Int) != 11)=true:=rfl;have o:((10:Int) != 12)=true:=rfl;have r:((10:Int) != 11)=true:=rfl;have p:((10:Int) != 9)=true:=rfl;have t:∀x:AV,Zd 1 [x]=bel 1 x:=λx=>by simp[Zd]
 unfold XM Zo;cases g:Yf d==0<;>cases i:Yf d==1<;>cases b:ZD (Yf d) 2 8<;>cases c:Z3 d.Veil emp<;>
  simp only[go_sem,s145p4,s145p5,f,g,i,b,c,DY,Z37,Z35,Z34,q,e,m,j,Z33,Fo,h,n,k,o,r,p,ne_eq,Nat.reduceEqDiff,not_false_eq_true]
def Z39(d:Ga)(x:AObj):W5 [x,XM d] false [1] false (.bool false) (.mp 1) (I d.Why)=some (.bool<|He d):=by
 unfold XM He;simp only[W5,ZYn,ZYf,QW,Wi,ZW];cases e:d.Why==12<;>cases c:d.Why==11<;>cases b:d.Why==9<;>cases a:d.Why==10<;>rfl
set_option maxHeartbeats 4000000 in
theorem Fp(s:Sta)(d:Ga)(p:DoS d)(b:ACode):
 (UC d=false->Zb rE (.seq s145p6 b) [(2,stI s),(5,.ptr 0 0 0 1),(6,.bool<|exD d),(9,I<|Yf d),(10,.mp 1)] [.row 16 [Zo d],XM d]=Zb rE b [(2,stI s),(5,.ptr 0 0 0 1),(6,.bool<|exD d),(90,.bool false)] [.row 16 [Zo d],XM d])/\
 (UC d=true->∃fr h,Zb rE (.seq s145p6 b) [(2,stI s),(5,.ptr 0 0 0 1),(6,.bool<|exD d),(9,I<|Yf d),(10,.mp 1)] [.row 16 [Zo d],XM d]=some (.ret,fr,h)/\get fr 4=.bool false):=by
 have g:=Z39 d;have e:=Fj d.After.l d.After.ex (by have:=p.after;omega)
 have i:(true==true)=true:=rfl;have k:(true==false)=false:=rfl;have n:(false==true)=false:=rfl;have o:(false==false)=true:=rfl;generalize XM d=m at g⊢;unfold UC Zo;cases r:exD d<;>cases j:d.Why==0<;>cases a:decide (Yf d>0)<;>cases f:He d<;>cases c:Jq d.After.l<;>rw[f]at g<;>rw[c]at e<;>
  (constructor<;>intro q<;>first|(exact absurd q<|by decide)|skip)
 all_goals first
  |(simp only[go_sem,s145p6,j,a,g,e,i,k,n,o];done)
  |(refine⟨_,_,by simp only[go_sem,s145p6,j,a,g,e,i,k,n,o];rfl,?_⟩;simp only[go_sem])
def Z3a(d:Ga)(a:DoS d):EvS (NM d):=⟨ZXi _,ZXi _,ZXi _,ZXi _,a.id,ZXi _,a.veil⟩
def Z3b(d:Ga)(a:DoS d):EvS (Hf d):=⟨ZXi _,ZXi _,ZXi _,ZXi _,a.id,a.building,a.street⟩
theorem Fq(s:Sta)(d:Ga)(l:DoS d)(m:AObj)(c:ACode):
 (Z3 d.Veil emp=true->Zb rE (.seq s145p7 c) [(2,stI s),(5,.ptr 0 0 0 1),(6,.bool<|exD d),(90,.bool false)] [.row 16 [Zo d],m]=Zb rE c [(2,stI s),(5,.ptr 0 0 0 1),(6,.bool<|exD d),(93,.bool false)] [.row 16 [Zo d],m])/\
 (Z3 d.Veil emp=false->∃fr h,Zb rE (.seq s145p7 c) [(2,stI s),(5,.ptr 0 0 0 1),(6,.bool<|exD d),(90,.bool false)] [.row 16 [Zo d],m]=some (.ret,fr,h)/\get fr 4=.bool (NN d)):=by
 have n:=Wg 15 (NM d)<|Z3a d l;have k:pfn rE 144 [I 15,.agg [I 0,I 0,I 0,I 0,I d.bz,.str d.Id,.str emp,.str d.Veil,.isl false false 1 [],.isl false false 3 [],I 0,.str emp,I 0,I 0,I 0,I 0,.isl false false 2 [],.isl false false 7 []]]=_:=n;have e:(d.An.N==0&&(Z3 d.An.bn emp&&(d.An.Num==0&&d.An.Den==0)))=QL d.An ⟨0,emp,0,0⟩:=rfl;have i:(d.bg.X==0&&d.bg.Y==0)=QK d.bg ⟨0,0⟩:=rfl;unfold NN Zo;constructor
 .intro f;simp only[go_sem,s145p7,f]
 .intro f;cases g:Z3 d.Ev emp with
  |false=>refine⟨_,_,by simp only[go_sem,s145p7,f,g];rfl,?_⟩;simp only[go_sem]
  |true=>
  cases j:Z3 d.By emp with
  |false=>refine⟨_,_,by simp only[go_sem,s145p7,f,g,j];rfl,?_⟩;simp only[go_sem]
  |true=>
  cases a:QL d.An ⟨0,emp,0,0⟩with
  |false=>refine⟨_,_,by simp only[go_sem,s145p7,f,g,j,e,a];rfl,?_⟩;simp only[go_sem]
  |true=>
  cases b:QK d.bg ⟨0,0⟩with
  |false=>refine⟨_,_,by simp only[go_sem,s145p7,f,g,j,e,a,i,b];rfl,?_⟩;simp only[go_sem]
  |true=>refine⟨_,_,by simp only[go_sem,s145p7,f,g,j,e,a,i,b,k];rfl,?_⟩;simp only[go_sem]
def QC{α:Type}{P:α->Bool}{l:List α}(h:decide (Zp P l 0<0)=false):∃(j:Nat)(x:α),Zp P l 0=(j:Int)/\l[j]?=some x:=by
 grind [UA]
def Z3c(s:Sta)(w:StS s)(d:Ga)(D:DoS d)(m:AObj):
 ∃fr h,Zb rE (.seq s145p8<|.seq s145p9<|.seq s145p10 .ret) [(2,stI s),(5,.ptr 0 0 0 1),(6,.bool<|exD d),(93,.bool false)] [.row 16 [Zo d],m]=some (.ret,fr,h)/\get fr 4=.bool (!NO s d&&Q9 {Hf d with br:=6}):=by
 have C:=Wg 6 (Hf d)<|Z3b d D;have p:pfn rE 144 [I 6,.agg [I 0,I 0,I 0,I 0,I 0,.str d.Id,.str d.Ev,.str d.By,.isl false false 1 [],.isl false false 3 [],I d.An.N,.str d.An.bn,I d.An.Num,I d.An.Den,I d.bg.X,I d.bg.Y,.isl false false 2 [],.isl false false 7 []]]=_:=C;have e:=Hb s w d.Ev;have g:=K7 s w d.By;unfold NO Zo;cases l:d.bz != 0 with
 |true=>refine⟨_,_,by simp only[go_sem,s145p8,s145p9,s145p10,e,g,l];rfl,?_⟩;simp only[go_sem]
 |false=>
 cases i:decide (Y1 s d.Ev<0)with
 |true=>refine⟨_,_,by simp only[go_sem,s145p8,s145p9,s145p10,e,g,l,i];rfl,?_⟩;simp only[go_sem]
 |false=>
 cases a:decide (ZL s d.By<0)with
 |true=>refine⟨_,_,by simp only[go_sem,s145p8,s145p9,s145p10,e,g,l,i,a];rfl,?_⟩;simp only[go_sem]
 |false=>
 obtain⟨j,x,B,A⟩:=QC i;obtain⟨k,y,E,z⟩:=QC a;have n:Y1 s d.Ev=(j:Int):=B;have o:ZL s d.By=(k:Int):=E;have u:WL s (Y1 s d.Ev)=x.Ld:=by grind [WL]
 have r:QF s (ZL s d.By)=y.Ld:=by simp_all[QF]
 have t:=Z6 (f:=Ev.enc) A;have v:=Z6 (f:=By.enc) z;rw[u,r];rw[n]at e i;rw[o]at g a;cases q:exD d with
 |false=>refine⟨_,_,by simp only[go_sem,s145p8,s145p9,s145p10,e,g,l,i,a,p];rfl,?_⟩;simp only[go_sem]
 |true=>
 cases b:x.Ld != -1 with
 |true=>refine⟨_,_,by simp only[go_sem,s145p8,s145p9,s145p10,e,g,l,i,a,t,Ev.enc,NL.enc,b];rfl,?_⟩;simp only[go_sem]
 |false=>
 cases c:y.Ld != -1 with
 |true=>refine⟨_,_,by simp only[go_sem,s145p8,s145p9,s145p10,e,g,l,i,a,t,v,Ev.enc,By.enc,NL.enc,b,c];rfl,?_⟩;simp only[go_sem]
 |false=>refine⟨_,_,by simp only[go_sem,s145p8,s145p9,s145p10,e,g,l,i,a,t,v,Ev.enc,By.enc,NL.enc,b,c,p];rfl,?_⟩;simp only[go_sem]
def Fs(s:Sta)(j:StS s)(i:Nat)(d:Ga)(g:DoS d)(m:s.Bc[i]?=some d):pfn rE 145 [stA s,I i]=some (.bool<|Hg s i d):=by
 rw[Z5 (f:=145) (c:=c145) rfl rfl,c145_eq];have o:QP 0 [stA s,I i]=[(0,stA s),(1,I i)]:=rfl;rw[o];unfold Hg;have e:∀(fr:Fr)(h:Hp)(b:Bool),get fr 4=.bool b->frz (fnd [ResVar.tmp 4]<|some (.ret,fr,h))=some (.bool b):=by
  intro fr h b n;simp[go_sem,n]
 cases k:K8 s i d with
 |false=>
  grind [Fm]
 |true=>
  rw[(Fm s j i d g m _).1 k,Z38];cases l:UC d with
  |true=>
   grind [Fp]
  |false=>
   rw[(Fp s d g _).1 l];cases a:Z3 d.Veil emp with
   |false=>
    grind [Fq]
   |true=>
    rw[(Fq s d g (XM d) _).1 a];obtain⟨fr,h,h1,h2⟩:=Z3c s j d g<|XM d
    grind
structure StE(s:Sta):Prop where
 sizes:StS s
 regions:∀x∈s.Fa,x.bm.l.length<=100/\x.Ring.l.length<=100/\x.Id.size<=1000
 streets:∀x∈s.Gm,x.bm.l.length<=100/\x.Line.l.length<=100/\x.Id.size<=1000
 buildings:∀x∈s.Bt,x.Ring.l.length<=100/\x.Id.size<=1000
 doors:∀x∈s.Bc,DoS x
 units:∀x∈s.Nk,x.Id.size<=1000/\x.Ga.size<=1000/\x.Text.size<=1000
def Jt(x:Gk):Gt:=⟨0,0,x.br,0,0,x.Id,emp,emp,⟨false,[]⟩,⟨false,[]⟩,⟨0,emp,0,0⟩,⟨0,0⟩,x.Ring,⟨false,[]⟩⟩
def Ju(x:By):Gt:=⟨0,0,0,0,0,x.Id,emp,emp,⟨false,[]⟩,⟨false,[]⟩,⟨0,emp,0,0⟩,⟨0,0⟩,x.Line,⟨false,[]⟩⟩
def Jv(x:Ev):Gt:=⟨0,0,0,0,0,x.Id,emp,emp,⟨false,[]⟩,⟨false,[]⟩,⟨0,emp,0,0⟩,⟨0,0⟩,x.Ring,⟨false,[]⟩⟩
def Vn(x:be):Gt:=⟨0,0,0,0,0,x.Id,x.Ga,x.Text,⟨false,[]⟩,⟨false,[]⟩,⟨0,emp,0,0⟩,⟨0,0⟩,⟨false,[]⟩,⟨false,[]⟩⟩
def Vo(x:Gk):Bool:=QM x.bh x.Ld 0&&(Jp x.bm.l x.bm.ex&&Q9 {Jt x with br:=1})
def Vp(x:By):Bool:=QM x.bh x.Ld 0&&(Jp x.bm.l x.bm.ex&&Q9 {Ju x with br:=2})
def Vq(x:Ev):Bool:=QM x.bh x.Ld 0&&Q9 {Jv x with br:=5}
def Vr(s:Sta)(i:Nat)(x:Ga):Bool:=QM x.bh x.Ld x.From&&Hg s i x
def QN(s:Sta)(k:Int):Int:=match s.Bc[k.toNat]? with|some d=>d.Ld|none=>0
def Jw(s:Sta)(x:be):Bool:=(x.Ld==-1&&(x.Why != 0||QN s (Zn s x.Ga) != -1))||((x.Ld != -1&&x.Why != 12)&&x.Why != 11)
def Vs(s:Sta)(x:be):Bool:=!decide (Zn s x.Ga<0)&&(QM 0 x.Ld x.From&&(Q9 {Vn x with br:=7}&&!Jw s x))
def Jx(s:Sta):Bool:=s.Fa.all Vo&&(s.Gm.all Vp&&(s.Bt.all Vq&&(Zu (Vr s) 0 s.Bc&&(s.Nk.all (Vs s)&&(Jq (Qp s)&&(Wh s.Bc&&WK s))))))
def Z3d(s:Sta)(k:StE s):∃fr',Zg rE [1,15,16,17] c74L0b [(1,stI s),(15,.isl false false 6<|s.Fa.map Gk.enc),(16,I s.Fa.length),(17,.int .i64 0)] [] =
 some (if Zu (λ_ x=>Vo x) 0 s.Fa=true then .exit 0 else .ret,fr',[])/\(Zu (λ_ x=>Vo x) 0 s.Fa=true->get fr' 1=stI s/\get fr' 2=.bot)/\(Zu (λ_ x=>Vo x) 0 s.Fa=false->get fr' 2=.bool false):=by
 have L:=QT (E:=rE) (live:=[1,15,16,17]) (b:=c74L0b) (h:=[]) s.Fa (λ_ x=>Vo x)
  (λi=>[(1,stI s),(15,.isl false false 6<|s.Fa.map Gk.enc),(16,I s.Fa.length),(17,I i)]) 0
  (λfr=>get fr 1=stI s/\get fr 2=.bot) (λfr=>get fr 2=.bool false) (λi=>rfl)
  (λi x hx hP=>by
   have g:=Z6 (f:=Gk.enc) hx;have j:=Zh<|Z7 hx;have t:=Zx (n:=i) (by have:=Z7 hx;have:=k.sizes.regions;omega)
   have q:=ZXp hx;obtain⟨r,p,m⟩:=k.regions x q;have a:=Hc x.bm.l x.bm.ex r;have c:pfn rE 144 [I 1,.agg [I 0,I 0,I x.br,I 0,I 0,.str x.Id,.str emp,.str emp,.isl false false 1 [],.isl false false 3 [],I 0,.str emp,I 0,I 0,I 0,I 0,.isl false x.Ring.ex 2<|x.Ring.l.map Pt.enc,.isl false false 7 []]]=some (.bool<|Q9 {Jt x with br:=1}):=Wg 1 (Jt x) ⟨ZXi _,ZXi _,p,ZXi _,m,ZXi _,ZXi _⟩
   simp only[Vo,ZXf]at hP;obtain⟨d,e,o⟩:=hP;refine⟨_,by simp only[go_sem,c74L0b,g,j,t,Gk.enc,NL.enc,Qc,a,c,d,e,o];rfl,?_⟩
   simp only[go_sem])
  (λi x hx hP=>by
   have g:=Z6 (f:=Gk.enc) hx;have j:=Zh<|Z7 hx;have q:=ZXp hx;obtain⟨r,p,m⟩:=k.regions x q;have a:=Hc x.bm.l x.bm.ex r;have c:pfn rE 144 [I 1,.agg [I 0,I 0,I x.br,I 0,I 0,.str x.Id,.str emp,.str emp,.isl false false 1 [],.isl false false 3 [],I 0,.str emp,I 0,I 0,I 0,I 0,.isl false x.Ring.ex 2<|x.Ring.l.map Pt.enc,.isl false false 7 []]]=some (.bool<|Q9 {Jt x with br:=1}):=Wg 1 (Jt x) ⟨ZXi _,ZXi _,p,ZXi _,m,ZXi _,ZXi _⟩
   unfold Vo at hP;cases d:QM x.bh x.Ld 0 with
   |false=>
    refine⟨_,by simp only[go_sem,c74L0b,g,j,Gk.enc,NL.enc,Qc,d];rfl,?_⟩
    simp only[go_sem]
   |true=>
   cases e:Jp x.bm.l x.bm.ex with
   |false=>
    refine⟨_,by simp only[go_sem,c74L0b,g,j,Gk.enc,NL.enc,Qc,a,d,e];rfl,?_⟩
    simp only[go_sem]
   |true=>
    have o:Q9 {Jt x with br:=1}=false:=by grind
    refine⟨_,by simp only[go_sem,c74L0b,g,j,Gk.enc,NL.enc,Qc,a,c,d,e,o];rfl,?_⟩
    simp only[go_sem])
  (⟨_,by simp only[go_sem,c74L0b,ZG];rfl,by refine⟨?_,?_⟩<;>simp only[go_sem]⟩)
 grind
def Z3e(s:Sta)(k:StE s):∃fr',Zg rE [1,46,47,48] c74L1b [(1,stI s),(46,.isl false false 5<|s.Gm.map By.enc),(47,I s.Gm.length),(48,.int .i64 0)] [] =
 some (if Zu (λ_ x=>Vp x) 0 s.Gm=true then .exit 2 else .ret,fr',[])/\(Zu (λ_ x=>Vp x) 0 s.Gm=true->get fr' 1=stI s/\get fr' 2=.bot)/\(Zu (λ_ x=>Vp x) 0 s.Gm=false->get fr' 2=.bool false):=by
 have L:=QT (E:=rE) (live:=[1,46,47,48]) (b:=c74L1b) (h:=[]) s.Gm (λ_ x=>Vp x)
  (λi=>[(1,stI s),(46,.isl false false 5<|s.Gm.map By.enc),(47,I s.Gm.length),(48,I i)]) 2
  (λfr=>get fr 1=stI s/\get fr 2=.bot) (λfr=>get fr 2=.bool false) (λi=>rfl)
  (λi x hx hP=>by
   have g:=Z6 (f:=By.enc) hx;have j:=Zh<|Z7 hx;have t:=Zx (n:=i) (by have:=Z7 hx;have:=k.sizes.streets;omega)
   have q:=ZXp hx;obtain⟨r,p,m⟩:=k.streets x q;have a:=Hc x.bm.l x.bm.ex r;have c:pfn rE 144 [I 2,.agg [I 0,I 0,I 0,I 0,I 0,.str x.Id,.str emp,.str emp,.isl false false 1 [],.isl false false 3 [],I 0,.str emp,I 0,I 0,I 0,I 0,.isl false x.Line.ex 2<|x.Line.l.map Pt.enc,.isl false false 7 []]]=some (.bool<|Q9 {Ju x with br:=2}):=Wg 2 (Ju x) ⟨ZXi _,ZXi _,p,ZXi _,m,ZXi _,ZXi _⟩
   simp only[Vp,ZXf]at hP;obtain⟨d,e,o⟩:=hP;refine⟨_,by simp only[go_sem,c74L1b,g,j,t,By.enc,NL.enc,Qc,a,c,d,e,o];rfl,?_⟩
   simp only[go_sem])
  (λi x hx hP=>by
   have g:=Z6 (f:=By.enc) hx;have j:=Zh<|Z7 hx;have q:=ZXp hx;obtain⟨r,p,m⟩:=k.streets x q;have a:=Hc x.bm.l x.bm.ex r;have c:pfn rE 144 [I 2,.agg [I 0,I 0,I 0,I 0,I 0,.str x.Id,.str emp,.str emp,.isl false false 1 [],.isl false false 3 [],I 0,.str emp,I 0,I 0,I 0,I 0,.isl false x.Line.ex 2<|x.Line.l.map Pt.enc,.isl false false 7 []]]=some (.bool<|Q9 {Ju x with br:=2}):=Wg 2 (Ju x) ⟨ZXi _,ZXi _,p,ZXi _,m,ZXi _,ZXi _⟩
   unfold Vp at hP;cases d:QM x.bh x.Ld 0 with
   |false=>
    refine⟨_,by simp only[go_sem,c74L1b,g,j,By.enc,NL.enc,Qc,d];rfl,?_⟩
    simp only[go_sem]
   |true=>
   cases e:Jp x.bm.l x.bm.ex with
   |false=>
    refine⟨_,by simp only[go_sem,c74L1b,g,j,By.enc,NL.enc,Qc,a,d,e];rfl,?_⟩
    simp only[go_sem]
   |true=>
    have o:Q9 {Ju x with br:=2}=false:=by grind
    refine⟨_,by simp only[go_sem,c74L1b,g,j,By.enc,NL.enc,Qc,a,c,d,e,o];rfl,?_⟩
    simp only[go_sem])
  (⟨_,by simp only[go_sem,c74L1b,ZG];rfl,by refine⟨?_,?_⟩<;>simp only[go_sem]⟩)
 grind
def Z3f(s:Sta)(g:StE s):∃fr',Zg rE [1,75,76,77] c74L2b [(1,stI s),(75,.isl false false 4<|s.Bt.map Ev.enc),(76,I s.Bt.length),(77,.int .i64 0)] [] =
 some (if Zu (λ_ x=>Vq x) 0 s.Bt=true then .exit 4 else .ret,fr',[])/\(Zu (λ_ x=>Vq x) 0 s.Bt=true->get fr' 1=stI s/\get fr' 2=.bot)/\(Zu (λ_ x=>Vq x) 0 s.Bt=false->get fr' 2=.bool false):=by
 have L:=QT (E:=rE) (live:=[1,75,76,77]) (b:=c74L2b) (h:=[]) s.Bt (λ_ x=>Vq x)
  (λi=>[(1,stI s),(75,.isl false false 4<|s.Bt.map Ev.enc),(76,I s.Bt.length),(77,I i)]) 4
  (λfr=>get fr 1=stI s/\get fr 2=.bot) (λfr=>get fr 2=.bool false) (λi=>rfl)
  (λi x hx hP=>by
   have d:=Z6 (f:=Ev.enc) hx;have e:=Zh<|Z7 hx;have p:=Zx (n:=i) (by have:=Z7 hx;have:=g.sizes.buildings;omega)
   have o:=ZXp hx;obtain⟨m,j⟩:=g.buildings x o;have a:pfn rE 144 [I 5,.agg [I 0,I 0,I 0,I 0,I 0,.str x.Id,.str emp,.str emp,.isl false false 1 [],.isl false false 3 [],I 0,.str emp,I 0,I 0,I 0,I 0,.isl false x.Ring.ex 2<|x.Ring.l.map Pt.enc,.isl false false 7 []]]=some (.bool<|Q9 {Jv x with br:=5}):=Wg 5 (Jv x) ⟨ZXi _,ZXi _,m,ZXi _,j,ZXi _,ZXi _⟩
   simp only[Vq,ZXf]at hP;obtain⟨c,k⟩:=hP;refine⟨_,by simp only[go_sem,c74L2b,d,e,p,Ev.enc,NL.enc,Qc,a,c,k];rfl,?_⟩
   simp only[go_sem])
  (λi x hx hP=>by
   have d:=Z6 (f:=Ev.enc) hx;have e:=Zh<|Z7 hx;have o:=ZXp hx;obtain⟨m,j⟩:=g.buildings x o;have a:pfn rE 144 [I 5,.agg [I 0,I 0,I 0,I 0,I 0,.str x.Id,.str emp,.str emp,.isl false false 1 [],.isl false false 3 [],I 0,.str emp,I 0,I 0,I 0,I 0,.isl false x.Ring.ex 2<|x.Ring.l.map Pt.enc,.isl false false 7 []]]=some (.bool<|Q9 {Jv x with br:=5}):=Wg 5 (Jv x) ⟨ZXi _,ZXi _,m,ZXi _,j,ZXi _,ZXi _⟩
   unfold Vq at hP;cases c:QM x.bh x.Ld 0 with
   |false=>
    refine⟨_,by simp only[go_sem,c74L2b,d,e,Ev.enc,NL.enc,Qc,c];rfl,?_⟩
    simp only[go_sem]
   |true=>
    have k:Q9 {Jv x with br:=5}=false:=by grind
    refine⟨_,by simp only[go_sem,c74L2b,d,e,Ev.enc,NL.enc,Qc,a,c,k];rfl,?_⟩
    simp only[go_sem])
  (⟨_,by simp only[go_sem,c74L2b,ZG];rfl,by refine⟨?_,?_⟩<;>simp only[go_sem]⟩)
 grind
def Z3g(s:Sta)(c:StE s):∃fr',Zg rE [1,98,99,100] c74L3b [(1,stI s),(98,.isl false false 16<|s.Bc.map Ga.enc),(99,I s.Bc.length),(100,.int .i64 0)] [] =
 some (if Zu (Vr s) 0 s.Bc=true then .exit 6 else .ret,fr',[])/\(Zu (Vr s) 0 s.Bc=true->get fr' 1=stI s/\get fr' 2=.bot)/\(Zu (Vr s) 0 s.Bc=false->get fr' 2=.bool false):=by
 have L:=QT (E:=rE) (live:=[1,98,99,100]) (b:=c74L3b) (h:=[]) s.Bc (Vr s)
  (λi=>[(1,stI s),(98,.isl false false 16<|s.Bc.map Ga.enc),(99,I s.Bc.length),(100,I i)]) 6
  (λfr=>get fr 1=stI s/\get fr 2=.bot) (λfr=>get fr 2=.bool false) (λi=>rfl)
  (λi x hx hP=>by
   have e:=Z6 (f:=Ga.enc) hx;have g:=Zh<|Z7 hx;have l:=Zx (n:=i) (by have:=Z7 hx;have:=c.sizes.doors;omega)
   have k:=ZXp hx;have a:=Fs s c.sizes i x (c.doors x k) hx;simp only[Vr,ZXf]at hP;obtain⟨d,j⟩:=hP;refine⟨_,by simp only[go_sem,c74L3b,e,g,l,Ga.enc,NL.enc,Qc,a,d,j];rfl,?_⟩
   simp only[go_sem])
  (λi x hx hP=>by
   have e:=Z6 (f:=Ga.enc) hx;have g:=Zh<|Z7 hx;have k:=ZXp hx;have a:=Fs s c.sizes i x (c.doors x k) hx;unfold Vr at hP;cases d:QM x.bh x.Ld x.From with
   |false=>
    refine⟨_,by simp only[go_sem,c74L3b,e,g,Ga.enc,NL.enc,Qc,d];rfl,?_⟩
    simp only[go_sem]
   |true=>
    have j:Hg s i x=false:=by grind
    refine⟨_,by simp only[go_sem,c74L3b,e,g,Ga.enc,NL.enc,Qc,a,d,j];rfl,?_⟩
    simp only[go_sem])
  (⟨_,by simp only[go_sem,c74L3b,ZG];rfl,by refine⟨?_,?_⟩<;>simp only[go_sem]⟩)
 grind
def Z3h(s:Sta)(u:StE s):∃fr',Zg rE [1,121,122,123] c74L4b [(1,stI s),(121,.isl false false 6<|s.Nk.map be.enc),(122,I s.Nk.length),(123,.int .i64 0)] [] =
 some (if Zu (λ_ x=>Vs s x) 0 s.Nk=true then .exit 8 else .ret,fr',[])/\(Zu (λ_ x=>Vs s x) 0 s.Nk=true->get fr' 1=stI s/\get fr' 2=.bot)/\(Zu (λ_ x=>Vs s x) 0 s.Nk=false->get fr' 2=.bool false):=by
 have L:=QT (E:=rE) (live:=[1,121,122,123]) (b:=c74L4b) (h:=[]) s.Nk (λ_ x=>Vs s x)
  (λi=>[(1,stI s),(121,.isl false false 6<|s.Nk.map be.enc),(122,I s.Nk.length),(123,I i)]) 8
  (λfr=>get fr 1=stI s/\get fr 2=.bot) (λfr=>get fr 2=.bool false) (λi=>rfl)
  (λi x hx hP=>by
   have l:=Z6 (f:=be.enc) hx;have o:=Zh<|Z7 hx;have H:=Zx (n:=i) (by have:=Z7 hx;have:=u.sizes.units;omega)
   have D:=ZXp hx;obtain⟨K,J,F⟩:=u.units x D;have e:=find_ok s u.sizes x.Ga;have a:pfn rE 144 [I 7,.agg [I 0,I 0,I 0,I 0,I 0,.str x.Id,.str x.Ga,.str x.Text,.isl false false 1 [],.isl false false 3 [],I 0,.str emp,I 0,I 0,I 0,I 0,.isl false false 2 [],.isl false false 7 []]]=some (.bool<|Q9 {Vn x with br:=7}):=Wg 7 (Vn x) ⟨ZXi _,ZXi _,ZXi _,ZXi _,K,J,F⟩
   unfold Vs at hP;have d:decide (Zn s x.Ga<0)=false:=by cases h:decide (Zn s x.Ga<0)<;>simp_all
   have m:QM 0 x.Ld x.From=true:=by cases h:QM 0 x.Ld x.From<;>simp_all
   have p:Q9 {Vn x with br:=7}=true:=by cases h:Q9 {Vn x with br:=7}<;>simp_all
   have q:Jw s x=false:=by cases h:Jw s x<;>simp_all
   obtain⟨j,y,C,v⟩:=QC d;have k:Zn s x.Ga=(j:Int):=C;have B:=Z6 (f:=Ga.enc) v;have t:QN s (Zn s x.Ga)=y.Ld:=by grind [QN]
   unfold Jw at q;rw[t]at q;rw[k]at e d;have r:(x.Ld != -1) = !(x.Ld==-1):=rfl;rw[r]at q;cases g:x.Ld==-1 with
   |true=>
    have c:(x.Ld != -1)=false:=by grind
    have w:(x.Why != 0)=false:=by cases h:x.Why != 0<;>simp_all
    have A:(y.Ld != -1)=false:=by cases h:y.Ld != -1<;>simp_all
    refine⟨_,by simp only[go_sem,c74L4b,l,o,H,B,be.enc,Ga.enc,NL.enc,Qc,e,a,d,m,p,g,w,A,c];rfl,?_⟩
    simp only[go_sem]
   |false=>
    have c:(x.Ld != -1)=true:=by grind
    cases z:x.Why != 12 with
    |false=>
     refine⟨_,by simp only[go_sem,c74L4b,l,o,H,be.enc,Qc,e,a,d,m,p,g,c,z];rfl,?_⟩
     simp only[go_sem]
    |true=>
     have G:(x.Why != 11)=false:=by cases h:x.Why != 11<;>simp_all
     refine⟨_,by simp only[go_sem,c74L4b,l,o,H,be.enc,Qc,e,a,d,m,p,g,c,z,G];rfl,?_⟩
     simp only[go_sem])
  (λi x hx hP=>by
   have l:=Z6 (f:=be.enc) hx;have o:=Zh<|Z7 hx;have D:=ZXp hx;obtain⟨K,J,F⟩:=u.units x D;have e:=find_ok s u.sizes x.Ga;have a:pfn rE 144 [I 7,.agg [I 0,I 0,I 0,I 0,I 0,.str x.Id,.str x.Ga,.str x.Text,.isl false false 1 [],.isl false false 3 [],I 0,.str emp,I 0,I 0,I 0,I 0,.isl false false 2 [],.isl false false 7 []]]=some (.bool<|Q9 {Vn x with br:=7}):=Wg 7 (Vn x) ⟨ZXi _,ZXi _,ZXi _,ZXi _,K,J,F⟩
   unfold Vs at hP;cases d:decide (Zn s x.Ga<0)with
   |true=>
    refine⟨_,by simp only[go_sem,c74L4b,l,o,be.enc,e,d];rfl,?_⟩
    simp only[go_sem]
   |false=>
   cases m:QM 0 x.Ld x.From with
   |false=>
    refine⟨_,by simp only[go_sem,c74L4b,l,o,be.enc,e,d,Qc,m];rfl,?_⟩
    simp only[go_sem]
   |true=>
   cases p:Q9 {Vn x with br:=7}with
   |false=>
    refine⟨_,by simp only[go_sem,c74L4b,l,o,be.enc,e,d,Qc,m,a,p];rfl,?_⟩
    simp only[go_sem]
   |true=>
   have q:Jw s x=true:=by grind
   obtain⟨j,y,C,v⟩:=QC d;have k:Zn s x.Ga=(j:Int):=C;have B:=Z6 (f:=Ga.enc) v;have t:QN s (Zn s x.Ga)=y.Ld:=by grind [QN]
   unfold Jw at q;rw[t]at q;rw[k]at e d;have r:(x.Ld != -1) = !(x.Ld==-1):=rfl;rw[r]at q;cases g:x.Ld==-1 with
   |true=>
    have c:(x.Ld != -1)=false:=by grind
    cases w:x.Why != 0 with
    |true=>
     refine⟨_,by simp only[go_sem,c74L4b,l,o,be.enc,Qc,e,a,d,m,p,g,w];rfl,?_⟩
     simp only[go_sem]
    |false=>
     have A:(y.Ld != -1)=true:=by grind
     refine⟨_,by simp only[go_sem,c74L4b,l,o,B,be.enc,Ga.enc,NL.enc,Qc,e,a,d,m,p,g,w,A];rfl,?_⟩
     simp only[go_sem]
   |false=>
    have c:(x.Ld != -1)=true:=by grind
    have z:(x.Why != 12)=true:=by cases h:x.Why != 12<;>simp_all
    have G:(x.Why != 11)=true:=by cases h:x.Why != 11<;>simp_all
    refine⟨_,by simp only[go_sem,c74L4b,l,o,be.enc,Qc,e,a,d,m,p,g,c,z,G];rfl,?_⟩
    simp only[go_sem])
  (⟨_,by simp only[go_sem,c74L4b,ZG];rfl,by refine⟨?_,?_⟩<;>simp only[go_sem]⟩)
 grind
def Z3i(s:Sta)(c:StE s):pfn rE 74 [stA s]=some (.bool<|Jx s):=by
 obtain⟨S,d,C,F⟩:=Z3d s c;obtain⟨T,e,A,x⟩:=Z3e s c;obtain⟨O,g,B,z⟩:=Z3f s c;obtain⟨V,l,M,L⟩:=Z3g s c;obtain⟨P,k,D,E⟩:=Z3h s c;rw[QE]at d C F e A x g B z k D E;have N:=Fd s c.sizes;have j:=Fj (Qp s) false (by have h1:=c.sizes.regions;have h2:=c.sizes.streets;have R:=c.sizes.buildings;have U:=c.sizes.doors;have Q:=c.sizes.units;grind [Qp])
 have w:=Fk s c.sizes;have J:=Z31 s c.sizes;rw[Z5 (f:=74) rfl rfl];unfold Jx;cases o:s.Fa.all Vo with
 |false=>rw[o]at d;simp only[go_sem,c74,c74L0,d,F o,ZXB]
 |true=>
 rw[o,if_pos rfl]at d;obtain⟨m,n⟩:=C o;cases p:s.Gm.all Vp with
 |false=>rw[p]at e;simp only[go_sem,c74,c74L0,c74L1,d,m,n,e,x p,ZXB]
 |true=>
 rw[p,if_pos rfl]at e;obtain⟨t,q⟩:=A p;cases r:s.Bt.all Vq with
 |false=>rw[r]at g;simp only[go_sem,c74,c74L0,c74L1,c74L2,d,m,n,e,t,q,g,z r,ZXB]
 |true=>
 rw[r,if_pos rfl]at g;obtain⟨v,u⟩:=B r;cases b:Zu (Vr s) 0 s.Bc with
 |false=>rw[b]at l;simp only[go_sem,c74,c74L0,c74L1,c74L2,c74L3,d,m,n,e,t,q,g,v,u,l,L b,ZXB]
 |true=>
 rw[b,if_pos rfl]at l;obtain⟨G,y⟩:=M b;cases a:s.Nk.all (Vs s)with
 |false=>rw[a]at k;simp only[go_sem,c74,c74L0,c74L1,c74L2,c74L3,c74L4,d,m,n,e,t,q,g,v,u,l,G,y,k,E a,ZXB]
 |true=>
 rw[a,if_pos rfl]at k;obtain⟨K,H⟩:=D a;cases h:Jq (Qp s)<;>cases i:Wh s.Bc<;>rw[h]at j<;>rw[i]at w<;>
  simp only[go_sem,c74,c74L0,c74L1,c74L2,c74L3,c74L4,d,m,n,e,t,q,g,v,u,l,G,y,k,K,H,N,j,w,J]
def Z3j(c d e a:AObj)(b:Bool):trimB 4 [c,d,e,a] b=[c,d,e,a]:=by cases b<;>rfl
def Z3k(f e c a d:AObj)(b:Bool):trimB 5 [f,e,c,a,d] b=[f,e,c,a,d]:=by cases b<;>rfl
def Z3l(g f d a e c:AObj)(b:Bool):trimB 6 [g,f,d,a,e,c] b=[g,f,d,a,e,c]:=by cases b<;>rfl
def Z3m(h g e a f d c:AObj)(b:Bool):trimB 7 [h,g,e,a,f,d,c] b=[h,g,e,a,f,d,c]:=by cases b<;>rfl
attribute [go_sem] Z3j Z3k Z3l Z3m
structure Wk where
 s:Sta
 owner:Int
 e:Gt
 kn:List Str
abbrev wkC(w:Wk):List AV:=[.isl false false 6<|w.s.Fa.map Gk.enc,.isl false false 5<|w.s.Gm.map By.enc,.isl false false 4<|w.s.Bt.map Ev.enc,.isl false false 16<|w.s.Bc.map Ga.enc,
 .isl false false 6 (w.s.Nk.map be.enc),.isl false false 2<|w.s.Gc.map bf.enc,.isl false false 2<|w.s.ba.map bf.enc,I w.owner,
 I w.e.br,I w.e.Day,I w.e.A,I w.e.B,I w.e.bz,.str w.e.Id,.str w.e.bv,.str w.e.Text,.isl false w.e.Ids.ex 1<|w.e.Ids.l.map encS,.isl false w.e.bm.ex 3<|w.e.bm.l.map Nm.enc,
 I w.e.An.N,.str w.e.An.bn,I w.e.An.Num,I w.e.An.Den,I w.e.bg.X,I w.e.bg.Y,.isl false w.e.Path.ex 2<|w.e.Path.l.map Pt.enc,.isl false w.e.Lst.ex 7<|w.e.Lst.l.map Ent.enc,
 .isl false false 1 (w.kn.map encS)]
abbrev wH(o0 o1:AObj)(w:Wk):Hp:=[o0,o1,.row 27 [.agg<|wkC w]]
structure WkS(w:Wk):Prop where
 s:StS w.s
 e:EvS w.e
 kn:w.kn.length<=100000
def Z3o(b i off g:Nat):Zy (.ptr b i off g)=false:=(rfl)
def Z3p(b g off a:Nat)(ex:Bool):Zy (.sl b g off a ex)=false:=(rfl)
def Z3q(b:Nat):Zy (.mp b)=false:=(rfl)
attribute [go_sem] Z3o Z3p Z3q
def Z3r(n:Nat):bounds none (some<|I n) (some<|I n) n=some (0,n,some n):=by
 simp[bounds,Vz,Wl,VA,numOf,VB,Ue]
def clC(sz:Nat):ACode:=
 .seq (.region [o 2<|.mv<|.c<|.isl false false sz []])<|
 .seq (.keep [2]<|.region [o 3<|.mv<|.t 0,o 4<|.mv<|.t 0,o 5<|.len 1<|.t 4,o 6<|.mv<|.t 0,o 7<|.len 1<|.t 6,o 8<|.slc sz (.t 3) none (some<|.t 5)<|some<|.t 7,o 2<|.mv<|.t 8])<|
 .ret
def Jy{sz f:Nat}(a:rE.sum f=none)(d:rE.fn f=some ⟨[.tmp 2],clC sz⟩)(ex:Bool)(es:List AV):pfn rE f [.isl false ex sz es]=some (.isl false true sz es):=by
 have b:=Z3r es.length;have e:List.take (es.length-0) es=es:=ZXz<|by omega
 have c:(match some es.length with|none=>ex&&es.length==es.length|some m=>m==es.length)=true:=by simp
 rw[Z5 (f:=f) a d];simp only[go_sem,clC,b,c,e]
def Z3s(es:List AV):pfn rE 151 [.isl false false 6 es]=some (.isl false true 6 es):=Jy rfl rfl false es
def Z3t(es:List AV):pfn rE 154 [.isl false false 5 es]=some (.isl false true 5 es):=Jy rfl rfl false es
def Z3u(es:List AV):pfn rE 161 [.isl false false 4 es]=some (.isl false true 4 es):=Jy rfl rfl false es
def Ft(es:List AV):pfn rE 273 [.isl false false 16 es]=some (.isl false true 16 es):=Jy rfl rfl false es
def Z3v(es:List AV):pfn rE 164 [.isl false false 6 es]=some (.isl false true 6 es):=Jy rfl rfl false es
def Fu(es:List AV):pfn rE 181 [.isl false false 2 es]=some (.isl false true 2 es):=Jy rfl rfl false es
def Vt{h:Hp}{aid sz bytes:Nat}{es ys:List AV}{bw bw2 ex:Bool}(c:ys.isEmpty=false)(a:0<sz)(h1:0<bytes)(h2:(es.length+ys.length)*bytes<=140737488355328)(b:Z4 (es++ys)=true):
 Qt h aid true sz bytes (.isl bw true sz es) (.isl bw2 ex sz ys)=some (.isl false false sz<|es++ys,[],none):=by
 simp only[Qt,Q2,Qq,beq_self_eq_true,ZXE,a,h1,h2,and_self,if_true,c,cond_false,Yp,Zs,ZXr,cond_true,b]
def chC(sz f:Nat):ACode:=
 .seq (.region [o 6<|.mv<|.c<|.isl false false sz []])<|
 .seq (.keep [1,2,7]<|.region [o 8<|.rel<|.t 0,o 9<|.call false f [(.t 8)],o 7<|.mv<|.t 9])<|
 .seq (.keep [7]<|.region [o 10<|.mv<|.t 2,o 11<|.mv<|.t 7,o 12<|.mv<|.t 1,o 13<|.iadr sz (.t 11)<|.t 12,o 14<|.callv false (.t 10) [(.t 13)]])<|
 .seq (.region [o 15<|.mv<|.t 7,o 6<|.mv<|.t 15])<|
 .ret
def Xj{α:Type}{f:α->AV}{sz:Nat}(h:∀x,fits sz (f x)=true)(l:List α):(l.map f).all (fits sz)=true:=by
 rw[ZYE,ZXs];intro x _;exact h x
def Xk{sz f g d:Nat}(m:rE.sum d=none)(q:rE.fn d=some ⟨[.tmp 6],chC sz f⟩)(e:rE.sum f=some (ZOi sz))(es es' cap:List AV)(v:AV)(ex:Bool)(k:Nat)(p:k<es.length)(b:es.all (fits sz)=true)(l:es.length<=1000000)
 (h2:fnV rE g (.ptr 0 k 0 es.length::cap) [.row sz es]=some (v,[.row sz es'])) (n:es'.length=es.length) (o:Z4 es'=true):
 pfn rE d [.isl false ex sz es,I k,.clo (.func g) [] cap]=some (.isl false false sz es'):=by
 have h1:fnV rE f [.isl false ex sz es] []=some (.sl 0 es.length 0 es.length false,[.row sz es]):=by
  have c:Nat.ble es.length 1000000=true:=ZXH l;have i:es.isEmpty=false:=by cases es with|nil=>simp at p|cons a r=>rfl
  rw[V8 e];simp only[ZOi,Q2,Qq,b,c,i,beq_self_eq_true,ZXE,ZXC,ZXv,cond_true,ZXo,ZXK]
 have j:(0<=(k:Int)/\(k:Int)<(es.length:Int)):=by omega
 have h:iaP 0 es.length 0 sz (k:Int) es.length (some (sz,es))=some (.ptr 0 k 0 es.length):=by
  rw[VT _ _ _ _ _ _ _ j];simp
 have s:List.take es.length es'=es':=ZXz<|by omega
 rw[Z5 (f:=d) m q];simp only[go_sem,chC,h1,h,RL,h2,beq_self_eq_true,n,s,o]
def twB(w:Wk)(id:Str):Bool:=w.kn.any<|λx=>Z3 id x
def Wj(w:Wk)(a:WkS w)(id:Str):pfn rE 150 [.iptr true<|wkC w,.str id]=some (.bool<|twB w id):=by
 have h:=Nz (f:=329) (enc:=encS) (p:=λx=>Z3 id x) (v:=.str id) rfl rfl w.kn (by have:=a.kn;omega) (λx _=>rfl) rfl (λx _=>rfl) false false
 have h2:pfn rE 257 [.isl false false 1<|w.kn.map encS,.str id]=some (.bool<|w.kn.any<|λx=>Z3 id x):=by
  rw[Z5 (f:=257) rfl rfl,<-Vg];unfold WG;simp only[go_sem,c257,h]
 rw[Z5 (f:=150) rfl rfl];unfold twB;simp only[go_sem,c150,h2]
def NP(w:Wk):By:=⟨w.e.Id,w.owner,w.e.Path,⟨false,[]⟩,-1⟩
def NQ(w:Wk):Ev:=⟨w.e.Id,w.owner,w.e.Path,-1⟩
def Jz(w:Wk):Wk:={w with s:={w.s with Gm:=w.s.Gm++[NP w]}}
def JA(w:Wk):Wk:={w with s:={w.s with Bt:=w.s.Bt++[NQ w]}}
def Hh(w:Wk):Wk:={w with s:={w.s with ba:=w.s.ba++[⟨w.e.A,w.e.B⟩]}}
def Z3w(d i:AObj)(w:Wk)(g:WkS w):∃t,fnV rE 77 [.ptr 2 0 0 1] (wH d i w)=some (I<|bif twB w w.e.Id then 8 else 0,wH d i (bif twB w w.e.Id then w else Jz w)++t):=by
 have a:=Wj w g w.e.Id;have b:Z4 (w.s.Gm.map By.enc)=true:=Zw (λt=>rfl) _
 have j:=λ(h:Hp)(aid:Nat)=>Vt (h:=h) (aid:=aid) (sz:=5) (bytes:=80) (es:=w.s.Gm.map By.enc) (ys:=[.agg [.str w.e.Id,I w.owner,.isl false w.e.Path.ex 2<|w.e.Path.l.map Pt.enc,.isl false false 3 [],I<|-1]]) (bw:=false) (bw2:=false) (ex:=false) rfl (by omega) (by omega) (by have:=g.s.streets;simp;omega) (by simp only[XA,b];rfl)
 rw[Q6 (f:=77) rfl rfl];cases c:twB w w.e.Id with
 |true=>
  rw[c]at a;refine⟨[],?_⟩;simp only[go_sem,c77,a,ZXr]
 |false=>
  rw[c]at a;refine⟨[],?_⟩;simp only[go_sem,c77,a,Z3t,wrB,appW,j,ZM,ZH,Jz,NP,ZXx,wH,wkC,By.enc,NL.enc,ZXr]
def Z3x(d i:AObj)(w:Wk)(g:WkS w):∃t,fnV rE 80 [.ptr 2 0 0 1] (wH d i w)=some (I<|bif twB w w.e.Id then 8 else 0,wH d i (bif twB w w.e.Id then w else JA w)++t):=by
 have a:=Wj w g w.e.Id;have b:Z4 (w.s.Bt.map Ev.enc)=true:=Zw (λt=>rfl) _
 have j:=λ(h:Hp)(aid:Nat)=>Vt (h:=h) (aid:=aid) (sz:=4) (bytes:=56) (es:=w.s.Bt.map Ev.enc) (ys:=[.agg [.str w.e.Id,I w.owner,.isl false w.e.Path.ex 2<|w.e.Path.l.map Pt.enc,I<|-1]]) (bw:=false) (bw2:=false) (ex:=false) rfl (by omega) (by omega) (by have:=g.s.buildings;simp;omega) (by simp only[XA,b];rfl)
 rw[Q6 (f:=80) rfl rfl];cases c:twB w w.e.Id with
 |true=>
  rw[c]at a;refine⟨[],?_⟩;simp only[go_sem,c80,a,ZXr]
 |false=>
  rw[c]at a;refine⟨[],?_⟩;simp only[go_sem,c80,a,Z3u,wrB,appW,j,ZM,ZH,JA,NQ,ZXx,wH,wkC,Ev.enc,NL.enc,ZXr]
def Z3y(b c:AObj)(w:Wk)(g:WkS w):∃t,fnV rE 89 [.ptr 2 0 0 1] (wH b c w)=some (I 0,wH b c (Hh w)++t):=by
 have a:Z4 (w.s.ba.map bf.enc)=true:=Zw (λt=>rfl) _
 have d:=λ(h:Hp)(aid:Nat)=>Vt (h:=h) (aid:=aid) (sz:=2) (bytes:=16) (es:=w.s.ba.map bf.enc) (ys:=[.agg [I w.e.A,I w.e.B]]) (bw:=false) (bw2:=false) (ex:=false) rfl (by omega) (by omega) (by have:=g.s.rulings;simp;omega) (by simp only[XA,a];rfl)
 rw[Q6 (f:=89) rfl rfl];refine⟨[],?_⟩;simp only[go_sem,c89,Fu,wrB,appW,d,ZM,ZH,Hh,ZXx,wH,wkC,bf.enc,ZXr]
def NR(w:Wk):be:=⟨w.e.Id,w.e.bv,w.e.Text,w.e.Day,-1,0⟩
def JB(w:Wk):Int:=bif twB w w.e.Id then 8 else bif decide (Zn w.s w.e.bv<0)then 10 else bif QN w.s (Zn w.s w.e.bv) != -1 then 11 else 0
def JC(w:Wk):Wk:={w with s:={w.s with Nk:=w.s.Nk++[NR w]}}
def Z3z(r u:AObj)(w:Wk)(m:WkS w):∃t,fnV rE 82 [.ptr 2 0 0 1] (wH r u w)=some (I<|JB w,wH r u (bif JB w==0 then JC w else w)++t):=by
 have a:=Wj w m w.e.Id;have g:=find_ok w.s m.s w.e.bv;have n:Z4 (w.s.Nk.map be.enc)=true:=Zw (λt=>rfl) _
 have x:=λ(h:Hp)(aid:Nat)=>Vt (h:=h) (aid:=aid) (sz:=6) (bytes:=72) (es:=w.s.Nk.map be.enc) (ys:=[.agg [.str w.e.Id,.str w.e.bv,.str w.e.Text,I w.e.Day,I<|-1,I 0]]) (bw:=false) (bw2:=false) (ex:=false) rfl (by omega) (by omega) (by have:=m.s.units;simp;omega) (by simp only[XA,n];rfl)
 have z:((8:Int)==0)=false:=rfl;have i:((10:Int)==0)=false:=rfl;have l:((11:Int)==0)=false:=rfl;have v:((0:Int)==0)=true:=rfl;rw[Q6 (f:=82) rfl rfl];unfold JB;refine⟨[],?_⟩;cases c:twB w w.e.Id with
 |true=>
  rw[c]at a;simp only[go_sem,c82,a,g,z,ZXr]
 |false=>
 rw[c]at a;cases d:decide (Zn w.s w.e.bv<0)with
 |true=>simp only[go_sem,c82,a,g,d,i,ZXr]
 |false=>
 obtain⟨j,y,A,o⟩:=QC d;have b:Zn w.s w.e.bv=(j:Int):=A;have p:=Z6 (f:=Ga.enc) o;have k:QN w.s (Zn w.s w.e.bv)=y.Ld:=by rw[b];simp[QN,o]
 rw[k];rw[b]at g d;cases q:y.Ld != -1 with
 |true=>simp only[go_sem,c82,a,g,d,p,Ga.enc,NL.enc,q,l,ZXr]
 |false=>simp only[go_sem,c82,a,g,d,p,Ga.enc,NL.enc,q,v,Z3v,wrB,appW,x,ZM,ZH,JC,NR,ZXx,wH,wkC,be.enc,ZXr]
def Xl(w:Wk)(d:Ga):Ga:={d with bh:=w.owner,From:=w.e.Day,Ld:=-1}
def Qw(w:Wk)(d:Ga):Wk:={w with s:={w.s with Bc:=w.s.Bc++[Xl w d]}}
def Fv(c e:AObj)(w:Wk)(g:WkS w)(d:Ga)(t:Hp)(i:t=[]\/(∃x,t=[x])\/(∃x y,t=[x,y])\/∃x y z,t=[x,y,z]):
 ∃q,fnV rE 163 [.ptr 2 0 0 1,Zo d] (wH c e w++t)=some (.tup [],wH c e (Qw w d)++t++[q])/\∀n,Zj n q=true:=by
 have b:Z4 (w.s.Bc.map Ga.enc)=true:=Zw (λt=>rfl) _
 have a:=λ(h:Hp)(aid:Nat)=>Vt (h:=h) (aid:=aid) (sz:=16) (bytes:=184) (es:=w.s.Bc.map Ga.enc) (ys:=[Zo<|Xl w d]) (bw:=false) (bw2:=false) (ex:=false) rfl (by omega) (by omega) (by have:=g.s.doors;simp;omega) (by simp only[XA,b];rfl)
 refine⟨.row 16 [Zo<|Xl w d],?_,λn=>rfl⟩
 unfold Zo Xl at a⊢;simp only at a⊢;rw[Q6 (f:=163) rfl rfl];rcases i with rfl|⟨x,rfl⟩|⟨x,y,rfl⟩|⟨x,y,z,rfl⟩<;>
  simp only[go_sem,c163,Ft,wrB,appW,a,ZM,ZH,Qw,Xl,ZXx,wH,wkC,Ga.enc,NL.enc,ZXr]
def UD(w:Wk):Ga:=⟨w.e.Id,emp,emp,0,⟨0,emp,0,0⟩,⟨0,0⟩,0,0,⟨false,[]⟩,0,w.e.bz,w.e.Text⟩
def UE(w:Wk):Ga:=⟨w.e.Id,w.e.bv,w.e.Text,0,w.e.An,w.e.bg,0,0,⟨false,[]⟩,0,0,emp⟩
def Z3A(b d:AObj)(j:∀n,Zj n b=true)(h1:∀n,Zj n d=true)(w:Wk)(i:WkS w):∃t,fnV rE 90 [.ptr 2 0 0 1] (wH b d w)=some (I<|bif twB w w.e.Id then 8 else 0,wH b d (bif twB w w.e.Id then w else Qw w<|UD w)++t):=by
 have a:=Wj w i w.e.Id;obtain⟨q,h,k⟩:=Fv b d w i (UD w) []<|Or.inl rfl;rw[ZXr,ZXr]at h;have g:fnV rE 163 [.ptr 2 0 0 1,.agg [.str w.e.Id,.str emp,.str emp,I 0,I 0,.str emp,I 0,I 0,I 0,I 0,I 0,I 0,.isl false false 1 [],I 0,I w.e.bz,.str w.e.Text]] (wH b d w)=_:=h;rw[Q6 (f:=90) rfl rfl];refine⟨[],?_⟩;cases c:twB w w.e.Id with
 |true=>
  rw[c]at a;simp only[go_sem,c90,a,ZXr]
 |false=>
  rw[c]at a;simp only[go_sem,c90,a,g,wH,j,h1,ZXr]
def JD(w:Wk):Int:=bif twB w w.e.Id then 8 else bif decide (Y1 w.s w.e.bv<0)||decide (ZL w.s w.e.Text<0)then 10 else bif WL w.s (Y1 w.s w.e.bv) != -1||QF w.s (ZL w.s w.e.Text) != -1 then 11 else 0
def Z3B(o v:AObj)(L:∀n,Zj n o=true)(h1:∀n,Zj n v=true)(w:Wk)(z:WkS w):∃t,fnV rE 81 [.ptr 2 0 0 1] (wH o v w)=some (I<|JD w,wH o v (bif JD w==0 then Qw w (UE w)else w)++t):=by
 have a:=Wj w z w.e.Id;have g:=Hb w.s z.s w.e.bv;have i:=K7 w.s z.s w.e.Text;obtain⟨q,G,P⟩:=Fv o v w z (UE w) []<|Or.inl rfl;rw[ZXr,ZXr]at G;have C:fnV rE 163 [.ptr 2 0 0 1,.agg [.str w.e.Id,.str w.e.bv,.str w.e.Text,I 0,I w.e.An.N,.str w.e.An.bn,I w.e.An.Num,I w.e.An.Den,I w.e.bg.X,I w.e.bg.Y,I 0,I 0,.isl false false 1 [],I 0,I 0,.str emp]] (wH o v w)=_:=G;have M:((8:Int)==0)=false:=rfl;have m:((10:Int)==0)=false:=rfl;have p:((11:Int)==0)=false:=rfl;have J:((0:Int)==0)=true:=rfl;rw[Q6 (f:=81) rfl rfl];unfold JD;refine⟨[],?_⟩;cases c:twB w w.e.Id with
 |true=>rw[c]at a;simp only[go_sem,c81,a,g,i,M,ZXr]
 |false=>
 rw[c]at a;cases h:decide (Y1 w.s w.e.bv<0)with
 |true=>simp only[go_sem,c81,a,g,i,h,m,ZXr]
 |false=>
 cases l:decide (ZL w.s w.e.Text<0)with
 |true=>simp only[go_sem,c81,a,g,i,h,l,m,ZXr]
 |false=>
 obtain⟨j,x,K,H⟩:=QC h;obtain⟨k,y,O,F⟩:=QC l;have r:Y1 w.s w.e.bv=(j:Int):=K;have u:ZL w.s w.e.Text=(k:Int):=O;have D:WL w.s (Y1 w.s w.e.bv)=x.Ld:=by rw[r];simp[WL,H]
 have A:QF w.s (ZL w.s w.e.Text)=y.Ld:=by rw[u];simp[QF,F]
 have B:=Z6 (f:=Ev.enc) H;have E:=Z6 (f:=By.enc) F;rw[D,A];rw[r]at g h;rw[u]at i l;cases b:x.Ld != -1 with
 |true=>simp only[go_sem,c81,a,g,i,h,l,B,Ev.enc,NL.enc,b,p,ZXr]
 |false=>
 cases d:y.Ld != -1 with
 |true=>simp only[go_sem,c81,a,g,i,h,l,B,E,Ev.enc,By.enc,NL.enc,b,d,p,ZXr]
 |false=>simp only[go_sem,c81,a,g,i,h,l,B,E,Ev.enc,By.enc,NL.enc,b,d,J,C,L,h1,ZXr]
def ZK{α:Type}(l:List α)(k:Nat)(f:α->α):List α:=match l[k]? with|some x=>l.set k (f x)|none=>l
def YA{α:Type}{l:List α}{k:Nat}{x:α}(h:l[k]?=some x)(f:α->α):ZK l k f=l.set k (f x):=by simp[ZK,h]
def NS(p:NL Pt)(x:Gk):Gk:={x with Ring:=p}
def NT(p:NL Nm)(x:Gk):Gk:={x with bm:=p}
def XN(p:NL Nm)(x:By):By:={x with bm:=p}
def Z3C(w:Wk)(l:List Gk)(k:Nat)(x:Gk)(hx:l[k]?=some x)(hle:l.length<=1000000):pfn rE 152 [.isl false false 6<|l.map Gk.enc,I k,.clo (.func 153) [] [.iptr true [.iptr true<|wkC w]]]=some (.isl false false 6<|(ZK l k<|NS w.e.Path).map Gk.enc):=by
 have hk:=Z7 hx;have hg:=Z6 (f:=Gk.enc) hx;rw[YA hx,ZXJ];refine Xk (sz:=6) (f:=267) rfl rfl rfl _ _ _ (.tup []) false k (by simpa using hk) (Xj (λ_=>rfl) _) (by simpa using hle) ?_ (by simp) ?_
 .rw[Q6 (f:=153) rfl rfl];simp only[go_sem,c153,beq_self_eq_true,hg,Gk.enc,NL.enc,NS]
 .rw[<-ZXJ];exact Zw (λt=>rfl) _
def Z3D(w:Wk)(l:List Gk)(k:Nat)(x:Gk)(a:l[k]?=some x)(b:l.length<=1000000):pfn rE 152 [.isl false false 6<|l.map Gk.enc,I k,.clo (.func 156) [] [.iptr true [.iptr true<|wkC w]]]=some (.isl false false 6<|(ZK l k<|NT w.e.bm).map Gk.enc):=by
 have d:=Z7 a;have c:=Z6 (f:=Gk.enc) a;rw[YA a,ZXJ];refine Xk (sz:=6) (f:=267) rfl rfl rfl _ _ _ (.tup []) false k (by simpa using d) (Xj (λ_=>rfl) _) (by simpa using b) ?_ (by simp) ?_
 .rw[Q6 (f:=156) rfl rfl];simp only[go_sem,c156,beq_self_eq_true,c,Gk.enc,NL.enc,NT]
 .rw[<-ZXJ];exact Zw (λt=>rfl) _
def Z3E(w:Wk)(l:List By)(k:Nat)(x:By)(a:l[k]?=some x)(b:l.length<=1000000):pfn rE 157 [.isl false false 5<|l.map By.enc,I k,.clo (.func 158) [] [.iptr true [.iptr true<|wkC w]]]=some (.isl false false 5<|(ZK l k<|XN w.e.bm).map By.enc):=by
 have d:=Z7 a;have c:=Z6 (f:=By.enc) a;rw[YA a,ZXJ];refine Xk (sz:=5) (f:=270) rfl rfl rfl _ _ _ (.tup []) false k (by simpa using d) (Xj (λ_=>rfl) _) (by simpa using b) ?_ (by simp) ?_
 .rw[Q6 (f:=158) rfl rfl];simp only[go_sem,c158,beq_self_eq_true,c,By.enc,NL.enc,XN]
 .rw[<-ZXJ];exact Zw (λt=>rfl) _
def Z3F(p:NL Nm)(l:List By)(k:Nat)(x:By)(a:l[k]?=some x)(b:l.length<=1000000):pfn rE 157 [.isl false false 5<|l.map By.enc,I k,.clo (.func 159) [] [.iptr true [.isl false p.ex 3<|p.l.map Nm.enc]]]=some (.isl false false 5<|(ZK l k<|XN p).map By.enc):=by
 have d:=Z7 a;have c:=Z6 (f:=By.enc) a;rw[YA a,ZXJ];refine Xk (sz:=5) (f:=270) rfl rfl rfl _ _ _ (.tup []) false k (by simpa using d) (Xj (λ_=>rfl) _) (by simpa using b) ?_ (by simp) ?_
 .rw[Q6 (f:=159) rfl rfl];simp only[go_sem,c159,beq_self_eq_true,c,By.enc,NL.enc,XN]
 .rw[<-ZXJ];exact Zw (λt=>rfl) _
def Z3G(p:NL Nm)(l:List By)(k:Nat)(x:By)(a:l[k]?=some x)(b:l.length<=1000000):pfn rE 157 [.isl false false 5<|l.map By.enc,I k,.clo (.func 160) [] [.iptr true [.isl false p.ex 3<|p.l.map Nm.enc]]]=some (.isl false false 5<|(ZK l k<|XN p).map By.enc):=by
 have d:=Z7 a;have c:=Z6 (f:=By.enc) a;rw[YA a,ZXJ];refine Xk (sz:=5) (f:=270) rfl rfl rfl _ _ _ (.tup []) false k (by simpa using d) (Xj (λ_=>rfl) _) (by simpa using b) ?_ (by simp) ?_
 .rw[Q6 (f:=160) rfl rfl];simp only[go_sem,c160,beq_self_eq_true,c,By.enc,NL.enc,XN]
 .rw[<-ZXJ];exact Zw (λt=>rfl) _
def Fw(w:Wk):Gk:=⟨w.e.Id,w.e.A,w.owner,w.e.Path,⟨false,[]⟩,-1⟩
def WM(s:Sta)(k:Int):Int:=match s.Fa[k.toNat]? with|some b=>b.Ld|none=>0
def NU(s:Sta)(k:Int):Int:=match s.Fa[k.toNat]? with|some b=>b.br|none=>0
def Hi(w:Wk):Int:=bif decide (Qo w.s w.e.Id<0)then(bif twB w w.e.Id then 8 else 0)else bif WM w.s (Qo w.s w.e.Id) != -1||NU w.s (Qo w.s w.e.Id) != w.e.A then 11 else 0
def Hj(w:Wk):Wk:={w with s:={w.s with Fa:=bif decide (Qo w.s w.e.Id<0)then w.s.Fa++[Fw w]else ZK w.s.Fa (Qo w.s w.e.Id).toNat (NS w.e.Path)}}
def Z3H(p y:AObj)(H:∀n,Zj n p=true)(h1:∀n,Zj n y=true)(w:Wk)(m:WkS w):∃t,fnV rE 76 [.ptr 2 0 0 1] (wH p y w)=some (I<|Hi w,wH p y (bif Hi w==0 then Hj w else w)++t):=by
 have d:=Wj w m w.e.Id;have i:=NI w.s m.s w.e.Id;have r:Z4 (w.s.Fa.map Gk.enc)=true:=Zw (λt=>rfl) _
 have F:=λ(h:Hp)(aid:Nat)=>Vt (h:=h) (aid:=aid) (sz:=6) (bytes:=88) (es:=w.s.Fa.map Gk.enc) (ys:=[.agg [.str w.e.Id,I w.e.A,I w.owner,.isl false w.e.Path.ex 2<|w.e.Path.l.map Pt.enc,.isl false false 3 [],I<|-1]]) (bw:=false) (bw2:=false) (ex:=false) rfl (by omega) (by omega) (by have:=m.s.regions;simp;omega) (by simp only[XA,r];rfl)
 have G:((8:Int)==0)=false:=rfl;have k:((11:Int)==0)=false:=rfl;have z:((0:Int)==0)=true:=rfl;rw[Q6 (f:=76) rfl rfl];unfold Hi Hj;refine⟨[.row 1 [.ptr 2 0 0 1]],?_⟩;cases g:decide (Qo w.s w.e.Id<0)with
 |true=>
  cases c:twB w w.e.Id with
  |true=>rw[c]at d;simp only[go_sem,c76,wH,d,i,g,G]
  |false=>
   rw[c]at d;simp only[go_sem,c76,d,i,g,z,Z3s,wrB,appW,F,ZM,ZH,Fw,ZXx,wH,wkC,Gk.enc,NL.enc]
 |false=>
  obtain⟨j,x,C,o⟩:=QC g;have u:Qo w.s w.e.Id=(j:Int):=C;have v:=Z6 (f:=Gk.enc) o;have E:WM w.s (j:Int)=x.Ld:=by simp[WM,o]
  have D:NU w.s (j:Int)=x.br:=by simp[NU,o]
  have B:((j:Int)).toNat=j:=rfl;have q:=Z3C w w.s.Fa j x o (by have:=m.s.regions;omega)
  rw[u]at i g⊢;rw[E,D,B];cases a:x.Ld != -1 with
  |true=>simp only[go_sem,c76,wH,i,g,v,Gk.enc,NL.enc,a,k]
  |false=>
  cases b:x.br != w.e.A with
  |true=>simp only[go_sem,c76,wH,i,g,v,Gk.enc,NL.enc,a,b,k]
  |false=>simp only[go_sem,c76,wH,i,g,v,Gk.enc,NL.enc,a,b,z,q]
def Hk(w:Wk):Int:=
 bif decide (Qo w.s w.e.Id<0)&&decide (ZL w.s w.e.Id<0)then 10
 else bif (decide (Qo w.s w.e.Id>=0)&&WM w.s (Qo w.s w.e.Id) != -1)||(decide (ZL w.s w.e.Id>=0)&&QF w.s (ZL w.s w.e.Id) != -1)then 11 else 0
def Hl(w:Wk):Wk:=
 bif decide (Qo w.s w.e.Id>=0)then {w with s:={w.s with Fa:=ZK w.s.Fa (Qo w.s w.e.Id).toNat (NT w.e.bm)}}
 else {w with s:={w.s with Gm:=ZK w.s.Gm (ZL w.s w.e.Id).toNat (XN w.e.bm)}}
def K9{n:Int}(h:decide (n<0)=false):decide (n>=0)=true:=decide_eq_true (by have:=of_decide_eq_false h;omega)
def JE{n:Int}(h:decide (n<0)=true):decide (n>=0)=false:=decide_eq_false (by have:=of_decide_eq_true h;omega)
def Z3I(C J:AObj)(M:∀n,Zj n C=true)(h1:∀n,Zj n J=true)(w:Wk)(v:WkS w):∃t,fnV rE 78 [.ptr 2 0 0 1] (wH C J w)=some (I<|Hk w,wH C J (bif Hk w==0 then Hl w else w)++t):=by
 have m:=NI w.s v.s w.e.Id;have i:=K7 w.s v.s w.e.Id;have A:((10:Int)==0)=false:=rfl;have o:((11:Int)==0)=false:=rfl;have B:((0:Int)==0)=true:=rfl;rw[Q6 (f:=78) rfl rfl];unfold Hk Hl;refine⟨[.row 1 [.ptr 2 0 0 1]],?_⟩;cases c:decide (Qo w.s w.e.Id<0)with
 |true=>
  have l:=JE c;cases d:decide (ZL w.s w.e.Id<0)with
  |true=>simp only[go_sem,c78,wH,m,i,c,d,A]
  |false=>
   have g:=K9 d;obtain⟨k,y,H,r⟩:=QC d;have q:ZL w.s w.e.Id=(k:Int):=H;have u:=Z6 (f:=By.enc) r;have p:QF w.s (k:Int)=y.Ld:=by simp[QF,r]
   have K:((k:Int)).toNat=k:=rfl;have h:=Z3E w w.s.Gm k y r (by have:=v.s.streets;omega)
   rw[q]at i d g⊢;rw[p,K];cases a:y.Ld != -1 with
   |true=>simp only[go_sem,c78,wH,m,i,c,d,l,g,u,By.enc,NL.enc,a,o]
   |false=>simp only[go_sem,c78,wH,m,i,c,d,l,g,u,By.enc,NL.enc,a,B,h]
 |false=>
  have l:=K9 c;obtain⟨j,x,L,G⟩:=QC c;have D:Qo w.s w.e.Id=(j:Int):=L;have z:=Z6 (f:=Gk.enc) G;have F:WM w.s (j:Int)=x.Ld:=by simp[WM,G]
  have E:((j:Int)).toNat=j:=rfl;have h:=Z3D w w.s.Fa j x G (by have:=v.s.regions;omega)
  rw[D]at m c l⊢;rw[F,E];cases a:x.Ld != -1 with
  |true=>simp only[go_sem,c78,wH,m,i,c,l,z,Gk.enc,NL.enc,a,o]
  |false=>
  cases d:decide (ZL w.s w.e.Id<0)with
  |true=>
   have g:=JE d;simp only[go_sem,c78,wH,m,i,c,l,g,z,Gk.enc,NL.enc,a,B,h]
  |false=>
   have g:=K9 d;obtain⟨k,y,H,r⟩:=QC d;have q:ZL w.s w.e.Id=(k:Int):=H;have u:=Z6 (f:=By.enc) r;have p:QF w.s (k:Int)=y.Ld:=by simp[QF,r]
   rw[q]at i d g⊢;rw[p];cases b:y.Ld != -1 with
   |true=>simp only[go_sem,c78,wH,m,i,c,l,g,z,u,Gk.enc,By.enc,NL.enc,a,b,o]
   |false=>simp only[go_sem,c78,wH,m,i,c,l,g,z,u,Gk.enc,By.enc,NL.enc,a,b,B,h]
def Hm(w:Wk):Int:=
 bif decide (ZL w.s w.e.Id<0)||decide (ZL w.s w.e.bv<0)then 10 else bif QF w.s (ZL w.s w.e.Id) != -1||QF w.s (ZL w.s w.e.bv) != -1 then 11 else 0
def JF(s:Sta)(k:Nat):NL Nm:=match s.Gm[k]? with|some x=>x.bm|none=>⟨false,[]⟩
def exW(w:Wk):Wk:={w with s:={w.s with Gm:=ZK (ZK w.s.Gm (ZL w.s w.e.Id).toNat<|XN<|JF w.s (ZL w.s w.e.bv).toNat) (ZL w.s w.e.bv).toNat (XN<|JF w.s (ZL w.s w.e.Id).toNat)}}
def Xm{α:Type}(l:List α)(k:Nat)(f:α->α):(ZK l k f).length=l.length:=by
 unfold ZK;cases l[k]?<;>simp
def Z3J(u L:AObj)(P:∀n,Zj n u=true)(h1:∀n,Zj n L=true)(w:Wk)(q:WkS w):∃t,fnV rE 79 [.ptr 2 0 0 1] (wH u L w)=some (I<|Hm w,wH u L (bif Hm w==0 then exW w else w)++t):=by
 have d:=K7 w.s q.s w.e.Id;have g:=K7 w.s q.s w.e.bv;have i:((10:Int)==0)=false:=rfl;have m:((11:Int)==0)=false:=rfl;have N:((0:Int)==0)=true:=rfl;rw[Q6 (f:=79) rfl rfl];unfold Hm exW;cases c:decide (ZL w.s w.e.Id<0)with
 |true=>refine⟨[],?_⟩;simp only[go_sem,c79,wH,d,g,c,i,ZXr]
 |false=>
 cases h:decide (ZL w.s w.e.bv<0)with
 |true=>refine⟨[],?_⟩;simp only[go_sem,c79,wH,d,g,c,h,i,ZXr]
 |false=>
 obtain⟨j,x,O,r⟩:=QC c;obtain⟨k,y,Q,p⟩:=QC h;have A:ZL w.s w.e.Id=(j:Int):=O;have C:ZL w.s w.e.bv=(k:Int):=Q;have D:=Z6 (f:=By.enc) r;have M:=Z6 (f:=By.enc) p;have J:QF w.s (j:Int)=x.Ld:=by simp[QF,r]
 have K:QF w.s (k:Int)=y.Ld:=by simp[QF,p]
 have H:((j:Int)).toNat=j:=rfl;have E:((k:Int)).toNat=k:=rfl;have B:JF w.s j=x.bm:=by simp[JF,r]
 have v:JF w.s k=y.bm:=by simp[JF,p]
 rw[A]at d c⊢;rw[C]at g h⊢;rw[J,K,H,E,B,v];cases a:x.Ld != -1 with
 |true=>refine⟨[],?_⟩;simp only[go_sem,c79,wH,d,g,c,h,D,By.enc,NL.enc,a,m,ZXr]
 |false=>
 cases b:y.Ld != -1 with
 |true=>refine⟨[],?_⟩;simp only[go_sem,c79,wH,d,g,c,h,D,M,By.enc,NL.enc,a,b,m,ZXr]
 |false=>
  have z:=Z3F y.bm w.s.Gm j x r (by have:=q.s.streets;omega)
  obtain⟨F,G⟩:∃F,(ZK w.s.Gm j<|XN y.bm)[k]?=some F:=⟨_,ZXj<|by rw[Xm];exact Z7 p⟩
  have o:=Z3G x.bm (ZK w.s.Gm j<|XN y.bm) k F G (by have:=q.s.streets;rw[Xm];omega)
  refine⟨[.row 1 [.isl false x.bm.ex 3<|x.bm.l.map Nm.enc],.row 1 [.isl false y.bm.ex 3<|y.bm.l.map Nm.enc]],?_⟩;simp only[go_sem,c79,wH,d,g,c,h,D,M,By.enc,NL.enc,a,b,N,z,o,P,h1]
def WN(s:Sta)(b:Int):Nat->Int->Bool
 |0,_=>false
 |k+1,at'=>bif decide (at'>=0)then(bif at'==b then true else WN s b k<|XJ s at')else false
def Hn(w:Wk):Int:=bif decide (XJ w.s w.e.B>=0)then 11 else bif WN w.s w.e.B (w.s.Gc.length+2) w.e.A then 12 else 0
def Ho(w:Wk):Wk:={w with s:={w.s with Gc:=w.s.Gc++[⟨w.e.A,w.e.B⟩]}}
def Z3K(d f:AObj)(w:Wk)(j:WkS w):∀k a,chN w.s k a=true->
 ∃fr',Zg rE [0,3] c88L0b [(0,.ptr 2 0 0 1),(3,I a)] (wH d f w)=some (if WN w.s w.e.B (k+1) a=true then .ret else .exit 0,fr',wH d f w)/\
  (WN w.s w.e.B (k+1) a=true->get fr' 2=.int .i64 12)/\(WN w.s w.e.B (k+1) a=false->get fr' 0=.ptr 2 0 0 1/\get fr' 2=.bot):=by
 intro k;induction k with
 |zero=>
  intro a b;have h1:decide (a>=0)=false:=by simpa[chN]using b
  have h2:WN w.s w.e.B (0+1) a=false:=by rw[WN,h1];rfl
  rw[h2];refine⟨_,Q7 rfl (by simp only[go_sem,c88L0b,h1];rfl) (by simp),λh=>(by cases h),λ_=>⟨?_,?_⟩⟩<;>simp only[go_sem]
 |succ k ih=>
  intro a b;rw[WN];cases h1:decide (a>=0)with
  |false=>
   rw[cond_false];refine⟨_,Q7 rfl (by simp only[go_sem,c88L0b,h1];rfl) (by simp),λh=>(by cases h),λ_=>⟨?_,?_⟩⟩<;>simp only[go_sem]
  |true=>
   rw[cond_true];cases h2:a==w.e.B with
   |true=>
    rw[cond_true];refine⟨_,Q7 rfl (by simp only[go_sem,c88L0b,h1,h2];rfl) (by simp),λ_=>?_,λh=>(by cases h)⟩
    simp only[go_sem]
   |false=>
    rw[cond_false];have c:chN w.s k (XJ w.s a)=true:=by
     rw[chN,h1,cond_true]at b;exact b
    have l:=NJ w.s j.s a;obtain⟨fr',i,g⟩:=ih (XJ w.s a) c;refine⟨fr',?_,g⟩;rw[<-i];exact(Yt rfl (by simp only[go_sem,c88L0b,h1,h2,l];rfl)).trans (by simp only[go_sem])
def Z3L(s:Sta)(d:WK s=true)(a:Int):chN s (s.Gc.length+1) a=true:=by
 simp only[WK,ZXf]at d;obtain⟨_,_,e⟩:=d;rw[ZXs]at e;cases c:s.Gc.find? (λp=>p.b==a)with
 |some p=>
  have h1:=List.find?_some c;have h2:=e p<|ZZl c;have:p.b=a:=by simpa using h1
  rw[<-this];exact h2
 |none=>
  have f:XJ s a=-1:=by unfold XJ;rw[c]
  rw[chN];cases decide (a>=0)with
  |false=>rfl
  |true=>
   rw[cond_true,f];cases s.Gc.length<;>rfl
def Z3M(c l:AObj)(w:Wk)(i:WkS w)(n:WK w.s=true):∃t,fnV rE 88 [.ptr 2 0 0 1] (wH c l w)=some (I<|Hn w,wH c l (bif Hn w==0 then Ho w else w)++t):=by
 have j:=NJ w.s i.s w.e.B;have k:Z4 (w.s.Gc.map bf.enc)=true:=Zw (λt=>rfl) _
 have p:=λ(h:Hp)(aid:Nat)=>Vt (h:=h) (aid:=aid) (sz:=2) (bytes:=16) (es:=w.s.Gc.map bf.enc) (ys:=[.agg [I w.e.A,I w.e.B]]) (bw:=false) (bw2:=false) (ex:=false) rfl (by omega) (by omega) (by have:=i.s.merged;simp;omega) (by simp only[XA,k];rfl)
 have d:((12:Int)==0)=false:=rfl;have g:((11:Int)==0)=false:=rfl;have m:((0:Int)==0)=true:=rfl;obtain⟨fr',h1,h2,r⟩:=Z3K c l w i (w.s.Gc.length+1) w.e.A<|Z3L w.s n w.e.A;rw[Q6 (f:=88) rfl rfl];unfold Hn;refine⟨[],?_⟩;cases b:decide (XJ w.s w.e.B>=0)with
 |true=>simp only[go_sem,c88,j,b,g,ZXr]
 |false=>
 have e:w.s.Gc.length+2=w.s.Gc.length+1+1:=rfl;rw[e];cases a:WN w.s w.e.B (w.s.Gc.length+1+1) w.e.A with
 |true=>
  rw[a,if_pos rfl]at h1;simp only[go_sem,c88,c88L0,j,b,h1,h2 a,d,ZXr]
 |false=>
  rw[a]at h1;obtain⟨q,o⟩:=r a;simp only[go_sem,c88,c88L0,j,b,h1,q,o,m,ZXB,Fu,wrB,appW,p,ZM,ZH,Ho,ZXx,wH,wkC,bf.enc,ZXr]
def UF(e:Gt)(a:NL Str)(d:Ga):Ga:={d with Ld:=e.Day,Why:=e.br,After:=a}
def UG(e:Gt)(a:NL Str)(u:be):be:=
 match a.l with
 |x::_=>{u with Ga:=x}
 |[]=>{u with Ld:=e.Day,Why:=e.br}
def Z3N(w:Wk)(a:NL Str)(l:List Ga)(k:Nat)(x:Ga)(b:l[k]?=some x)(c:l.length<=1000000):pfn rE 168 [.isl false false 16<|l.map Ga.enc,I k,.clo (.func 276) [] [.iptr true [.iptr true<|wkC w],.iptr false [.isl false a.ex 1<|a.l.map encS]]]=some (.isl false false 16<|(ZK l k<|UF w.e a).map Ga.enc):=by
 have d:=Z7 b;have h:=Z6 (f:=Ga.enc) b;have g:∀v,((l.map Ga.enc).set k v)[k]?=some v:=λv=>by simp[d]
 rw[YA b,ZXJ];refine Xk (sz:=16) (f:=275) rfl rfl rfl _ _ _ (.tup []) false k (by simpa using d) (Xj (λ_=>rfl) _) (by simpa using c) ?_ (by simp) ?_
 .rw[Q6 (f:=276) rfl rfl];simp only[go_sem,c276,beq_self_eq_true,h,g,List.set_set,ZYG,ZXg,Ga.enc,NL.enc,UF]
 .rw[<-ZXJ];exact Zw (λt=>rfl) _
def Z3O(w:Wk)(a:NL Str)(l:List be)(k:Nat)(x:be)(b:l[k]?=some x)(c:l.length<=1000000):pfn rE 178 [.isl false false 6<|l.map be.enc,I k,.clo (.func 277) [] [.iptr false [.isl false a.ex 1<|a.l.map encS],.iptr true [.iptr true<|wkC w]]]=some (.isl false false 6<|(ZK l k<|UG w.e a).map be.enc):=by
 have i:=Z7 b;have h:=Z6 (f:=be.enc) b;have j:∀v,((l.map be.enc).set k v)[k]?=some v:=λv=>by simp[i]
 rw[YA b,ZXJ];refine Xk (sz:=6) (f:=282) rfl rfl rfl _ _ _ (.tup []) false k (by simpa using i) (Xj (λ_=>rfl) _) (by simpa using c) ?_ (by simp) ?_
 .rw[Q6 (f:=277) rfl rfl];unfold UG;cases m:a.l with
  |nil=>
   have d:decide (((0:Nat):Int)>0)=false:=rfl;simp only[go_sem,c277,beq_self_eq_true,h,j,List.set_set,ZYG,ZXg,be.enc,ZXD,ZXK,d]
  |cons y r=>
   have d:decide (((r.length+1:Nat):Int)>0)=true:=decide_eq_true<|by omega
   have g:ixG (.str y::r.map encS) 0=some (.str y):=rfl;simp only[go_sem,c277,beq_self_eq_true,h,ZXg,be.enc,ZXn,ZXw,ZXg,d,g,encS]
 .rw[<-ZXJ];exact Zw (λt=>rfl) _
def Z3P(id:Str)(u:be):Bool:=Z3 u.Ga id&&!(u.Ld != -1)
def XO(e:Gt)(id:Str)(a:NL Str)(u:be):be:=bif Z3P id u then UG e a u else u
def UH(e:Gt)(id:Str)(a:NL Str)(l:List be):List be:=l.map<|XO e id a
def Ym(w:Wk)(l:List Ga):Wk:={w with s:={w.s with Bc:=l}}
def Qx(w:Wk)(l:List be):Wk:={w with s:={w.s with Nk:=l}}
def Qf(w:Wk)(k:Nat)(a:NL Str):Wk:=
 match w.s.Bc[k]? with
 |some x=>Qx (Ym w<|ZK w.s.Bc k<|UF w.e a)<|UH w.e x.Id a w.s.Nk
 |none=>w
def Y3{α:Type}(f:α->α)(l:List α)(i:Nat):List α:=(l.take i).map f++l.drop i
def Z3Q{α:Type}(f:α->α)(l:List α):Y3 f l 0=l:=by simp[Y3]
def Z3R{α:Type}(f:α->α)(l:List α):Y3 f l l.length=l.map f:=by simp[Y3]
def Z3S{α:Type}(f:α->α)(l:List α)(i:Nat):(Y3 f l i).length=l.length:=by
 unfold Y3;simp;omega
def UI{α:Type}(f:α->α){l:List α}{i:Nat}{x:α}(h:l[i]?=some x):(Y3 f l i)[i]?=some x:=by
 have a:=Z7 h;unfold Y3;rw[ZYl<|by simp;omega]
 have:i-(List.map f<|List.take i l).length=0:=by simp;omega
 rw[this,ZZH];simpa using h
def Fx{α:Type}(f:α->α){l:List α}{i:Nat}{x:α}(h:l[i]?=some x):Y3 f l (i+1)=(Y3 f l i).set i (f x):=by
 have a:=Z7 h;have b:l[i]=x:=by rw[ZXj a]at h;exact Option.some.inj h
 unfold Y3;rw[ZYR a,b,ZXx,ZY0,ZZf _ _<|by simp;omega]
 have:i-(List.map f<|List.take i l).length=0:=by simp;omega
 rw[this,ZXP a];rfl
def Fy{α:Type}(f:α->α){l:List α}{i:Nat}{x:α}(h:l[i]?=some x)(a:f x=x):Y3 f l (i+1)=Y3 f l i:=by
 rw[Fx f h,a];have h2:=UI f h;have b:=Z7 h2;rw[ZXj b]at h2;have:=Option.some.inj h2;rw[<-this,List.set_getElem_self]
def Z3T(u z:AObj)(k:∀n,Zj n u=true)(h1:∀n,Zj n z=true)(id:Str)(a:NL Str)(w:Wk)(G:w.s.Nk.length<=1000)(t:Hp)
 (A:(∃x,t=[x]/\∀n,3<=n->Zj n x=true)\/∃x y,t=[x,y]/\(∀n,3<=n->Zj n x=true)/\∀n,3<=n->Zj n y=true):
 ∃fr',Zg rE [3,5,6,34,35,36] c170L0b [(3,.ptr (3+t.length) 0 0 1),(5,.iptr false [.isl false a.ex 1<|a.l.map encS]),(6,.str id),(34,.isl false false 6<|w.s.Nk.map be.enc),(35,I w.s.Nk.length),(36,.int .i64 0)] (wH u z w++t++[.row 1 [.ptr 2 0 0 1]]) =
  some (.exit 0,fr',wH u z (Qx w<|UH w.e id a w.s.Nk)++t++[.row 1 [.ptr 2 0 0 1]]):=by
 have L:=Y8 (E:=rE) (live:=[3,5,6,34,35,36]) (b:=c170L0b) w.s.Nk.length
  (λi=>[(3,.ptr (3+t.length) 0 0 1),(5,.iptr false [.isl false a.ex 1<|a.l.map encS]),(6,.str id),(34,.isl false false 6<|w.s.Nk.map be.enc),(35,I w.s.Nk.length),(36,I i)])
  (λi=>wH u z (Qx w<|Y3 (XO w.e id a) w.s.Nk i)++t++[.row 1 [.ptr 2 0 0 1]]) (λi=>rfl)
  (λi hi=>by
   obtain⟨x,o⟩:∃x,w.s.Nk[i]?=some x:=⟨_,ZXj hi⟩;have r:=Z6 (f:=be.enc) o;have d:=Zh hi;have q:=Zx (n:=i)<|by omega
   have g:=Z3O (Qx w<|Y3 (XO w.e id a) w.s.Nk i) a (Y3 (XO w.e id a) w.s.Nk i) i x (UI _ o)<|by rw[Z3S];omega
   have C:XO w.e id a x=bif Z3 x.Ga id&&!(x.Ld != -1)then UG w.e a x else x:=rfl;have D:Z3 x.Ga id=true->(x.Ld != -1)=false->ZK (Y3 (XO w.e id a) w.s.Nk i) i (UG w.e a)=Y3 (XO w.e id a) w.s.Nk (i+1):=λj m=>by
    rw[Fx _ o,YA<|UI _ o,C,j,m];rfl
   rw[YA<|UI _ o]at g;refine⟨[(3,.ptr (3+t.length) 0 0 1),(5,.iptr false [.isl false a.ex 1<|a.l.map encS]),(6,.str id),(34,.isl false false 6<|w.s.Nk.map be.enc),(35,I w.s.Nk.length),(36,I (i+1:Nat))],?_,rfl⟩;cases j:Z3 x.Ga id with
   |false=>
    have B:=Fy (XO w.e id a) o<|by rw[C,j];rfl
    rw[B];rcases A with⟨p,rfl,c⟩|⟨p,y0,rfl,c,b1⟩
    .simp only[go_sem,c170L0b,wH,Qx,r,d,q,be.enc,j,k,h1,c]
    .simp only[go_sem,c170L0b,wH,Qx,r,d,q,be.enc,j,k,h1,c,b1]
   |true=>
   cases m:x.Ld != -1 with
   |true=>
    have B:=Fy (XO w.e id a) o<|by rw[C,j,m];rfl
    rw[B];rcases A with⟨p,rfl,c⟩|⟨p,y0,rfl,c,b1⟩
    .simp only[go_sem,c170L0b,wH,Qx,r,d,q,be.enc,j,m,k,h1,c]
    .simp only[go_sem,c170L0b,wH,Qx,r,d,q,be.enc,j,m,k,h1,c,b1]
   |false=>
    have v:=D j m;rw[YA<|UI _ o]at v;have F:(Qx w<|Y3 (XO w.e id a) w.s.Nk i).e=w.e:=rfl;rw[F,v]at g;simp only[Qx]at g;rcases A with⟨p,rfl,c⟩|⟨p,y0,rfl,c,b1⟩
    .simp only[go_sem,c170L0b,wH,Qx,r,d,q,be.enc,j,m,k,h1,c,g]
    .simp only[go_sem,c170L0b,wH,Qx,r,d,q,be.enc,j,m,k,h1,c,b1,g])
  (e:=.exit 0) (fr:=[(3,.ptr (3+t.length) 0 0 1),(5,.iptr false [.isl false a.ex 1<|a.l.map encS]),(6,.str id),(34,.isl false false 6<|w.s.Nk.map be.enc),(35,I w.s.Nk.length),(36,I w.s.Nk.length)]) (h:=wH u z (Qx w<|Y3 (XO w.e id a) w.s.Nk w.s.Nk.length)++t++[.row 1 [.ptr 2 0 0 1]]) (by
   rcases A with⟨p,rfl,c⟩|⟨p,y0,rfl,c,b1⟩
   .simp only[go_sem,c170L0b,ZG,wH,Qx,k,h1]
   .simp only[go_sem,c170L0b,ZG,wH,Qx,k,h1]) (by simp)
 simp only[Z3Q,Z3R]at L;exact⟨_,L⟩
def Hq(c g:AObj)(j:∀n,Zj n c=true)(h1:∀n,Zj n g=true)(a:NL Str)(w:Wk)(q:w.s.Nk.length<=1000)(h:w.s.Bc.length<=1000000)(k:Nat)(x:Ga)(i:w.s.Bc[k]?=some x)(t:Hp)
 (p:(∃x,t=[x]/\∀n,3<=n->Zj n x=true)\/∃x y,t=[x,y]/\(∀n,3<=n->Zj n x=true)/\∀n,3<=n->Zj n y=true):
 fnV rE 170 [.ptr 2 0 0 1,I k,.isl false a.ex 1<|a.l.map encS] (wH c g w++t)=some (.tup [],wH c g (Qf w k a)++t++[.row 1 [.ptr 2 0 0 1]]):=by
 have o:=Z6 (f:=Ga.enc) i;have b:=Z3N w a w.s.Bc k x i h;obtain⟨fr',d⟩:=Z3T c g j h1 x.Id a (Ym w<|ZK w.s.Bc k<|UF w.e a) q t p;have e:Qf w k a=Qx (Ym w<|ZK w.s.Bc k<|UF w.e a) (UH w.e x.Id a w.s.Nk):=by unfold Qf;rw[i]
 rw[e,Q6 (f:=170) rfl rfl];rcases p with⟨r,rfl,m⟩|⟨r,y0,rfl,m,b1⟩
 .simp only[wH,Ym,Qx,ZXl,ZXo,ZXw,ZXK,Nat.reduceAdd]at d⊢;simp only[go_sem,c170,c170L0,o,b,Ga.enc,NL.enc,j,h1,m,d]
 .simp only[wH,Ym,Qx,ZXl,ZXo,ZXw,ZXK,Nat.reduceAdd]at d⊢;simp only[go_sem,c170,c170L0,o,b,Ga.enc,NL.enc,j,h1,m,b1,d]
def Fz(c e:AObj)(w:Wk)(i:w.s.Bc.length<=100000)(d:Ga)(t:Hp)(g:t=[]\/(∃x,t=[x])\/(∃x y,t=[x,y])\/∃x y z,t=[x,y,z]):
 ∃q,fnV rE 163 [.ptr 2 0 0 1,Zo d] (wH c e w++t)=some (.tup [],wH c e (Qw w d)++t++[q])/\∀n,Zj n q=true:=by
 have b:Z4 (w.s.Bc.map Ga.enc)=true:=Zw (λt=>rfl) _
 have a:=λ(h:Hp)(aid:Nat)=>Vt (h:=h) (aid:=aid) (sz:=16) (bytes:=184) (es:=w.s.Bc.map Ga.enc) (ys:=[Zo<|Xl w d]) (bw:=false) (bw2:=false) (ex:=false) rfl (by omega) (by omega) (by simp;omega) (by simp only[XA,b];rfl)
 refine⟨.row 16 [Zo<|Xl w d],?_,λn=>rfl⟩
 unfold Zo Xl at a⊢;simp only at a⊢;rw[Q6 (f:=163) rfl rfl];rcases g with rfl|⟨x,rfl⟩|⟨x,y,rfl⟩|⟨x,y,z,rfl⟩<;>
  simp only[go_sem,c163,Ft,wrB,appW,a,ZM,ZH,Qw,Xl,ZXx,wH,wkC,Ga.enc,NL.enc,ZXr]
def Hr(d:Ga)(x:Ent):Ga:=⟨x.Id,d.Ev,d.By,0,x.An,x.bg,0,0,⟨false,[]⟩,0,0,emp⟩
def Y5(w:Wk)(d:Ga)(l:List Ent):Wk:={w with s:={w.s with Bc:=w.s.Bc++l.map (λx=>Xl w<|Hr d x)}}
def Z3U(w:Wk)(d:Ga){l:List Ent}{i:Nat}{x:Ent}(h:l[i]?=some x):Y5 w d (l.take<|i+1)=Qw (Y5 w d<|l.take i) (Hr d x):=by
 unfold Y5 Qw;rw[YW _ h,ZY0];rfl
def WO(w:Wk)(l:List Ent):Bool:=Zu (λ_ x=>!twB w x.Id) 0 l
def Z3V(j m:AObj)(p:∀n,Zj n j=true)(h1:∀n,Zj n m=true)(w:Wk)(s:WkS w):
 ∃fr' h',Zg rE [0,3,14,15,16] c84L0b [(0,.ptr 2 0 0 1),(3,.sl 3 0 0 0 false),(14,.isl false w.e.Lst.ex 7<|w.e.Lst.l.map Ent.enc),(15,I w.e.Lst.l.length),(16,.int .i64 0)] (wH j m w++[.row 1 []]) =
  some (if WO w w.e.Lst.l=true then .exit 0 else .ret,fr',h')/\
  (WO w w.e.Lst.l=true->(get fr' 0=.ptr 2 0 0 1/\get fr' 2=.bot/\get fr' 3=.sl 3 w.e.Lst.l.length 0 w.e.Lst.l.length false)/\h'=wH j m w++[.row 1 ((w.e.Lst.l.map (·.Id)).map encS)])/\
  (WO w w.e.Lst.l=false->get fr' 2=.int .i64 8/\∃K,h'=wH j m w++[.row 1 K]):=by
 have k:∀n(K:List Str),Zd n (K.map encS)=true:=λn K=>ZN _<|Zw (λt=>rfl) K
 have B:=s.e.lst;have L:=Jk (E:=rE) (live:=[0,3,14,15,16]) (b:=c84L0b) w.e.Lst.l (λ_ x=>!twB w x.Id)
  (λi=>[(0,.ptr 2 0 0 1),(3,.sl 3 i 0 i false),(14,.isl false w.e.Lst.ex 7<|w.e.Lst.l.map Ent.enc),(15,I w.e.Lst.l.length),(16,I i)])
  (λi=>wH j m w++[.row 1 (((w.e.Lst.l.take i).map (·.Id)).map encS)]) 0
  (λfr' h'=>(get fr' 0=.ptr 2 0 0 1/\get fr' 2=.bot/\get fr' 3=.sl 3 w.e.Lst.l.length 0 w.e.Lst.l.length false)/\h'=wH j m w++[.row 1 ((w.e.Lst.l.map (·.Id)).map encS)])
  (λfr' h'=>get fr' 2=.int .i64 8/\∃K,h'=wH j m w++[.row 1 K])
  (λi=>rfl)
  (λi x hx hp=>by
   have u:=Z7 hx;have o:=Z6 (f:=Ent.enc) hx;have c:=Zh u;have r:=Zx (n:=i)<|by omega
   have A:=YW (λx:Ent=>x.Id) hx
   have v:((w.e.Lst.l.take i).map (·.Id)).length=i:=by rw[ZXg,take_len hx]
   have z:((w.e.Lst.l.take<|i+1).map (·.Id)).map encS=((w.e.Lst.l.take i).map (·.Id)).map encS++[.str x.Id]:=by
    rw[A,ZXx];rfl
   have a:=Wj w s x.Id;have d:twB w x.Id=false:=by simpa using hp
   rw[d]at a;rw[z];generalize(w.e.Lst.l.take i).map (·.Id)=KS at v⊢;have y:=λp0 p1 p2 q=>XC (h:=[p0,p1,p2,.row 1<|KS.map encS,q]) (fz:=false) (b:=3) (g:=i) (sz:=1) (es:=KS.map encS) (bw:=false) (ex:=false) (ys:=[.str x.Id]) (bytes:=16) (by simp[rowAt,v]) rfl (by simp[Qq];rfl) (by omega) (by omega) (by simp;omega)
   refine⟨[(0,.ptr 2 0 0 1),(2,.bot),(3,.sl 3 (i+1) 0 (i+1) false),(14,.isl false w.e.Lst.ex 7<|w.e.Lst.l.map Ent.enc),(15,I w.e.Lst.l.length),(16,I (i+1:Nat))],?_,rfl⟩;simp only[go_sem,c84L0b,wH,o,c,r,Ent.enc,a,y,beq_self_eq_true,k,p,h1])
  (λi x hx hp=>by
   have u:=Z7 hx;have o:=Z6 (f:=Ent.enc) hx;have c:=Zh u;have a:=Wj w s x.Id;have d:twB w x.Id=true:=by simpa using hp
   rw[d]at a;refine⟨_,_,by simp only[go_sem,c84L0b,wH,o,c,Ent.enc,a,beq_self_eq_true,k,p,h1];rfl,?_,_,rfl⟩
   simp only[go_sem])
  ⟨_,_,by simp only[go_sem,c84L0b,wH,ZG,ZXG,k,p,h1];rfl,⟨by simp only[go_sem],by simp only[go_sem],by simp only[go_sem]⟩,rfl⟩
 simp only[List.take_zero,ZXD]at L;exact L
def Z3W(a c:AObj)(r:∀n,Zj n a=true)(h1:∀n,Zj n c=true)(w:Wk)(y:w.s.Bc.length<=1000)(z:w.e.Lst.l.length<=100)(k:Int)(n:Nat)(K:List Str)(d:Ga):
 ∃fr',Zg rE [0,3,6,7,78,79,80] c84L1b [(0,.ptr 2 0 0 1),(3,.sl 3 n 0 n false),(6,I k),(7,.ptr 4 0 0 1),(78,.isl false w.e.Lst.ex 7<|w.e.Lst.l.map Ent.enc),(79,I w.e.Lst.l.length),(80,.int .i64 0)] (wH a c w++[.row 1<|K.map encS,.row 16 [Zo d]]) =
  some (.exit 3,fr',wH a c (Y5 w d w.e.Lst.l)++[.row 1<|K.map encS,.row 16 [Zo d]])/\get fr' 0=.ptr 2 0 0 1/\get fr' 3=.sl 3 n 0 n false/\get fr' 6=I k:=by
 have g:∀n(K:List Str),Zd n (K.map encS)=true:=λn K=>ZN _<|Zw (λt=>rfl) K
 have L:=Y8 (E:=rE) (live:=[0,3,6,7,78,79,80]) (b:=c84L1b) w.e.Lst.l.length
  (λi=>[(0,.ptr 2 0 0 1),(3,.sl 3 n 0 n false),(6,I k),(7,.ptr 4 0 0 1),(78,.isl false w.e.Lst.ex 7<|w.e.Lst.l.map Ent.enc),(79,I w.e.Lst.l.length),(80,I i)])
  (λi=>wH a c (Y5 w d<|w.e.Lst.l.take i)++[.row 1<|K.map encS,.row 16 [Zo d]]) (λi=>rfl)
  (λi hi=>by
   obtain⟨x,p⟩:∃x,w.e.Lst.l[i]?=some x:=⟨_,ZXj hi⟩;have u:=Z6 (f:=Ent.enc) p;have m:=Zh hi;have o:=Zx (n:=i)<|by omega
   obtain⟨q,j,A⟩:=Fz a c (Y5 w d<|w.e.Lst.l.take i) (by simp[Y5];omega) (Hr d x) [.row 1<|K.map encS,.row 16 [Zo d],.row 7 [x.enc]]<|Or.inr<|Or.inr<|Or.inr ⟨_,_,_,rfl⟩
   rw[Z3U w d p];refine⟨[(0,.ptr 2 0 0 1),(3,.sl 3 n 0 n false),(6,I k),(7,.ptr 4 0 0 1),(78,.isl false w.e.Lst.ex 7<|w.e.Lst.l.map Ent.enc),(79,I w.e.Lst.l.length),(80,I (i+1:Nat))],?_,rfl⟩;generalize Y5 w d (w.e.Lst.l.take i)=W at j⊢;unfold Hr Zo at j⊢;simp only[wH,ZXl,ZXo,ZXD,Ent.enc]at j⊢;simp only[go_sem,c84L1b,u,m,o,Ent.enc,j,beq_self_eq_true,g,r,h1])
  (e:=.exit 3) (fr:=[(0,.ptr 2 0 0 1),(3,.sl 3 n 0 n false),(6,I k),(7,.ptr 4 0 0 1),(78,.isl false w.e.Lst.ex 7<|w.e.Lst.l.map Ent.enc),(79,I w.e.Lst.l.length),(80,I w.e.Lst.l.length)]) (h:=wH a c (Y5 w d<|w.e.Lst.l.take w.e.Lst.l.length)++[.row 1<|K.map encS,.row 16 [Zo d]])
  (by simp only[go_sem,c84L1b,ZG,wH,g,r,h1,Zo]) (by simp)
 have v:Y5 w d (w.e.Lst.l.take 0)=w:=by simp[Y5]
 rw[v,ZXG]at L;exact⟨_,L,by simp only[go_sem],by simp only[go_sem],by simp only[go_sem]⟩
def Vu(s:Sta)(k:Int):Str:=match s.Bc[k.toNat]? with|some d=>d.Veil|none=>emp
def Ka(w:Wk):Int:=
 bif !WO w w.e.Lst.l then 8 else bif decide (Zn w.s w.e.Id<0)then 10
 else bif QN w.s (Zn w.s w.e.Id) != -1||!Z3 (Vu w.s<|Zn w.s w.e.Id) emp then 11 else 0
def Kb(w:Wk):Wk:=
 match w.s.Bc[(Zn w.s w.e.Id).toNat]? with
 |some d=>Qf (Y5 w d w.e.Lst.l) (Zn w.s w.e.Id).toNat ⟨false,w.e.Lst.l.map (·.Id)⟩
 |none=>w
def Z3X(h o:AObj)(g:∀n,Zj n h=true)(h1:∀n,Zj n o=true)(w:Wk)(d:WkS w):∃t,fnV rE 84 [.ptr 2 0 0 1] (wH h o w)=some (I<|Ka w,wH h o (bif Ka w==0 then Kb w else w)++t):=by
 have b:∀n(K:List Str),Zd n (K.map encS)=true:=λn K=>ZN _<|Zw (λt=>rfl) K
 have D:∀K:List Str,Z4 (K.map encS)=true:=λK=>Zw (λt=>rfl) K
 have r:=find_ok w.s d.s w.e.Id;have Q:((8:Int)==0)=false:=rfl;have A:((10:Int)==0)=false:=rfl;have p:((11:Int)==0)=false:=rfl;have J:((0:Int)==0)=true:=rfl;obtain⟨V,U,c,M,O⟩:=Z3V h o g h1 w d;rw[Q6 (f:=84) rfl rfl];unfold Ka;cases x:WO w w.e.Lst.l with
 |false=>
  rw[x]at c;obtain⟨k,K,rfl⟩:=O x;simp only[wH,ZXl,ZXo,ZXB,if_false]at c;refine⟨[.row 1 K],?_⟩;simp only[go_sem,c84,c84L0,wH,c,k,Q]
 |true=>
 rw[x,if_pos rfl]at c;obtain⟨⟨z,k,u⟩,rfl⟩:=M x;simp only[wH,ZXl,ZXo]at c;cases m:decide (Zn w.s w.e.Id<0)with
 |true=>
  refine⟨[.row 1 ((w.e.Lst.l.map (·.Id)).map encS)],?_⟩;simp only[go_sem,c84,c84L0,wH,c,z,k,u,b,g,h1,r,m,A]
 |false=>
 obtain⟨j,y,L,i⟩:=QC m;have q:Zn w.s w.e.Id=(j:Int):=L;have B:=Z6 (f:=Ga.enc) i;have F:QN w.s (j:Int)=y.Ld:=by simp[QN,i]
 have C:Vu w.s (j:Int)=y.Veil:=by simp[Vu,i]
 have H:((j:Int)).toNat=j:=rfl;rw[q]at r m⊢;rw[F,C];cases E:y.Ld != -1 with
 |true=>
  refine⟨[.row 1 ((w.e.Lst.l.map (·.Id)).map encS)],?_⟩;simp only[go_sem,c84,c84L0,wH,c,z,k,u,b,g,h1,r,m,B,Ga.enc,NL.enc,E,p]
 |false=>
 cases a:Z3 y.Veil emp with
 |false=>
  refine⟨[.row 1 ((w.e.Lst.l.map (·.Id)).map encS)],?_⟩;simp only[go_sem,c84,c84L0,wH,c,z,k,u,b,g,h1,r,m,B,Ga.enc,NL.enc,E,a,p]
 |true=>
  obtain⟨W,G,P,R,S⟩:=Z3W h o g h1 w d.s.doors (ZXW d.e.lst<|by decide) j w.e.Lst.l.length (w.e.Lst.l.map (·.Id)) y
  have v:=Hq h o g h1 ⟨false,w.e.Lst.l.map (·.Id)⟩ (Y5 w y w.e.Lst.l) d.s.units (by have:=d.s.doors;have:=d.e.lst;simp[Y5];omega) j y (by
   have:=Z7 i;unfold Y5;rw[ZYw this,i]) [.gone,.row 16 [Zo y]] (Or.inr ⟨_,_,rfl,λn _=>rfl,λn _=>rfl⟩)
  have N:Kb w=Qf (Y5 w y w.e.Lst.l) j ⟨false,w.e.Lst.l.map (·.Id)⟩:=by unfold Kb;rw[q,H,i]
  rw[N];generalize Qf (Y5 w y w.e.Lst.l) j ⟨false,w.e.Lst.l.map (·.Id)⟩=W2 at v⊢;unfold Zo at G v;simp only[wH,ZXl,ZXo]at G v;refine⟨[.gone,.row 16 [Zo y]],?_⟩;have T:List.take w.e.Lst.l.length ((w.e.Lst.l.map (·.Id)).map encS)=(w.e.Lst.l.map (·.Id)).map encS:=ZXz<|by simp
  simp only[go_sem,c84,c84L0,c84L1,wH,c,z,k,u,b,D,g,h1,r,m,B,Ga.enc,NL.enc,E,a,J,G,P,R,S,v,beq_self_eq_true,T,Zo]
def FA(w:Wk)(k:Nat)(a:NL Str):(Qf w k a).e=w.e:=by unfold Qf;split<;>rfl
def FB(w:Wk)(k:Nat)(a:NL Str):(Qf w k a).s.Bc.length=w.s.Bc.length:=by
 unfold Qf;split
 .simp[Qx,Ym,Xm]
 .rfl
def FC(w:Wk)(k:Nat)(a:NL Str):(Qf w k a).s.Nk.length=w.s.Nk.length:=by
 unfold Qf;split
 .simp[Qx,Ym,UH]
 .rfl
def Yg(w:Wk)(l:List Int)(a:NL Str):Wk:=l.foldl (λw k=>Qf w k.toNat a) w
def UJ(w:Wk)(k:Int)(l:List Int)(a:NL Str):Yg w (k::l) a=Yg (Qf w k.toNat a) l a:=rfl
def Z3Y(w:Wk){l:List Int}{i:Nat}{x:Int}(h:l[i]?=some x)(a:NL Str):Yg w (l.take<|i+1) a=Qf (Yg w (l.take i) a) x.toNat a:=by
 have b:=Z7 h;have c:l[i]=x:=by rw[ZXj b]at h;exact Option.some.inj h
 unfold Yg;rw[ZYR b,c,ZZs];rfl
def Z3Z(l:List Int)(a:NL Str):∀w:Wk,(Yg w l a).e=w.e:=by
 induction l with
 |nil=>intro w;rfl
 |cons x r ih=>intro w;rw[UJ,ih,FA]
def Z40(l:List Int)(a:NL Str):∀w:Wk,(Yg w l a).s.Bc.length=w.s.Bc.length:=by
 induction l with
 |nil=>intro w;rfl
 |cons x r ih=>intro w;rw[UJ,ih,FB]
def Z41(l:List Int)(a:NL Str):∀w:Wk,(Yg w l a).s.Nk.length=w.s.Nk.length:=by
 induction l with
 |nil=>intro w;rfl
 |cons x r ih=>intro w;rw[UJ,ih,FC]
def Z42(l:List Int)(ex:Bool)(v:Int)(a:l.length<=1000000):pfn rE 48 [.isl true ex 1<|l.map I,I v]=some (.bool<|l.any<|λx=>v==x):=by
 have h:=Nz (f:=109) (enc:=I) (p:=λx=>v==x) (v:=I v) rfl rfl l (by omega) (λx _=>rfl) rfl (λx _=>rfl) true ex
 rw[Z5 (f:=48) rfl rfl,<-Vg];unfold WG;simp only[go_sem,c48,h]
def Zf(w:Wk):List Int:=w.e.Ids.l.map<|λid=>Zn w.s id
def XP(s:Sta)(k:Int):Str:=match s.Bc[k.toNat]? with|some d=>d.By|none=>emp
def JG(s:Sta)(a:Str)(k:Int):Bool:=!((QN s k != -1||!Z3 (Vu s k) emp)||!Z3 (XP s k) a)
def Kc(w:Wk):Int:=
 bif twB w w.e.Id then 8 else bif (Zf w).any (λx=>-1==x)then 10
 else bif Zu (λ_ k=>JG w.s (XP w.s<|(Zf w).headD 0) k) 0 (Zf w)then 0 else 11
def WP(w:Wk)(d:Ga):Ga:=⟨w.e.Id,d.Ev,d.By,0,w.e.An,w.e.bg,0,0,⟨false,[]⟩,0,0,emp⟩
def Kd(w:Wk):Wk:=
 match w.s.Bc[((Zf w).headD 0).toNat]? with
 |some d=>Yg (Qw w<|WP w d) (Zf w) ⟨false,[w.e.Id]⟩
 |none=>w
def Z43(a d:AObj)(p:∀n,Zj n a=true)(h1:∀n,Zj n d=true)(w:Wk)(q:WkS w):
 ∃fr',Zg rE [0,3,23,24,25] c85L0b [(0,.ptr 2 0 0 1),(3,.sl 3 0 0 0 false),(23,.isl false w.e.Ids.ex 1<|w.e.Ids.l.map encS),(24,I w.e.Ids.l.length),(25,.int .i64 0)] (wH a d w++[.row 1 []]) =
  some (.exit 0,fr',wH a d w++[.row 1<|(Zf w).map I])/\get fr' 0=.ptr 2 0 0 1/\get fr' 3=.sl 3 (Zf w).length 0 (Zf w).length false:=by
 have c:∀n(K:List Int),Zd n (K.map I)=true:=λn K=>ZN _<|Zw (λt=>rfl) K
 have B:=q.e.ids;have L:=Y8 (E:=rE) (live:=[0,3,23,24,25]) (b:=c85L0b) w.e.Ids.l.length
  (λi=>[(0,.ptr 2 0 0 1),(3,.sl 3 i 0 i false),(23,.isl false w.e.Ids.ex 1<|w.e.Ids.l.map encS),(24,I w.e.Ids.l.length),(25,I i)])
  (λi=>wH a d w++[.row 1<|((w.e.Ids.l.take i).map (λid=>Zn w.s id)).map I]) (λi=>rfl)
  (λi hi=>by
   obtain⟨x,k⟩:∃x,w.e.Ids.l[i]?=some x:=⟨_,ZXj hi⟩;have v:=Z6 (f:=encS) k;have j:=Zh hi;have m:=Zx (n:=i)<|by omega
   have A:=YW (λid=>Zn w.s id) k
   have o:((w.e.Ids.l.take i).map (λid=>Zn w.s id)).length=i:=by rw[ZXg,take_len k]
   have u:((w.e.Ids.l.take<|i+1).map (λid=>Zn w.s id)).map I=((w.e.Ids.l.take i).map (λid=>Zn w.s id)).map I++[I<|Zn w.s x]:=by
    rw[A,ZXx];rfl
   have z:=find_ok w.s q.s x;rw[u];generalize(w.e.Ids.l.take i).map (λid=>Zn w.s id)=KS at o⊢
   have r:=λp0 p1 p2=>XC (h:=[p0,p1,p2,.row 1<|KS.map I]) (fz:=false) (b:=3) (g:=i) (sz:=1) (es:=KS.map I) (bw:=false) (ex:=false) (ys:=[I<|Zn w.s x]) (bytes:=8) (by simp[rowAt,o]) rfl (by simp[Qq];rfl) (by omega) (by omega) (by simp;omega)
   refine⟨[(0,.ptr 2 0 0 1),(3,.sl 3 (i+1) 0 (i+1) false),(23,.isl false w.e.Ids.ex 1<|w.e.Ids.l.map encS),(24,I w.e.Ids.l.length),(25,I (i+1:Nat))],?_,rfl⟩;simp only[go_sem,c85L0b,wH,v,j,m,encS,z,r,beq_self_eq_true,c,p,h1])
  (e:=.exit 0) (fr:=[(0,.ptr 2 0 0 1),(3,.sl 3 w.e.Ids.l.length 0 w.e.Ids.l.length false),(23,.isl false w.e.Ids.ex 1<|w.e.Ids.l.map encS),(24,I w.e.Ids.l.length),(25,I w.e.Ids.l.length)]) (h:=wH a d w++[.row 1<|((w.e.Ids.l.take w.e.Ids.l.length).map (λid=>Zn w.s id)).map I])
  (by simp only[go_sem,c85L0b,ZG,wH,c,p,h1]) (by simp)
 rw[ZXG]at L;have y:(Zf w).length=w.e.Ids.l.length:=by simp[Zf]
 rw[y];exact⟨_,L,by simp only[go_sem],by simp only[go_sem]⟩
def Z44{l:List Int}(h:l.any (λx=>-1==x)=false){i:Nat}{k:Int}(a:l[i]?=some k):k≠-1:=by
 intro e;rw[ZZv]at h;exact h k (ZXp a)<|by rw[e];rfl
def UK(w:Wk)(h:(Zf w).any (λx=>-1==x)=false){i:Nat}{k:Int}(a:(Zf w)[i]?=some k):∃(j:Nat)(d:Ga),k=(j:Int)/\w.s.Bc[j]?=some d:=by
 have c:=Z44 h a;unfold Zf at a;rw[ZY8]at a;cases f:w.e.Ids.l[i]? with
 |none=>rw[f]at a;cases a
 |some id=>
  rw[f]at a;have b:Zn w.s id=k:=Option.some.inj a;have g:decide (Zn w.s id<0)=false:=by
   rcases UA (λx:Ga=>Z3 x.Id id) w.s.Bc 0 with⟨h1,_⟩|⟨j,x,h1,h2,_⟩
   .exact absurd (show k=-1 by rw[<-b];exact h1) c
   .have:Zn w.s id=0+(j:Int):=h1;rw[this];exact decide_eq_false<|by omega
  obtain⟨j,d,h1,h2⟩:=QC g;exact⟨j,d,by rw[<-b];exact h1,h2⟩
def Z45(p z:AObj)(C:∀n,Zj n p=true)(h1:∀n,Zj n z=true)(w:Wk)(M:WkS w)(H:(Zf w).any (λx=>-1==x)=false)(d:Ga):
 ∃fr' h',Zg rE [0,3,6,51,52,53] c85L1b [(0,.ptr 2 0 0 1),(3,.sl 3 (Zf w).length 0 (Zf w).length false),(6,.ptr 4 0 0 1),(51,.sl 3 (Zf w).length 0 (Zf w).length false),(52,I (Zf w).length),(53,.int .i64 0)] (wH p z w++[.row 1<|(Zf w).map I,.row 16 [Zo d]]) =
  some (if Zu (λ_ k=>JG w.s d.By k) 0 (Zf w)=true then .exit 2 else .ret,fr',h')/\
  (Zu (λ_ k=>JG w.s d.By k) 0 (Zf w)=true->(get fr' 0=.ptr 2 0 0 1/\get fr' 2=.bot/\get fr' 3=.sl 3 (Zf w).length 0 (Zf w).length false/\get fr' 6=.ptr 4 0 0 1)/\h'=wH p z w++[.row 1<|(Zf w).map I,.row 16 [Zo d]])/\
  (Zu (λ_ k=>JG w.s d.By k) 0 (Zf w)=false->(get fr' 0=.ptr 2 0 0 1/\get fr' 2=.int .i64 11/\get fr' 3=.sl 3 (Zf w).length 0 (Zf w).length false/\get fr' 6=.ptr 4 0 0 1)/\h'=wH p z w++[.row 1<|(Zf w).map I,.row 16 [Zo d]]):=by
 have g:∀n(K:List Int),Zd n (K.map I)=true:=λn K=>ZN _<|Zw (λt=>rfl) K
 have J:(Zf w).length<=100:=by simp[Zf];exact M.e.ids
 have L:=Jk (E:=rE) (live:=[0,3,6,51,52,53]) (b:=c85L1b) (Zf w) (λ_ k=>JG w.s d.By k)
  (λi=>[(0,.ptr 2 0 0 1),(3,.sl 3 (Zf w).length 0 (Zf w).length false),(6,.ptr 4 0 0 1),(51,.sl 3 (Zf w).length 0 (Zf w).length false),(52,I (Zf w).length),(53,I i)])
  (λi=>wH p z w++[.row 1<|(Zf w).map I,.row 16 [Zo d]]) 2
  (λfr' h'=>(get fr' 0=.ptr 2 0 0 1/\get fr' 2=.bot/\get fr' 3=.sl 3 (Zf w).length 0 (Zf w).length false/\get fr' 6=.ptr 4 0 0 1)/\h'=wH p z w++[.row 1<|(Zf w).map I,.row 16 [Zo d]])
  (λfr' h'=>(get fr' 0=.ptr 2 0 0 1/\get fr' 2=.int .i64 11/\get fr' 3=.sl 3 (Zf w).length 0 (Zf w).length false/\get fr' 6=.ptr 4 0 0 1)/\h'=wH p z w++[.row 1<|(Zf w).map I,.row 16 [Zo d]])
  (λi=>rfl)
  (λi k hk hp=>by
   have G:=Z7 hk;obtain⟨j,y,rfl,m⟩:=UK w H hk;have D:=Z6 (f:=I) hk;have B:=Z6 (f:=Ga.enc) m;have l:=Zh G;have F:=Zx (n:=i)<|by omega
   have v:QN w.s (j:Int)=y.Ld:=by simp[QN,m]
   have r:Vu w.s (j:Int)=y.Veil:=by simp[Vu,m]
   have u:XP w.s (j:Int)=y.By:=by simp[XP,m]
   have c:(!((y.Ld != -1||!Z3 y.Veil emp)||!Z3 y.By d.By))=true:=by rw[<-v,<-r,<-u];exact hp
   have o:(y.Ld != -1)=false:=by revert c;cases(y.Ld != -1)<;>simp
   have A:Z3 y.Veil emp=true:=by revert c;rw[o];cases Z3 y.Veil emp<;>simp
   have a:Z3 y.By d.By=true:=by revert c;rw[o,A];cases Z3 y.By d.By<;>simp
   have q:((i:Int)<((Zf w).length:Int)):=by omega
   refine⟨[(0,.ptr 2 0 0 1),(2,.bot),(3,.sl 3 (Zf w).length 0 (Zf w).length false),(6,.ptr 4 0 0 1),(51,.sl 3 (Zf w).length 0 (Zf w).length false),(52,I (Zf w).length),(53,I (i+1:Nat))],?_,rfl⟩;have h:iaP 3 (Zf w).length 0 1 (i:Int) (Zf w).length (some (1,(Zf w).map I))=some (.ptr 3 i 0 (Zf w).length):=by
    rw[VT _ _ _ _ _ _ _ ⟨by omega,q⟩];simp
   simp only[go_sem,c85L1b,wH,Zo,D,B,l,F,h,Ga.enc,NL.enc,o,A,a,beq_self_eq_true,g,C,h1])
  (λi k hk hp=>by
   have G:=Z7 hk;obtain⟨j,y,rfl,m⟩:=UK w H hk;have D:=Z6 (f:=I) hk;have B:=Z6 (f:=Ga.enc) m;have l:=Zh G;have v:QN w.s (j:Int)=y.Ld:=by simp[QN,m]
   have r:Vu w.s (j:Int)=y.Veil:=by simp[Vu,m]
   have u:XP w.s (j:Int)=y.By:=by simp[XP,m]
   have c:(!((y.Ld != -1||!Z3 y.Veil emp)||!Z3 y.By d.By))=false:=by rw[<-v,<-r,<-u];exact hp
   have q:((i:Int)<((Zf w).length:Int)):=by omega
   have h:iaP 3 (Zf w).length 0 1 (i:Int) (Zf w).length (some (1,(Zf w).map I))=some (.ptr 3 i 0 (Zf w).length):=by
    rw[VT _ _ _ _ _ _ _ ⟨by omega,q⟩];simp
   cases o:(y.Ld != -1)with
   |true=>exact⟨_,_,by simp only[go_sem,c85L1b,wH,Zo,D,B,l,h,Ga.enc,NL.enc,o,beq_self_eq_true,g,C,h1];rfl,⟨by simp only[go_sem],by simp only[go_sem],by simp only[go_sem],by simp only[go_sem]⟩,rfl⟩
   |false=>
   cases A:Z3 y.Veil emp with
   |false=>exact⟨_,_,by simp only[go_sem,c85L1b,wH,Zo,D,B,l,h,Ga.enc,NL.enc,o,A,beq_self_eq_true,g,C,h1];rfl,⟨by simp only[go_sem],by simp only[go_sem],by simp only[go_sem],by simp only[go_sem]⟩,rfl⟩
   |true=>
   cases a:Z3 y.By d.By with
   |true=>rw[o,A,a]at c;cases c
   |false=>exact⟨_,_,by simp only[go_sem,c85L1b,wH,Zo,D,B,l,h,Ga.enc,NL.enc,o,A,a,beq_self_eq_true,g,C,h1];rfl,⟨by simp only[go_sem],by simp only[go_sem],by simp only[go_sem],by simp only[go_sem]⟩,rfl⟩)
  ⟨_,_,by simp only[go_sem,c85L1b,wH,Zo,ZG,g,C,h1];rfl,⟨by simp only[go_sem],by simp only[go_sem],by simp only[go_sem],by simp only[go_sem]⟩,rfl⟩
 exact L
def Z46(g m:AObj)(u:∀n,Zj n g=true)(h1:∀n,Zj n m=true)(l:List Int)(D:l.length<=100)(w:Wk)(J:w.s.Nk.length<=1000)(v:w.s.Bc.length<=1000000)(x:∀(i:Nat)(k:Int),l[i]?=some k->∃j:Nat,k=(j:Int)/\j<w.s.Bc.length)(d:Ga):
 ∃fr',Zg rE [0,103,104,105] c85L2b [(0,.ptr 2 0 0 1),(103,.sl 3 l.length 0 l.length false),(104,I l.length),(105,.int .i64 0)] (wH g m w++[.row 1<|l.map I,.row 16 [Zo d]]) =
  some (.exit 4,fr',wH g m (Yg w l ⟨false,[w.e.Id]⟩)++[.row 1<|l.map I,.row 16 [Zo d]]):=by
 have c:∀n(K:List Int),Zd n (K.map I)=true:=λn K=>ZN _<|Zw (λt=>rfl) K
 have L:=Y8 (E:=rE) (live:=[0,103,104,105]) (b:=c85L2b) l.length
  (λi=>[(0,.ptr 2 0 0 1),(103,.sl 3 l.length 0 l.length false),(104,I l.length),(105,I i)])
  (λi=>wH g m (Yg w (l.take i) ⟨false,[w.e.Id]⟩)++[.row 1<|l.map I,.row 16 [Zo d]]) (λi=>rfl)
  (λi hi=>by
   obtain⟨k,B⟩:∃k,l[i]?=some k:=⟨_,ZXj hi⟩;obtain⟨j,rfl,G⟩:=x i k B;have M:=Z6 (f:=I) B;have A:=Zh hi;have p:=Zx (n:=i)<|by omega
   have q:((i:Int)<(l.length:Int)):=by omega
   have z:iaP 3 l.length 0 1 (i:Int) l.length (some (1,l.map I))=some (.ptr 3 i 0 l.length):=by
    rw[VT _ _ _ _ _ _ _ ⟨by omega,q⟩];simp
   rw[Z3Y w B];have C:=Z3Z (l.take i) ⟨false,[w.e.Id]⟩ w;have a:=Z40 (l.take i) ⟨false,[w.e.Id]⟩ w;have o:=Z41 (l.take i) ⟨false,[w.e.Id]⟩ w;generalize Yg w (l.take i) ⟨false,[w.e.Id]⟩=W at C a o⊢;obtain⟨y,H⟩:∃y,W.s.Bc[j]?=some y:=⟨_,ZXj<|by rw[a];exact G⟩
   have r:=Hq g m u h1 ⟨false,[w.e.Id]⟩ W (by rw[o];exact J) (by rw[a];exact v) j y H [.row 1<|l.map I,.row 16 [Zo d]]<|Or.inr ⟨_,_,rfl,λn _=>by simp only[go_sem,c],λn _=>rfl⟩
   have F:((j:Int)).toNat=j:=rfl;rw[F];generalize Qf W j ⟨false,[w.e.Id]⟩=W2 at r⊢;refine⟨[(0,.ptr 2 0 0 1),(103,.sl 3 l.length 0 l.length false),(104,I l.length),(105,I (i+1:Nat))],?_,rfl⟩;simp only[wH,Zo,encS,ZXl,ZXo,ZXn,ZXD]at r⊢;simp only[go_sem,c85L2b,M,A,p,z,C,r,beq_self_eq_true,c,u,h1])
  (e:=.exit 4) (fr:=[(0,.ptr 2 0 0 1),(103,.sl 3 l.length 0 l.length false),(104,I l.length),(105,I l.length)]) (h:=wH g m (Yg w (l.take l.length) ⟨false,[w.e.Id]⟩)++[.row 1<|l.map I,.row 16 [Zo d]])
  (by simp only[go_sem,c85L2b,Zo,ZG,wH,c,u,h1]) (by simp)
 rw[ZXG]at L;exact⟨_,L⟩
def FD{l:List Int}(h:0<l.length):l[0]?=some (l.headD 0):=by
 cases l with
 |nil=>simp at h
 |cons x r=>rfl
def Z47(b h:AObj)(o:∀n,Zj n b=true)(h1:∀n,Zj n h=true)(w:Wk)(m:WkS w)(ab:0<w.e.Ids.l.length):∃t,fnV rE 85 [.ptr 2 0 0 1] (wH b h w)=some (I<|Kc w,wH b h (bif Kc w==0 then Kd w else w)++t):=by
 have c:∀n(K:List Int),Zd n (K.map I)=true:=λn K=>ZN _<|Zw (λt=>rfl) K
 have g:∀K:List Int,Z4 (K.map I)=true:=λK=>Zw (λt=>rfl) K
 have a:=Wj w m w.e.Id;have z8:((8:Int)==0)=false:=rfl;have C:((10:Int)==0)=false:=rfl;have E:((11:Int)==0)=false:=rfl;have X:((0:Int)==0)=true:=rfl;have V:(Zf w).length=w.e.Ids.l.length:=by simp[Zf]
 have hl:=m.e.ids;obtain⟨f0,z,P,D⟩:=Z43 b h o h1 w m;simp only[wH,ZXl,ZXo]at z;have S:List.take (Zf w).length ((Zf w).map I)=(Zf w).map I:=ZXz<|by simp
 have u:=Z42 (Zf w) false (-1)<|by omega
 rw[Q6 (f:=85) rfl rfl];unfold Kc;cases U:twB w w.e.Id with
 |true=>
  rw[U]at a;refine⟨[],?_⟩;simp only[go_sem,c85,wH,a,z8,ZXr]
 |false=>
 rw[U]at a;cases v:(Zf w).any (λx=>-1==x)with
 |true=>
  rw[v]at u;refine⟨[.row 1<|(Zf w).map I],?_⟩;simp only[go_sem,c85,c85L0,wH,a,z,P,D,u,S,g,c,o,h1,C,beq_self_eq_true]
 |false=>
 rw[v]at u;have r:=FD (l:=Zf w)<|by omega
 obtain⟨j,d,F,H⟩:=UK w v r;have O:=Z6 (f:=I) r;have T:=Z6 (f:=Ga.enc) H;have G:((0:Int)<((Zf w).length:Int)):=by omega
 have y:iaP 3 (Zf w).length 0 1 (0:Int) (Zf w).length (some (1,(Zf w).map I))=some (.ptr 3 0 0 (Zf w).length):=by
  rw[VT _ _ _ _ _ _ _ ⟨by omega,G⟩];simp
 rw[F]at O;have M:XP w.s (j:Int)=d.By:=by simp[XP,H]
 rw[F,M];obtain⟨f1,g1,p,a1,b1⟩:=Z45 b h o h1 w m v d;cases B:Zu (λ_ k=>JG w.s d.By k) 0 (Zf w)with
 |false=>
  rw[B]at p;obtain⟨⟨N,J,Q,R⟩,rfl⟩:=b1 B;simp only[wH,Zo,ZXl,ZXo,ZXB,if_false]at p;refine⟨[.row 1<|(Zf w).map I,.row 16 [Zo d]],?_⟩;simp only[go_sem,c85,c85L0,c85L1,wH,a,z,P,D,u,S,g,c,o,h1,E,beq_self_eq_true,O,T,y,Ga.enc,NL.enc,Zo,p,N,J,Q,R]
 |true=>
  rw[B,if_pos rfl]at p;obtain⟨⟨N,J,Q,R⟩,rfl⟩:=a1 B;simp only[wH,Zo,ZXl,ZXo]at p;have aa:=m.s.doors;obtain⟨q,A,hq⟩:=Fz b h w (by omega) (WP w d) [.row 1<|(Zf w).map I,.row 16 [Zo d]]<|Or.inr<|Or.inr<|Or.inl ⟨_,_,rfl⟩
  obtain⟨f2,l2⟩:=Z46 b h o h1 (Zf w) (by omega) (Qw w<|WP w d) m.s.units (by simp[Qw];omega) (λ(i:Nat)(k:Int)(hk:(Zf w)[i]?=some k)=>by
   obtain⟨Y,d',e1,e2⟩:=UK w v hk;exact⟨Y,e1,by have:=Z7 e2;simp[Qw];omega⟩) d
  have Z:Kd w=Yg (Qw w<|WP w d) (Zf w) ⟨false,[w.e.Id]⟩:=by
   have W:((j:Int)).toNat=j:=rfl;unfold Kd;rw[F,W,H]
  have L:(Qw w<|WP w d).e.Id=w.e.Id:=rfl;rw[L]at l2;rw[Z];generalize Yg (Qw w<|WP w d) (Zf w) ⟨false,[w.e.Id]⟩=W2 at l2⊢;generalize Qw w (WP w d)=W1 at l2 A;unfold WP Zo at A;simp only[wH,Zo,ZXl,ZXo,ZXD]at l2 A;refine⟨[.row 1<|(Zf w).map I,.row 16 [Zo d]],?_⟩;simp only[go_sem,c85,c85L0,c85L1,c85L2,wH,a,z,P,D,u,S,g,c,o,h1,X,beq_self_eq_true,O,T,y,Ga.enc,NL.enc,p,N,J,Q,R,A,l2,Zo]
def FE(n:Nat)(h:3<=n):Zj n (.row 1 [.ptr 2 0 0 1])=true:=by
 have:decide (2<n)=true:=decide_eq_true<|by omega
 simp[Zj,Zd,bel];omega
def Ke(e:Gt)(x:Ev):Ev:={x with Ld:=e.Day}
def Z48(w:Wk)(l:List Ev)(k:Nat)(x:Ev)(a:l[k]?=some x)(b:l.length<=1000000):pfn rE 171 [.isl false false 4<|l.map Ev.enc,I k,.clo (.func 172) [] [.iptr true [.iptr true<|wkC w]]]=some (.isl false false 4<|(ZK l k<|Ke w.e).map Ev.enc):=by
 have d:=Z7 a;have c:=Z6 (f:=Ev.enc) a;rw[YA a,ZXJ];refine Xk (sz:=4) (f:=278) rfl rfl rfl _ _ _ (.tup []) false k (by simpa using d) (Xj (λ_=>rfl) _) (by simpa using b) ?_ (by simp) ?_
 .rw[Q6 (f:=172) rfl rfl];simp only[go_sem,c172,beq_self_eq_true,c,Ev.enc,NL.enc,Ke]
 .rw[<-ZXJ];exact Zw (λt=>rfl) _
def NV(id:Str)(x:Ga):Bool:=Z3 x.Ev id&&x.Ld==-1
def Y6(w:Wk)(l:List Ga):Nat->Wk
 |0=>w
 |i+1=>match l[i]? with
  |some x=>bif NV w.e.Id x then Qf (Y6 w l i) i ⟨false,[]⟩else Y6 w l i
  |none=>Y6 w l i
def FF(w:Wk)(l:List Ga):∀i,(Y6 w l i).e=w.e/\(Y6 w l i).s.Bc.length=w.s.Bc.length/\(Y6 w l i).s.Nk.length=w.s.Nk.length
 |0=>⟨rfl,rfl,rfl⟩
 |i+1=>by
  have a:=FF w l i;rw[Y6];cases l[i]? with
  |none=>exact a
  |some x=>
   dsimp only;cases NV w.e.Id x with
   |false=>exact a
   |true=>
    rw[cond_true,FA,FB,FC];exact a
def JH(w:Wk)(l:List Ev):Wk:={w with s:={w.s with Bt:=l}}
def Z49(g j:AObj)(k:∀n,Zj n g=true)(h1:∀n,Zj n j=true)(w:Wk)(z:w.s.Nk.length<=1000)(A:w.s.Bc.length<=1000):
 ∃fr',Zg rE [1,46,47,48] c86L0b [(1,.ptr 3 0 0 1),(46,.isl false false 16<|w.s.Bc.map Ga.enc),(47,I w.s.Bc.length),(48,.int .i64 0)] (wH g j w++[.row 1 [.ptr 2 0 0 1]]) =
  some (.exit 1,fr',wH g j (Y6 w w.s.Bc w.s.Bc.length)++[.row 1 [.ptr 2 0 0 1]]):=by
 have L:=Y8 (E:=rE) (live:=[1,46,47,48]) (b:=c86L0b) w.s.Bc.length
  (λi=>[(1,.ptr 3 0 0 1),(46,.isl false false 16<|w.s.Bc.map Ga.enc),(47,I w.s.Bc.length),(48,I i)])
  (λi=>wH g j (Y6 w w.s.Bc i)++[.row 1 [.ptr 2 0 0 1]]) (λi=>rfl)
  (λi hi=>by
   obtain⟨x,t⟩:∃x,w.s.Bc[i]?=some x:=⟨_,ZXj hi⟩;have p:=Z6 (f:=Ga.enc) t;have c:=Zh hi;have d:=Zx (n:=i)<|by omega
   obtain⟨m,a,l⟩:=FF w w.s.Bc i;have u:Y6 w w.s.Bc (i+1)=bif Z3 x.Ev w.e.Id&&x.Ld==-1 then Qf (Y6 w w.s.Bc i) i ⟨false,[]⟩else Y6 w w.s.Bc i:=by
    rw[Y6,t];rfl
   rw[u];generalize Y6 w w.s.Bc i=W at m a l⊢;obtain⟨y,v⟩:∃y,W.s.Bc[i]?=some y:=⟨_,ZXj<|by rw[a];exact hi⟩
   have q:=Hq g j k h1 ⟨false,[]⟩ W (by rw[l];exact z) (by rw[a];omega) i y v [.row 1 [.ptr 2 0 0 1],.row 16 [x.enc]]<|Or.inr ⟨_,_,rfl,FE,λn _=>rfl⟩
   generalize Qf W i ⟨false,[]⟩=W2 at q⊢;refine⟨[(1,.ptr 3 0 0 1),(46,.isl false false 16<|w.s.Bc.map Ga.enc),(47,I w.s.Bc.length),(48,I (i+1:Nat))],?_,rfl⟩;simp only[wH,ZXl,ZXo,ZXD,Ga.enc,NL.enc]at q⊢;cases o:Z3 x.Ev w.e.Id with
   |false=>simp only[go_sem,c86L0b,p,c,d,m,o,Ga.enc,NL.enc,k,h1]
   |true=>
   cases r:x.Ld==-1 with
   |false=>simp only[go_sem,c86L0b,p,c,d,m,o,r,Ga.enc,NL.enc,k,h1]
   |true=>simp only[go_sem,c86L0b,p,c,d,m,o,r,Ga.enc,NL.enc,k,h1,q])
  (e:=.exit 1) (fr:=[(1,.ptr 3 0 0 1),(46,.isl false false 16<|w.s.Bc.map Ga.enc),(47,I w.s.Bc.length),(48,I w.s.Bc.length)]) (h:=wH g j (Y6 w w.s.Bc w.s.Bc.length)++[.row 1 [.ptr 2 0 0 1]])
  (by simp only[go_sem,c86L0b,ZG,wH,k,h1]) (by simp)
 exact⟨_,L⟩
def Hs(w:Wk):Int:=bif decide (Y1 w.s w.e.Id<0)then 10 else bif WL w.s (Y1 w.s w.e.Id) != -1 then 11 else 0
def Ht(w:Wk):Wk:=Y6 (JH w<|ZK w.s.Bt (Y1 w.s w.e.Id).toNat<|Ke w.e) w.s.Bc w.s.Bc.length
def Z4a(b h:AObj)(r:∀n,Zj n b=true)(h1:∀n,Zj n h=true)(w:Wk)(d:WkS w):∃t,fnV rE 86 [.ptr 2 0 0 1] (wH b h w)=some (I<|Hs w,wH b h (bif Hs w==0 then Ht w else w)++t):=by
 have c:=Hb w.s d.s w.e.Id;have i:((10:Int)==0)=false:=rfl;have k:((11:Int)==0)=false:=rfl;have y:((0:Int)==0)=true:=rfl;rw[Q6 (f:=86) rfl rfl];unfold Hs Ht;refine⟨[.row 1 [.ptr 2 0 0 1]],?_⟩;cases a:decide (Y1 w.s w.e.Id<0)with
 |true=>simp only[go_sem,c86,wH,c,a,i]
 |false=>
 obtain⟨j,x,z,p⟩:=QC a;have m:Y1 w.s w.e.Id=(j:Int):=z;have q:=Z6 (f:=Ev.enc) p;have A:WL w.s (j:Int)=x.Ld:=by simp[WL,p]
 have v:((j:Int)).toNat=j:=rfl;have l:=Z48 w w.s.Bt j x p (by have:=d.s.buildings;omega)
 rw[m]at c a⊢;rw[A,v];cases u:x.Ld != -1 with
 |true=>simp only[go_sem,c86,wH,c,a,q,Ev.enc,NL.enc,u,k]
 |false=>
  obtain⟨B,g⟩:=Z49 b h r h1 (JH w<|ZK w.s.Bt j<|Ke w.e) d.s.units d.s.doors;have o:(JH w<|ZK w.s.Bt j<|Ke w.e).s.Bc=w.s.Bc:=rfl;rw[o]at g;generalize Y6 (JH w<|ZK w.s.Bt j<|Ke w.e) w.s.Bc w.s.Bc.length=W2 at g⊢;simp only[wH,JH,ZXl,ZXo]at g;simp only[go_sem,c86,c86L0,wH,c,a,q,Ev.enc,NL.enc,u,y,l,g,r,h1]
def c87_eq:c87=.seq s87p0 (.seq s87p1<|.seq s87p2<|.seq s87p3<|.seq s87p4<|.seq s87p5<|.seq s87p6<|.seq s87p7 .ret):=(rfl)
def UL(e:Gt)(x:Gk):Gk:={x with Ld:=e.Day}
def UM(e:Gt)(x:By):By:={x with Ld:=e.Day}
def UN(e:Gt)(x:be):be:={x with Ld:=e.Day,Why:=e.br}
def Z4b(w:Wk)(l:List Gk)(k:Nat)(x:Gk)(a:l[k]?=some x)(b:l.length<=1000000):pfn rE 152 [.isl false false 6<|l.map Gk.enc,I k,.clo (.func 173) [] [.iptr true [.iptr true<|wkC w]]]=some (.isl false false 6<|(ZK l k<|UL w.e).map Gk.enc):=by
 have c:=Z6 (f:=Gk.enc) a;rw[YA a,ZXJ];refine Xk (sz:=6) (f:=267) rfl rfl rfl _ _ _ (.tup []) false k (by grind) (Xj (λ_=>rfl) _) (by grind) ?_ (by simp) ?_
 .rw[Q6 (f:=173) rfl rfl];simp[go_sem,c173,c,Gk.enc,UL]
 .rw[<-ZXJ];exact Zw (λt=>rfl) _
def Z4c(w:Wk)(l:List By)(k:Nat)(x:By)(a:l[k]?=some x)(b:l.length<=1000000):pfn rE 157 [.isl false false 5<|l.map By.enc,I k,.clo (.func 176) [] [.iptr true [.iptr true<|wkC w]]]=some (.isl false false 5<|(ZK l k<|UM w.e).map By.enc):=by
 have c:=Z6 (f:=By.enc) a;rw[YA a,ZXJ];refine Xk (sz:=5) (f:=270) rfl rfl rfl _ _ _ (.tup []) false k (by grind) (Xj (λ_=>rfl) _) (by grind) ?_ (by simp) ?_
 .rw[Q6 (f:=176) rfl rfl];simp[go_sem,c176,c,By.enc,UM]
 .rw[<-ZXJ];exact Zw (λt=>rfl) _
def Z4d(w:Wk)(l:List be)(k:Nat)(x:be)(a:l[k]?=some x)(b:l.length<=1000000):pfn rE 178 [.isl false false 6<|l.map be.enc,I k,.clo (.func 179) [] [.iptr true [.iptr true<|wkC w]]]=some (.isl false false 6<|(ZK l k<|UN w.e).map be.enc):=by
 have g:=Z6 (f:=be.enc) a;have d:∀v,((l.map be.enc).set k v)[k]?=some v:=λv=>by grind
 rw[YA a,ZXJ];refine Xk (sz:=6) (f:=282) rfl rfl rfl _ _ _ (.tup []) false k (by grind) (Xj (λ_=>rfl) _) (by grind) ?_ (by simp) ?_
 .rw[Q6 (f:=179) rfl rfl];simp[go_sem,c179,g,d,be.enc,UN]
 .rw[<-ZXJ];exact Zw (λt=>rfl) _
def Z4e{E:Env}{α:Type}{sz:Nat}{n:Option Nat}{enc:α->AV}{p:α->Bool}{g:Nat}{cap:List AV}(l:List α)(r:∀x∈l,Ql [] (enc x::cap)=some (enc x::cap))(w:l.length<=4611686018427387904)(m:∀x∈l,Yu n<|enc x)
 (t:∀x∈l,pfn E g (enc x::cap)=some (.bool<|p x)) (bw ex:Bool):∀(b a:List α),l=a++b->
  ∃fr',Zb E (.loop [0,1,7,8]<|XB sz n) (Vd sz g cap enc l bw ex a.length) []=some (if Zp p b a.length=-1 then .exit 0 else .ret,fr',[])/\(Zp p b a.length≠-1->get fr' 4=.int .i64 (Zp p b a.length)):=by
 intro b;induction b with
 |nil=>
  intro a c;have o:decide ((a.length:Int)<(l.length:Int))=false:=by grind
  rw[J2];unfold Vd;simp only[go_sem,XB,o,qy,reduceIte,Zp]
  grind
 |cons x b ih=>
  intro a c;have q:x∈l:=by grind
  have j:a.length<l.length:=by grind
  have o:decide ((a.length:Int)<(l.length:Int))=true:=by grind
  have d:ixG (l.map enc) (a.length:Int)=some (enc x):=by rw[c,ZXx,ZXn];have:=RK (a.map enc) (enc x)<|b.map enc;rwa[ZXg]at this
  have f:=(m x q).2;have e:=r x q;have i:=t x q;rw[J2];unfold Vd;have v:IntKind.i64.wrap ((a.length:Int)+1)=((a++[x]).length:Int):=by grind [Zx]
  have s:((a++[x]).length:Int)=(a.length:Int)+1:=by simp
  cases k:p x with
  |true=>
   have u:((a.length:Int)=-1)=False:=by simp
   simp only[go_sem,XB,o,d,f,e,i,k,qy,reduceIte,Zp,ZXo,ZXl,u];exact⟨_,rfl,λ_=>rfl⟩
  |false=>
   obtain⟨fr',h1,h2⟩:=ih (a++[x])<|by grind
   rw[s]at h1 h2;simp only[go_sem,XB,o,d,f,e,i,k,v,qy,Nat.reduceAdd,reduceIte,Zp,ZXo,ZXl];rw[ZXy]at h1;exact⟨fr',(Dl<|by rfl).trans h1,h2⟩
def FG{E:Env}{f:Nat}{α:Type}{sz:Nat}{n:Option Nat}{enc:α->AV}{p:α->Bool}{g:Nat}{cap:List AV}(e:E.sum f=none)(k:E.fn f=some ⟨[.tmp 4],GR sz n⟩)(l:List α)(d:∀x∈l,Ql [] (enc x::cap)=some (enc x::cap))(i:l.length<=4611686018427387904)
 (a:∀x∈l,Yu n<|enc x) (h:∀x∈l,pfn E g (enc x::cap)=some (.bool<|p x)) (bw ex:Bool):pfn E f [.isl bw ex sz<|l.map enc,.clo (.func g) [] cap]=some (.int .i64<|Zp p l 0):=by
 rw[Z5 e k];obtain⟨fr',h1,h2⟩:=Z4e (E:=E) l d i a h bw ex l [] rfl;have c:Zb E (.loop [0,1,7,8]<|XB sz n) [(0,AV.isl bw ex sz<|l.map enc),(1,AV.clo (.func g) [] cap),(7,AV.int .i64 l.length),(8,AV.int .i64 0)] []=some (if Zp p l 0=-1 then .exit 0 else .ret,fr',[]):=h1
 unfold GR;by_cases b:Zp p l 0=-1
 .rw[if_pos b]at c;simp[go_sem,c,b,ZXg]
 .rw[if_neg b]at c;have j:get fr' 4=AV.int .i64 (Zp p l 0):=h2 b;simp[go_sem,c,j,ZXg]
def Kf(s:Sta)(id:Str):Bool:=s.Bc.any<|λx=>Z3 x.By id&&x.Ld==-1
def Z4f(s:Sta)(c:StS s)(id:Str):pfn rE 174 [.isl false false 16<|s.Bc.map Ga.enc,.clo (.func 175) [] [.iptr true [.str id]]]=some (.bool<|Kf s id):=by
 have b:∀x:Ga,pfn rE 175 [x.enc,.iptr true [.str id]]=some (.bool<|Z3 x.By id&&x.Ld==-1):=λx=>by
  rw[Z5 (f:=175) rfl rfl];cases a:Z3 x.By id with
  |false=>simp[go_sem,c175,Ga.enc,NL.enc,a]
  |true=>simp[go_sem,c175,Ga.enc,NL.enc,a]
 have h1:=FG (E:=rE) (f:=279) (sz:=16) (n:=some 16) (enc:=Ga.enc) (p:=λx=>Z3 x.By id&&x.Ld==-1) (g:=175) (cap:=[.iptr true [.str id]]) rfl rfl s.Bc (λx _=>GQ _ _ rfl (by simp[QJ,msz,Ga.enc,NL.enc])) (by have:=c.doors;omega) (λx _=>x.el) (λx _=>b x) false false
 rw[Z5 (f:=174) rfl rfl];unfold Kf;rw[<-Vg];unfold WG;simp only[go_sem,c174,h1]
def Kg(s:Sta)(id:Str):Bool:=!decide (Qo s id<0)&&WM s (Qo s id)==-1
def Kh(s:Sta)(id:Str):Bool:=!decide (ZL s id<0)&&QF s (ZL s id)==-1
def Ki(s:Sta)(id:Str):Bool:=!decide (Zn s id<0)&&QN s (Zn s id)==-1
def NW(s:Sta)(k:Int):Int:=match s.Nk[k.toNat]? with|some b=>b.Ld|none=>0
def UO(s:Sta)(id:Str):Bool:=!decide (Wf s id<0)&&NW s (Wf s id)==-1
def Hu(w:Wk)(l:List Gk):Wk:={w with s:={w.s with Fa:=l}}
def Hv(w:Wk)(l:List By):Wk:={w with s:={w.s with Gm:=l}}
abbrev shT(w:Wk):Hp:=[.row 1 [.ptr 2 0 0 1],.row 1 [.str w.e.Id]]
def Z4g(b c:AObj)(p:∀n,Zj n b=true)(h1:∀n,Zj n c=true)(w:Wk)(q:WkS w):
 (Kg w.s w.e.Id=true->∃fr' t,Zb rE s87p2 [(1,.ptr 3 0 0 1),(3,.ptr 4 0 0 1)] (wH b c w++shT w)=some (.ret,fr',wH b c (Hu w<|ZK w.s.Fa (Qo w.s w.e.Id).toNat<|UL w.e)++t)/\get fr' 2=I 0)/\
 (Kg w.s w.e.Id=false->Zb rE s87p2 [(1,.ptr 3 0 0 1),(3,.ptr 4 0 0 1)] (wH b c w++shT w)=some (.normal,[(1,.ptr 3 0 0 1),(3,.ptr 4 0 0 1),(4,I<|Qo w.s w.e.Id),(32,.bool false)],wH b c w++shT w)):=by
 have d:=NI w.s q.s w.e.Id;unfold Kg;cases i:decide (Qo w.s w.e.Id<0)with
 |true=>
  have a:=JE i;refine⟨λh=>(by grind),λ_=>?_⟩
  simp[go_sem,s87p2,wH,shT,d,a]
 |false=>
  have a:=K9 i;obtain⟨j,x,v,k⟩:=QC i;have g:Qo w.s w.e.Id=(j:Int):=v;have m:=Z6 (f:=Gk.enc) k;have u:WM w.s (j:Int)=x.Ld:=by grind [WM]
  have r:((j:Int)).toNat=j:=rfl;have l:=Z4b w w.s.Fa j x k (by have:=q.s.regions;omega)
  rw[g]at d a⊢;rw[u,r];cases o:x.Ld==-1 with
  |true=>
   refine⟨λ_=>⟨_,[.row 1 [.ptr 2 0 0 1],.row 1 [.str w.e.Id]],by simp only[go_sem,s87p2,wH,shT,Hu,d,a,m,Gk.enc,NL.enc,o,l,p,h1];rfl,by simp only[go_sem]⟩,λh=>(by grind)⟩
  |false=>
   refine⟨λh=>(by grind),λ_=>?_⟩
   simp only[go_sem,s87p2,wH,shT,d,a,m,Gk.enc,NL.enc,o,p,h1]
def Z4h(d g:AObj)(q:∀n,Zj n d=true)(h1:∀n,Zj n g=true)(w:Wk)(u:WkS w)(v:AV):
 (Kh w.s w.e.Id=true->∃fr' t,Zb rE s87p3 [(1,.ptr 3 0 0 1),(3,.ptr 4 0 0 1),(4,v),(32,.bool false)] (wH d g w++shT w)=some (.ret,fr',wH d g (bif Kf w.s w.e.Id then w else Hv w<|ZK w.s.Gm (ZL w.s w.e.Id).toNat<|UM w.e)++t)/\get fr' 2=I (bif Kf w.s w.e.Id then 11 else 0))/\
 (Kh w.s w.e.Id=false->Zb rE s87p3 [(1,.ptr 3 0 0 1),(3,.ptr 4 0 0 1),(4,v),(32,.bool false)] (wH d g w++shT w)=some (.normal,[(1,.ptr 3 0 0 1),(3,.ptr 4 0 0 1),(5,I<|ZL w.s w.e.Id),(64,.bool false)],wH d g w++shT w)):=by
 have c:=K7 w.s u.s w.e.Id;have i:=Z4f w.s u.s w.e.Id;unfold Kh;cases m:decide (ZL w.s w.e.Id<0)with
 |true=>
  have b:=JE m;refine⟨λh=>(by grind),λ_=>?_⟩
  simp only[go_sem,s87p3,wH,shT,c,b]
 |false=>
  have b:=K9 m;obtain⟨j,x,A,p⟩:=QC m;have l:ZL w.s w.e.Id=(j:Int):=A;have k:=Z6 (f:=By.enc) p;have z:QF w.s (j:Int)=x.Ld:=by grind [QF]
  have y:((j:Int)).toNat=j:=rfl;have r:=Z4c w w.s.Gm j x p (by have:=u.s.streets;omega)
  rw[l]at c b⊢;rw[z,y];cases o:x.Ld==-1 with
  |true=>
   refine⟨λ_=>?_,λh=>(by grind)⟩
   cases a:Kf w.s w.e.Id with
   |true=>
    rw[a]at i;exact⟨_,[.row 1 [.ptr 2 0 0 1],.row 1 [.str w.e.Id]],by simp only[go_sem,s87p3,wH,shT,c,b,k,By.enc,NL.enc,o,i,q,h1];rfl,by simp only[go_sem]⟩
   |false=>
    rw[a]at i;exact⟨_,[.row 1 [.ptr 2 0 0 1],.row 1 [.str w.e.Id]],by simp only[go_sem,s87p3,wH,shT,Hv,c,b,k,By.enc,NL.enc,o,i,r,q,h1];rfl,by simp only[go_sem]⟩
  |false=>
   refine⟨λh=>(by grind),λ_=>?_⟩
   simp only[go_sem,s87p3,wH,shT,c,b,k,By.enc,NL.enc,o,q,h1]
def Z4i(a b:AObj)(m:∀n,Zj n a=true)(h1:∀n,Zj n b=true)(w:Wk)(o:WkS w)(v:AV):
 (Ki w.s w.e.Id=true->∃fr' t,Zb rE s87p4 [(1,.ptr 3 0 0 1),(3,.ptr 4 0 0 1),(5,v),(64,.bool false)] (wH a b w++shT w)=some (.ret,fr',wH a b (Qf w (Zn w.s w.e.Id).toNat ⟨false,[]⟩)++t)/\get fr' 2=I 0)/\
 (Ki w.s w.e.Id=false->Zb rE s87p4 [(1,.ptr 3 0 0 1),(3,.ptr 4 0 0 1),(5,v),(64,.bool false)] (wH a b w++shT w)=some (.normal,[(1,.ptr 3 0 0 1),(3,.ptr 4 0 0 1),(6,I<|Zn w.s w.e.Id),(103,.bool false)],wH a b w++shT w)):=by
 have d:=find_ok w.s o.s w.e.Id;unfold Ki;cases i:decide (Zn w.s w.e.Id<0)with
 |true=>
  have c:=JE i;refine⟨λh=>(by grind),λ_=>?_⟩
  simp only[go_sem,s87p4,wH,shT,d,c]
 |false=>
  have c:=K9 i;obtain⟨j,x,u,l⟩:=QC i;have g:Zn w.s w.e.Id=(j:Int):=u;have p:=Z6 (f:=Ga.enc) l;have y:QN w.s (j:Int)=x.Ld:=by grind [QN]
  have r:((j:Int)).toNat=j:=rfl;have k:=Hq a b m h1 ⟨false,[]⟩ w o.s.units (by have:=o.s.doors;omega) j x l [.row 1 [.ptr 2 0 0 1],.row 1 [.str w.e.Id]]<|Or.inr ⟨_,_,rfl,FE,λn _=>rfl⟩
  rw[g]at d c⊢;rw[y,r];cases q:x.Ld==-1 with
  |true=>
   generalize Qf w j ⟨false,[]⟩=W2 at k⊢;simp only[wH,ZXl,ZXo,ZXD]at k;exact⟨λ_=>⟨_,[.row 1 [.ptr 2 0 0 1],.row 1 [.str w.e.Id]],by simp only[go_sem,s87p4,wH,shT,d,c,p,Ga.enc,NL.enc,q,k,m,h1];rfl,by simp only[go_sem]⟩,λh=>(by grind)⟩
  |false=>
   refine⟨λh=>(by grind),λ_=>?_⟩
   simp only[go_sem,s87p4,wH,shT,d,c,p,Ga.enc,NL.enc,q,m,h1]
def Z4j(b c:AObj)(p:∀n,Zj n b=true)(h1:∀n,Zj n c=true)(w:Wk)(q:WkS w)(v:AV):
 (UO w.s w.e.Id=true->∃fr' t,Zb rE s87p5 [(1,.ptr 3 0 0 1),(3,.ptr 4 0 0 1),(6,v),(103,.bool false)] (wH b c w++shT w)=some (.ret,fr',wH b c (Qx w<|ZK w.s.Nk (Wf w.s w.e.Id).toNat<|UN w.e)++t)/\get fr' 2=I 0)/\
 (UO w.s w.e.Id=false->Zb rE s87p5 [(1,.ptr 3 0 0 1),(3,.ptr 4 0 0 1),(6,v),(103,.bool false)] (wH b c w++shT w)=some (.normal,[(1,.ptr 3 0 0 1),(3,.ptr 4 0 0 1),(7,I<|Wf w.s w.e.Id),(126,.bool false)],wH b c w++shT w)):=by
 have d:=Z2Q w.s q.s w.e.Id;unfold UO;cases i:decide (Wf w.s w.e.Id<0)with
 |true=>
  have a:=JE i;refine⟨λh=>(by grind),λ_=>?_⟩
  simp only[go_sem,s87p5,wH,shT,d,a]
 |false=>
  have a:=K9 i;obtain⟨j,x,y,k⟩:=QC i;have g:Wf w.s w.e.Id=(j:Int):=y;have m:=Z6 (f:=be.enc) k;have u:NW w.s (j:Int)=x.Ld:=by grind [NW]
  have r:((j:Int)).toNat=j:=rfl;have l:=Z4d w w.s.Nk j x k (by have:=q.s.units;omega)
  rw[g]at d a⊢;rw[u,r];cases o:x.Ld==-1 with
  |true=>
   refine⟨λ_=>⟨_,[.row 1 [.ptr 2 0 0 1],.row 1 [.str w.e.Id]],by simp only[go_sem,s87p5,wH,shT,Qx,d,a,m,be.enc,o,l,p,h1];rfl,by simp only[go_sem]⟩,λh=>(by grind)⟩
  |false=>
   refine⟨λh=>(by grind),λ_=>?_⟩
   simp only[go_sem,s87p5,wH,shT,d,a,m,be.enc,o,p,h1]
def Hw(w:Wk):Int:=
 bif Kg w.s w.e.Id then 0 else bif Kh w.s w.e.Id then(bif Kf w.s w.e.Id then 11 else 0)else bif Ki w.s w.e.Id then 0 else bif UO w.s w.e.Id then 0
 else bif twB w w.e.Id&&decide (Y1 w.s w.e.Id<0)then 11 else 10
def Hy(w:Wk):Wk:=
 bif Kg w.s w.e.Id then Hu w<|ZK w.s.Fa (Qo w.s w.e.Id).toNat<|UL w.e
 else bif Kh w.s w.e.Id then Hv w<|ZK w.s.Gm (ZL w.s w.e.Id).toNat<|UM w.e
 else bif Ki w.s w.e.Id then Qf w (Zn w.s w.e.Id).toNat ⟨false,[]⟩
 else Qx w<|ZK w.s.Nk (Wf w.s w.e.Id).toNat<|UN w.e
def Z4k(l m:AObj)(u:∀n,Zj n l=true)(h1:∀n,Zj n m=true)(w:Wk)(o:WkS w):∃t,fnV rE 87 [.ptr 2 0 0 1] (wH l m w)=some (I<|Hw w,wH l m (bif Hw w==0 then Hy w else w)++t):=by
 have p:((10:Int)==0)=false:=rfl;have q:((11:Int)==0)=false:=rfl;have r:((0:Int)==0)=true:=rfl;have y:=Z4g l m u h1 w o;have v:=Z4h l m u h1 w o<|I<|Qo w.s w.e.Id;have z:=Z4i l m u h1 w o<|I<|ZL w.s w.e.Id;have x:=Z4j l m u h1 w o<|I<|Zn w.s w.e.Id;have i:=Wj w o w.e.Id;have A:=Hb w.s o.s w.e.Id;simp only[wH,shT,ZXl,ZXo]at y v z x;rw[Q6 (f:=87) (c:=c87) rfl rfl,c87_eq];unfold Hw Hy;cases B:Kg w.s w.e.Id with
 |true=>
  obtain⟨fr',t,h2,b⟩:=y.1 B;refine⟨t,?_⟩;generalize Hu w (ZK w.s.Fa (Qo w.s w.e.Id).toNat<|UL w.e)=W at h2⊢;simp only[go_sem,s87p0,s87p1,wH,h2,b,r]
 |false=>
 have h2:=y.2 B;cases C:Kh w.s w.e.Id with
 |true=>
  obtain⟨fr',t,b,d⟩:=v.1 C;refine⟨t,?_⟩;cases a:Kf w.s w.e.Id with
  |true=>
   rw[a]at b d;simp only[cond_true]at b d;simp only[go_sem,s87p0,s87p1,wH,h2,b,d,q]
  |false=>
   rw[a]at b d;simp only[cond_false]at b d;generalize Hv w (ZK w.s.Gm (ZL w.s w.e.Id).toNat<|UM w.e)=W at b⊢;simp only[go_sem,s87p0,s87p1,wH,h2,b,d,r]
 |false=>
 have b:=v.2 C;cases a:Ki w.s w.e.Id with
 |true=>
  obtain⟨fr',t,d,k⟩:=z.1 a;refine⟨t,?_⟩;generalize Qf w (Zn w.s w.e.Id).toNat ⟨false,[]⟩=W at d⊢;simp only[go_sem,s87p0,s87p1,wH,h2,b,d,k,r]
 |false=>
 have d:=z.2 a;cases g:UO w.s w.e.Id with
 |true=>
  obtain⟨fr',t,k,D⟩:=x.1 g;refine⟨t,?_⟩;generalize Qx w (ZK w.s.Nk (Wf w.s w.e.Id).toNat<|UN w.e)=W at k⊢;simp only[go_sem,s87p0,s87p1,wH,h2,b,d,k,D,r]
 |false=>
 have k:=x.2 g;refine⟨[.row 1 [.ptr 2 0 0 1],.row 1 [.str w.e.Id]],?_⟩;cases h:twB w w.e.Id with
 |false=>
  rw[h]at i;simp only[go_sem,s87p0,s87p1,s87p6,s87p7,wH,h2,b,d,k,i,p]
 |true=>
 rw[h]at i;cases j:decide (Y1 w.s w.e.Id<0)with
 |true=>simp only[go_sem,s87p0,s87p1,s87p6,s87p7,wH,h2,b,d,k,i,A,j,q]
 |false=>simp only[go_sem,s87p0,s87p1,s87p6,s87p7,wH,h2,b,d,k,i,A,j,p]
def UP(n:HN)(x:Ga):Ga:={x with An:=n}
def Z4l(e:Ent)(l:List Ga)(k:Nat)(x:Ga)(a:l[k]?=some x)(b:l.length<=1000000):pfn rE 168 [.isl false false 16<|l.map Ga.enc,I k,.clo (.func 169) [] [.iptr true [.str e.Id,.int .i64 e.An.N,.str e.An.bn,.int .i64 e.An.Num,.int .i64 e.An.Den,.int .i64 e.bg.X,.int .i64 e.bg.Y]]]=some (.isl false false 16<|(ZK l k<|UP e.An).map Ga.enc):=by
 have d:=Z7 a;have c:=Z6 (f:=Ga.enc) a;rw[YA a,ZXJ];refine Xk (sz:=16) (f:=275) rfl rfl rfl _ _ _ (.tup []) false k (by simpa using d) (Xj (λ_=>rfl) _) (by simpa using b) ?_ (by simp) ?_
 .rw[Q6 (f:=169) rfl rfl];simp only[go_sem,c169,beq_self_eq_true,c,Ga.enc,NL.enc,UP]
 .rw[<-ZXJ];exact Zw (λt=>rfl) _
def Kj(s:Sta)(x:Ent):Bool:=decide (Zn s x.Id<0)
def Hz(w:Wk)(x:Ent):Bool:=QN w.s (Zn w.s x.Id) != -1||!Z3 (XP w.s<|Zn w.s x.Id) w.e.Id
def FH{g:Nat}{cap:List AV}{p:Ent->Bool}(l:List Ent)(d:l.length<=1000)(ex:Bool)(a:∀x∈l,Ql [] (x.enc::cap)=some (x.enc::cap))(b:Ql [] [.isl false ex 7<|l.map Ent.enc,.clo (.func g) [] cap]=some [.isl false ex 7<|l.map Ent.enc,.clo (.func g) [] cap])
 (c:∀x∈l,pfn rE g (x.enc::cap)=some (.bool<|p x)):pfn rE 166 [.isl false ex 7<|l.map Ent.enc,.clo (.func g) [] cap]=some (.bool<|l.any p):=by
 have h1:=FG (E:=rE) (f:=274) (sz:=7) (n:=some 7) (enc:=Ent.enc) (p:=p) (g:=g) (cap:=cap) rfl rfl l a (by omega) (λx _=>x.el) c false ex
 rw[Z5 (f:=166) rfl rfl,<-Vg];unfold WG;simp only[go_sem,c166,h1,b]
abbrev JI(w:Wk):List AV:=[.iptr true [.iptr true<|wkC w]]
def ZDV(w:Wk)(x:Ent):Ql [] (x.enc::JI w)=some (x.enc::JI w):=GQ _ _ rfl (by simp[QJ,msz,Ent.enc])
def FJ(w:Wk)(g:Nat)(l:List Ent)(ex:Bool):Ql [] [.isl false ex 7<|l.map Ent.enc,.clo (.func g) []<|JI w]=some [.isl false ex 7<|l.map Ent.enc,.clo (.func g) []<|JI w]:=GQ _ _ rfl (by simp[QJ,msz])
def Z4m(w:Wk)(a:WkS w):pfn rE 166 [.isl false w.e.Lst.ex 7<|w.e.Lst.l.map Ent.enc,.clo (.func 165) []<|JI w]=some (.bool<|w.e.Lst.l.any<|Kj w.s):=by
 refine FH _ (by have:=a.e.lst;omega) _ (λx _=>ZDV w x) (FJ w _ _ _)<|λx _=>?_
 have b:=find_ok w.s a.s x.Id;rw[Z5 (f:=165) rfl rfl];unfold Kj;simp only[go_sem,c165,Ent.enc,b]
def Z4n(w:Wk)(n:WkS w)(k:w.e.Lst.l.any (Kj w.s)=false):pfn rE 166 [.isl false w.e.Lst.ex 7<|w.e.Lst.l.map Ent.enc,.clo (.func 167) []<|JI w]=some (.bool<|w.e.Lst.l.any<|Hz w):=by
 refine FH _ (by have:=n.e.lst;omega) _ (λx _=>ZDV w x) (FJ w _ _ _)<|λx hx=>?_
 have h:=find_ok w.s n.s x.Id;rw[ZZv]at k;have g:decide (Zn w.s x.Id<0)=false:=by simpa[Kj]using k x hx
 obtain⟨j,y,o,a⟩:=QC g;have c:Zn w.s x.Id=(j:Int):=o;have i:=Z6 (f:=Ga.enc) a;have d:QN w.s (j:Int)=y.Ld:=by simp[QN,a]
 have b:XP w.s (j:Int)=y.By:=by simp[XP,a]
 unfold Hz;rw[c]at h⊢;rw[d,b,Z5 (f:=167) rfl rfl];cases m:y.Ld != -1 with
 |true=>simp only[go_sem,c167,Ent.enc,h,i,Ga.enc,NL.enc,m]
 |false=>simp only[go_sem,c167,Ent.enc,h,i,Ga.enc,NL.enc,m]
def Kk(D:List Ga)(id:Str):Int:=Zp (λx:Ga=>Z3 x.Id id) D 0
def NX{α a:Type}(f:α->a)(p:a->Bool):∀(l:List α)(i:Int),Zp (λx=>p<|f x) l i=Zp p (l.map f) i
 |[],_=>rfl
 |x::r,i=>by simp only[Zp,ZXn];rw[NX f p r]
def Z4o{D a:List Ga}(h:D.map (·.Id)=a.map (·.Id))(id:Str):Kk D id=Kk a id:=by
 unfold Kk;rw[NX (λx:Ga=>x.Id)<|λi=>Z3 i id,NX (λx:Ga=>x.Id) (λi=>Z3 i id) a,h]
def FK{α c:Type}(g:α->c)(f:α->α)(h:∀x,g (f x)=g x)(l:List α)(k:Nat):(ZK l k f).map g=l.map g:=by
 unfold ZK;cases a:l[k]? with
 |none=>rfl
 |some x=>
  dsimp only;rw[ZXJ,h];have b:=Z7 a;have:(l.map g)[k]'(by simpa using b)=g x:=by
   rw[ZXj b]at a;simp[Option.some.inj a]
  rw[<-this,List.set_getElem_self]
def Yn(D:List Ga)(l:List Ent):Nat->List Ga
 |0=>D
 |i+1=>match l[i]? with
  |some x=>ZK (Yn D l i) (Kk (Yn D l i) x.Id).toNat<|UP x.An
  |none=>Yn D l i
def HA(D:List Ga)(l:List Ent):∀i,(Yn D l i).map (·.Id)=D.map (·.Id)
 |0=>rfl
 |i+1=>by
  rw[Yn];cases l[i]? with
  |none=>exact HA D l i
  |some x=>exact(FK (λx:Ga=>x.Id) (UP x.An) (λ_=>rfl) _ _).trans (HA D l i)
def FL(D:List Ga)(l:List Ent)(i:Nat):(Yn D l i).length=D.length:=by
 have:=congrArg List.length<|HA D l i;simpa using this
def Z4p(d m:AObj)(C:∀n,Zj n d=true)(h1:∀n,Zj n m=true)(w:Wk)(a:WkS w)(J:w.e.Lst.l.any (Kj w.s)=false):
 ∃fr',Zg rE [1,54,55,56] c83L0b [(1,.ptr 3 0 0 1),(54,.isl false w.e.Lst.ex 7<|w.e.Lst.l.map Ent.enc),(55,I w.e.Lst.l.length),(56,.int .i64 0)] (wH d m w++[.row 1 [.ptr 2 0 0 1]]) =
  some (.exit 0,fr',wH d m (Ym w<|Yn w.s.Bc w.e.Lst.l w.e.Lst.l.length)++[.row 1 [.ptr 2 0 0 1]]):=by
 have M:=a.e.lst;have o:=a.s.doors;have L:=Y8 (E:=rE) (live:=[1,54,55,56]) (b:=c83L0b) w.e.Lst.l.length
  (λi=>[(1,.ptr 3 0 0 1),(54,.isl false w.e.Lst.ex 7<|w.e.Lst.l.map Ent.enc),(55,I w.e.Lst.l.length),(56,I i)])
  (λi=>wH d m (Ym w<|Yn w.s.Bc w.e.Lst.l i)++[.row 1 [.ptr 2 0 0 1]]) (λi=>rfl)
  (λi hi=>by
   obtain⟨x,A⟩:∃x,w.e.Lst.l[i]?=some x:=⟨_,ZXj hi⟩;have K:=Z6 (f:=Ent.enc) A;have z:=Zh hi;have p:=Zx (n:=i)<|by omega
   have G:Yn w.s.Bc w.e.Lst.l (i+1)=ZK (Yn w.s.Bc w.e.Lst.l i) (Kk (Yn w.s.Bc w.e.Lst.l i) x.Id).toNat (UP x.An):=by
    rw[Yn,A]
   have c:=Z4o (HA w.s.Bc w.e.Lst.l i) x.Id;have k:=FL w.s.Bc w.e.Lst.l i;rw[G];generalize Yn w.s.Bc w.e.Lst.l i=D at c k⊢;have g:=J;rw[ZZv]at g;have t:decide (Kk D x.Id<0)=false:=by
    rw[c];have:=g x<|ZXp A;rw[ZZ6]at this;exact this
   obtain⟨j,y,B,H⟩:=QC t;have r:Kk D x.Id=(j:Int):=B;have u:=find_ok (Ym w D).s ⟨a.s.regions,a.s.streets,a.s.buildings,by show D.length<=1000;omega,a.s.units,a.s.merged,a.s.rulings⟩ x.Id
   have v:Zn (Ym w D).s x.Id=(j:Int):=B;have F:((j:Int)).toNat=j:=rfl;have q:=Z4l x D j y H<|by omega
   rw[v]at u;rw[r,F];simp only[Ym]at u⊢;refine⟨[(1,.ptr 3 0 0 1),(54,.isl false w.e.Lst.ex 7<|w.e.Lst.l.map Ent.enc),(55,I w.e.Lst.l.length),(56,I (i+1:Nat))],?_,rfl⟩;simp only[go_sem,c83L0b,wH,K,z,p,u,q,Ent.enc,C,h1])
  (e:=.exit 0) (fr:=[(1,.ptr 3 0 0 1),(54,.isl false w.e.Lst.ex 7<|w.e.Lst.l.map Ent.enc),(55,I w.e.Lst.l.length),(56,I w.e.Lst.l.length)]) (h:=wH d m (Ym w<|Yn w.s.Bc w.e.Lst.l w.e.Lst.l.length)++[.row 1 [.ptr 2 0 0 1]])
  (by simp only[go_sem,c83L0b,ZG,wH,Ym,C,h1]) (by simp)
 exact⟨_,L⟩
def HD(w:Wk):Int:=
 bif decide (ZL w.s w.e.Id<0)||w.e.Lst.l.any (Kj w.s)then 10
 else bif QF w.s (ZL w.s w.e.Id) != -1||w.e.Lst.l.any (Hz w)then 11 else 0
def NY(w:Wk):Wk:=Ym w<|Yn w.s.Bc w.e.Lst.l w.e.Lst.l.length
def Z4q(m q:AObj)(y:∀n,Zj n m=true)(h1:∀n,Zj n q=true)(w:Wk)(o:WkS w):∃t,fnV rE 83 [.ptr 2 0 0 1] (wH m q w)=some (I<|HD w,wH m q (bif HD w==0 then NY w else w)++t):=by
 have h:=K7 w.s o.s w.e.Id;have b:=Z4m w o;have i:((10:Int)==0)=false:=rfl;have k:((11:Int)==0)=false:=rfl;have A:((0:Int)==0)=true:=rfl;rw[Q6 (f:=83) rfl rfl];unfold HD;refine⟨[.row 1 [.ptr 2 0 0 1]],?_⟩;cases g:decide (ZL w.s w.e.Id<0)with
 |true=>simp only[go_sem,c83,wH,h,g,i]
 |false=>
 cases p:w.e.Lst.l.any (Kj w.s)with
 |true=>
  rw[p]at b;simp only[go_sem,c83,wH,h,g,b,i]
 |false=>
 obtain⟨D,v⟩:=Z4p m q y h1 w o p;have d:=Z4n w o p;rw[p]at b;obtain⟨j,x,B,z⟩:=QC g;have r:ZL w.s w.e.Id=(j:Int):=B;have u:=Z6 (f:=By.enc) z;have C:QF w.s (j:Int)=x.Ld:=by simp[QF,z]
 rw[r]at h g⊢;rw[C];cases a:x.Ld != -1 with
 |true=>simp only[go_sem,c83,wH,h,g,b,u,By.enc,NL.enc,a,k]
 |false=>
 cases c:w.e.Lst.l.any (Hz w)with
 |true=>
  rw[c]at d;simp only[go_sem,c83,wH,h,g,b,u,By.enc,NL.enc,a,d,k]
 |false=>
  rw[c]at d;unfold NY;generalize Ym w (Yn w.s.Bc w.e.Lst.l w.e.Lst.l.length)=W at v⊢;simp only[wH,ZXl,ZXo]at v;simp only[go_sem,c83,c83L0,wH,h,g,b,u,By.enc,NL.enc,a,d,v,A,y,h1]
def c35_eq:c35=.seq s35p0 (.seq s35p1<|.seq s35p2<|.seq s35p3<|.seq s35p4<|.seq s35p5<|.seq s35p6 .ret):=(rfl)
structure StF(s:Sta):Prop where
 e:StE s
 regions:s.Fa.length<=500
 streets:s.Gm.length<=500
 buildings:s.Bt.length<=500
 doors:s.Bc.length<=500
 units:s.Nk.length<=500
 merged:s.Gc.length<=500
 rulings:s.ba.length<=500
def wk0(s:Sta)(a:Int)(e:Gt):Wk:=⟨s,a,e,Qp s⟩
def Z4r(s:Sta):(Qp s).length=s.Fa.length+(s.Gm.length+(s.Bt.length+(s.Bc.length+s.Nk.length))):=by simp[Qp]
def Z4s(s:Sta)(b:StF s)(a:Int)(e:Gt)(c:EvS e):WkS (wk0 s a e):=⟨b.e.sizes,c,by
 have h1:=b.regions;have h2:=b.streets;have g:=b.buildings;have f:=b.doors;have d:=b.units;show(Qp s).length<=100000
 rw[Z4r];omega⟩
def Q1(w:Wk):Int:=
 match w.e.br.toNat with
 |1=>Hi w
 |2=>bif twB w w.e.Id then 8 else 0
 |3=>Hk w
 |4=>Hm w
 |5=>bif twB w w.e.Id then 8 else 0
 |6=>JD w
 |7=>JB w
 |8=>HD w
 |9=>Ka w
 |10=>Kc w
 |11=>Hs w
 |12=>Hw w
 |13=>Hn w
 |14=>0
 |_=>bif twB w w.e.Id then 8 else 0
def stepW(w:Wk):Wk:=
 match w.e.br.toNat with
 |1=>Hj w
 |2=>Jz w
 |3=>Hl w
 |4=>exW w
 |5=>JA w
 |6=>Qw w<|UE w
 |7=>JC w
 |8=>NY w
 |9=>Kb w
 |10=>Kd w
 |11=>Ht w
 |12=>Hy w
 |13=>Ho w
 |14=>Hh w
 |_=>Qw w<|UD w
def steps:List AV:=[.nilfn,.clo (.func 76) [] [],.clo (.func 77) [] [],.clo (.func 78) [] [],.clo (.func 79) [] [],.clo (.func 80) [] [],.clo (.func 81) [] [],.clo (.func 82) [] [],.clo (.func 83) [] [],.clo (.func 84) [] [],.clo (.func 85) [] [],.clo (.func 86) [] [],.clo (.func 87) [] [],.clo (.func 88) [] [],.clo (.func 89) [] [],.clo (.func 90) [] []]
abbrev HE:List AV:=[.isl false false 6 [],.isl false false 5 [],.isl false false 4 [],.isl false false 16 [],.isl false false 6 [],.isl false false 2 [],.isl false false 2 []]
abbrev apH(w:Wk):Hp:=wH (.row 7 [.agg HE]) (.row 16 [.agg steps]) w
def NZ{w w':Wk}{a c:AObj}{f:Nat}{b:Bool}(h:∃t,fnV rE f [.ptr 2 0 0 1] (wH a c w)=some (I<|bif b then 8 else 0,wH a c (bif b then w else w')++t)):
 ∃t,fnV rE f [.ptr 2 0 0 1] (wH a c w)=some (I<|bif b then 8 else 0,wH a c (bif (bif b then(8:Int)else 0)==0 then w' else w)++t):=by
 cases b<;>exact h
def step_ok(b c:AObj)(f:∀n,Zj n b=true)(h1:∀n,Zj n c=true)(w:Wk)(d:WkS w)(k:Nat)(o:w.e.br=(k:Int))(i:1<=k)(p:k<=15)(m:WK w.s=true)(j:k=10->0<w.e.Ids.l.length):
 ∃g,steps[k]?=some (.clo (.func g) [] [])/\∃t,fnV rE g [.ptr 2 0 0 1] (wH b c w)=some (I<|Q1 w,wH b c (bif Q1 w==0 then stepW w else w)++t):=by
 have h:w.e.br.toNat=k:=by rw[o];rfl
 have q:((0:Int)==0)=true:=rfl;unfold Q1 stepW;rw[h];rcases(by omega:k=1\/k=2\/k=3\/k=4\/k=5\/k=6\/k=7\/k=8\/k=9\/k=10\/k=11\/k=12\/k=13\/k=14\/k=15)with rfl|rfl|rfl|rfl|rfl|rfl|rfl|rfl|rfl|rfl|rfl|rfl|rfl|rfl|rfl
 .exact⟨76,rfl,Z3H b c f h1 w d⟩
 .exact⟨77,rfl,NZ<|Z3w b c w d⟩
 .exact⟨78,rfl,Z3I b c f h1 w d⟩
 .exact⟨79,rfl,Z3J b c f h1 w d⟩
 .exact⟨80,rfl,NZ<|Z3x b c w d⟩
 .exact⟨81,rfl,Z3B b c f h1 w d⟩
 .exact⟨82,rfl,Z3z b c w d⟩
 .exact⟨83,rfl,Z4q b c f h1 w d⟩
 .exact⟨84,rfl,Z3X b c f h1 w d⟩
 .exact⟨85,rfl,Z47 b c f h1 w d<|j rfl⟩
 .exact⟨86,rfl,Z4a b c f h1 w d⟩
 .exact⟨87,rfl,Z4k b c f h1 w d⟩
 .exact⟨88,rfl,Z3M b c w d m⟩
 .exact⟨89,rfl,Z3y b c w d⟩
 .exact⟨90,rfl,NZ<|Z3A b c f h1 w d⟩
def Gr(s a:Sta):Prop:=a.Fa.length<=s.Fa.length+10/\a.Gm.length<=s.Gm.length+10/\a.Bt.length<=s.Bt.length+10/\a.Bc.length<=s.Bc.length+10/\a.Nk.length<=s.Nk.length+10/\a.Gc.length<=s.Gc.length+10/\a.ba.length<=s.ba.length+10
structure Same(s s':Sta):Prop where
 regions:s'.Fa.length=s.Fa.length
 streets:s'.Gm.length=s.Gm.length
 buildings:s'.Bt.length=s.Bt.length
 doors:s'.Bc.length=s.Bc.length
 units:s'.Nk.length=s.Nk.length
 merged:s'.Gc.length=s.Gc.length
 rulings:s'.ba.length=s.ba.length
def Same.refl(s:Sta):Same s s:=⟨rfl,rfl,rfl,rfl,rfl,rfl,rfl⟩
def Same.trans{a b c:Sta}(h:Same a b)(k:Same b c):Same a c:=⟨k.1.trans h.1,k.2.trans h.2,k.3.trans h.3,k.4.trans h.4,k.5.trans h.5,k.6.trans h.6,k.7.trans h.7⟩
def Gr.same{a b c:Sta}(h:Gr a b)(k:Same b c):Gr a c:=by
 obtain⟨h1,h2,i,e,d,f,g⟩:=h;exact⟨by rw[k.1];exact h1,by rw[k.2];exact h2,by rw[k.3];exact i,by rw[k.4];exact e,by rw[k.5];exact d,by rw[k.6];exact f,by rw[k.7];exact g⟩
def Same.gr{a b:Sta}(k:Same a b):Gr a b:=⟨by rw[k.1];omega,by rw[k.2];omega,by rw[k.3];omega,by rw[k.4];omega,by rw[k.5];omega,by rw[k.6];omega,by rw[k.7];omega⟩
def HF(w:Wk)(k:Nat)(a:NL Str):Same w.s (Qf w k a).s:=by
 unfold Qf;split
 .exact⟨rfl,rfl,rfl,Xm _ _ _,by simp[Qx,UH],rfl,rfl⟩
 .exact Same.refl _
def Z4t(l:List Int)(a:NL Str):∀w:Wk,Same w.s (Yg w l a).s:=by
 induction l with
 |nil=>intro w;exact Same.refl _
 |cons x r ih=>intro w;rw[UJ];exact(HF _ _ _).trans (ih _)
def FM(w:Wk)(l:List Ga):∀i,Same w.s (Y6 w l i).s
 |0=>Same.refl _
 |i+1=>by
  have a:=FM w l i;rw[Y6];cases l[i]? with
  |none=>exact a
  |some x=>
   dsimp only;cases NV w.e.Id x with
   |false=>exact a
   |true=>exact a.trans<|HF _ _ _
def M0(w:Wk)(d:Ga):Gr w.s (Qw w d).s:=by
 unfold Gr Qw;simp
def Z4u(w:Wk)(a:w.e.Lst.l.length<=10):Gr w.s (stepW w).s:=by
 unfold stepW;split
 .unfold Hj;cases decide (Qo w.s w.e.Id<0)with
  |true=>simp[Gr]
  |false=>simp[Gr,Xm]
 .simp[Gr,Jz]
 .unfold Hl;cases decide (Qo w.s w.e.Id>=0)with
  |true=>simp[Gr,Xm]
  |false=>simp[Gr,Xm]
 .simp[Gr,exW,Xm]
 .simp[Gr,JA]
 .exact M0 _ _
 .simp[Gr,JC]
 .exact Same.gr ⟨rfl,rfl,rfl,FL _ _ _,rfl,rfl,rfl⟩
 .unfold Kb;split
  .refine Gr.same ?_<|HF _ _ _;unfold Gr Y5;simp;omega
  .exact(Same.refl _).gr
 .unfold Kd;split
  .exact Gr.same (M0 _ _)<|Z4t _ _ _
  .exact(Same.refl _).gr
 .unfold Ht;refine Same.gr<|Same.trans (b:=(JH w<|ZK w.s.Bt (Y1 w.s w.e.Id).toNat<|Ke w.e).s) ⟨rfl,rfl,Xm _ _ _,rfl,rfl,rfl,rfl⟩<|FM _ _ _
 .unfold Hy;cases Kg w.s w.e.Id with
  |true=>exact Same.gr ⟨Xm _ _ _,rfl,rfl,rfl,rfl,rfl,rfl⟩
  |false=>
  cases Kh w.s w.e.Id with
  |true=>exact Same.gr ⟨rfl,Xm _ _ _,rfl,rfl,rfl,rfl,rfl⟩
  |false=>
  cases Ki w.s w.e.Id with
  |true=>exact Same.gr<|HF _ _ _
  |false=>exact Same.gr ⟨rfl,rfl,rfl,rfl,Xm _ _ _,rfl,rfl⟩
 .simp[Gr,Ho]
 .simp[Gr,Hh]
 .exact M0 _ _
def FN(s:Sta)(b:StF s)(a:Int)(e:Gt)(g:EvS e):StS (stepW<|wk0 s a e).s:=by
 obtain⟨h1,h2,j,f,c,d,i⟩:=Z4u (wk0 s a e) g.lst;have l:=b.regions;have m:=b.streets;have o:=b.buildings;have p:=b.doors;have q:=b.units;have k:=b.merged;have n:=b.rulings;have h:(wk0 s a e).s=s:=rfl;rw[h]at h1 h2 j f c d i;exact⟨by omega,by omega,by omega,by omega,by omega,by omega,by omega⟩
def Yh:Sta:=⟨[],[],[],[],[],[],[]⟩
def okB(s:Sta)(a:Int)(e:Gt):Bool:=Jx s&&(QM a 0 0&&Q9 e)
def Qk(s:Sta)(a:Int)(e:Gt):Int:=
 bif okB s a e then(bif Q1 (wk0 s a e)==0 then(bif Wh (stepW<|wk0 s a e).s.Bc then 0 else 8)else Q1<|wk0 s a e)else 1
def ZP(s:Sta)(a:Int)(e:Gt):Sta:=
 bif okB s a e&&(Q1 (wk0 s a e)==0&&Wh (stepW<|wk0 s a e).s.Bc)then(stepW<|wk0 s a e).s else Yh
abbrev evL(e:Gt):List AV:=[I e.br,I e.Day,I e.A,I e.B,I e.bz,.str e.Id,.str e.bv,.str e.Text,.isl false e.Ids.ex 1<|e.Ids.l.map encS,.isl false e.bm.ex 3<|e.bm.l.map Nm.enc,
 I e.An.N,.str e.An.bn,I e.An.Num,I e.An.Den,I e.bg.X,I e.bg.Y,.isl false e.Path.ex 2<|e.Path.l.map Pt.enc,.isl false e.Lst.ex 7<|e.Lst.l.map Ent.enc]
def Z4v(w:Wk)(y:WkS w)(k:Nat)(o:w.e.br=(k:Int))(i:1<=k)(p:k<=15)(v:WK w.s=true)(u:k=10->0<w.e.Ids.l.length):
 ((Q1 w==0)=true->Zb rE s35p4 [(5,.iptr false<|evL w.e),(6,.ptr 0 0 0 1),(8,.ptr 1 0 0 1),(9,.ptr 2 0 0 1)] (apH w)=some (.normal,[(40,.bool false),(39,I 0),(6,.ptr 0 0 0 1),(9,.ptr 2 0 0 1),(10,I 0)],apH<|stepW w))/\
 ((Q1 w==0)=false->∃fr' t,Zb rE s35p4 [(5,.iptr false<|evL w.e),(6,.ptr 0 0 0 1),(8,.ptr 1 0 0 1),(9,.ptr 2 0 0 1)] (apH w)=some (.ret,fr',apH w++t)/\get fr' 6=.ptr 0 0 0 1/\get fr' 7=I (Q1 w)):=by
 have m:∀n,Zj n (.row 7 [.agg HE])=true:=λn=>rfl
 have h1:∀n,Zj n (.row 16 [.agg steps])=true:=λn=>rfl
 have f:(0<=(k:Int)/\(k:Int)<((16:Nat):Int))=True:=by simp;omega
 have d:((k:Int)).toNat=k:=rfl;obtain⟨g,j,t,a⟩:=step_ok _ _ m h1 w y k o i p v u;have b:takeC none (List.drop k steps)=some (.clo (.func g) [] []):=by
  have r:k<steps.length:=Z7 j;rw[ZXP r,N3];rw[ZXj r]at j;exact j
 have q:(Q1 w != 0) = !(Q1 w==0):=rfl;cases c:Q1 w==0 with
 |true=>
  refine⟨λ_=>?_,λh=>(by cases h)⟩
  have x:Q1 w=0:=by simpa using c
  rw[c,cond_true]at a;simp only[wH,ZXl,ZXo]at a;rw[x]at a;have n0:((0:Int) != 0)=false:=rfl;simp only[go_sem,s35p4,apH,wH,o,f,d,if_true,ZXA,ZXN,b,a,n0,m,h1]
 |false=>
  refine⟨λh=>(by cases h),λ_=>?_⟩
  rw[c,cond_false]at a;simp only[wH,ZXl,ZXo]at a;rw[c]at q;exact⟨_,[],by simp only[go_sem,s35p4,apH,wH,o,f,d,if_true,ZXA,ZXN,b,a,q,m,h1,ZXr];rfl,by simp only[go_sem],by simp only[go_sem]⟩
def FO(e:Gt)(b:Q9 e=true)(c:e.br=((10:Nat):Int)):0<e.Ids.l.length:=by
 simp only[Q9,ZXf]at b;have h:=b.2.2.2.2;unfold Q8 at h;rw[c]at h;have h2:(ZD e.Ids.l.length 2 8&&(Qv (e.Id::e.Ids.l)&&(YO e.An&&gOn e.bg)))=true:=h;rw[ZXf]at h2;have a:=h2.1;unfold ZD at a;rw[ZXf]at a;have:=of_decide_eq_true a.1;omega
def Z4w(e:Gt)(a:Q9 e=true):∃k:Nat,e.br=(k:Int)/\1<=k/\k<=15:=by
 simp only[Q9,ZXf]at a;have h:=a.1;unfold ZD at h;rw[ZXf]at h;have h1:=of_decide_eq_true h.1;have h2:=of_decide_eq_true h.2;exact⟨e.br.toNat,by omega,by omega,by omega⟩
def Z4x(s:Sta)(h:Jx s=true):WK s=true:=by
 simp only[Jx,ZXf]at h;exact h.2.2.2.2.2.2.2
def JJ(s:Sta)(r:StF s)(a:Int)(e:Gt)(w:EvS e):pfn rE 35 [stA s,I a,evA e]=some (.tup [stA<|ZP s a e,I<|Qk s a e]):=by
 have i:=Z3i s r.e;have j:=Qc a 0 0;have o:=NH e w;have x:=Fd s r.e.sizes;have F:Z4 ((Qp s).map encS)=true:=Zw (λt=>rfl) _
 rw[Z5 (f:=35) (c:=c35) rfl rfl,c35_eq];have v:(stA Yh)=.agg HE:=rfl;cases c:okB s a e with
 |false=>
  have l:Qk s a e=1:=by unfold Qk;rw[c];rfl
  have m:ZP s a e=Yh:=by unfold ZP;rw[c];rfl
  rw[l,m,v];unfold okB at c;cases n:Jx s with
  |false=>
   rw[n]at i;simp only[go_sem,s35p0,s35p1,i]
  |true=>
  rw[n]at i;cases q:QM a 0 0 with
  |false=>
   rw[q]at j;simp only[go_sem,s35p0,s35p1,i,j]
  |true=>
  rw[q]at j;cases g:Q9 e with
  |false=>
   rw[g]at o;simp only[go_sem,s35p0,s35p1,i,j,o]
  |true=>rw[n,q,g]at c;cases c
 |true=>
  have c':=c;unfold okB at c';simp only[ZXf]at c';obtain⟨n,q,g⟩:=c';obtain⟨k,B,z,y⟩:=Z4w e g;obtain⟨D,E⟩:=Z4v (wk0 s a e) (Z4s s r a e w) k B z y (Z4x s n)<|λh=>FO e g<|by rw[<-h];exact B
  rw[n]at i;rw[q]at j;rw[g]at o;cases b:Q1 (wk0 s a e)==0 with
  |false=>
   have l:Qk s a e=Q1 (wk0 s a e):=by unfold Qk;rw[c,b];rfl
   have m:ZP s a e=Yh:=by unfold ZP;rw[c,b];rfl
   obtain⟨fr',t,h1,h2,A⟩:=E b;rw[l,m,v];simp only[apH,wH,wk0,wkC,steps,ZXl,ZXo]at h1 A⊢;simp only[go_sem,s35p0,s35p1,s35p2,s35p3,i,j,o,x,h1,h2,A]
  |true=>
   have h1:=D b;have C:=FN s r a e w;have p:=Fk (stepW<|wk0 s a e).s C;generalize u:stepW (wk0 s a e)=W at h1 p C;simp only[apH,wH,wk0,wkC,steps]at h1;cases d:Wh W.s.Bc with
   |false=>
    have l:Qk s a e=8:=by unfold Qk;rw[c,b,u,d];rfl
    have m:ZP s a e=Yh:=by unfold ZP;rw[c,b,u,d];rfl
    rw[l,m,v];rw[d]at p;simp only[go_sem,s35p0,s35p1,s35p2,s35p3,s35p5,s35p6,i,j,o,x,h1,p]
   |true=>
    have l:Qk s a e=0:=by unfold Qk;rw[c,b,u,d];rfl
    have m:ZP s a e=W.s:=by unfold ZP;rw[c,b,u,d];rfl
    rw[l,m];rw[d]at p;simp only[go_sem,s35p0,s35p1,s35p2,s35p3,s35p5,s35p6,i,j,o,x,h1,p]
def ZcX:List (List UInt8)->List (List UInt8)
 |[]=>[]
 |a::r=>match ZcX r with
  |[]=>[a]
  |b::s=>if a=b then b::s else a::b::s
def ZdC:∀l:List<|List UInt8,Ys (l.map Qd)=(ZcX l).map Qd
 |[]=>rfl
 |a::r=>by
  rw[ZXn];unfold Ys ZcX;rw[ZdC r];cases ZcX r with
  |nil=>rfl
  |cons b s=>
   have e:sameKey (Qd a) (Qd b)=decide (a=b):=by
    show Z3 _ _=_
    unfold Z3;have d:(⟨a.toArray⟩:ByteArray).data.toList=a:=by simp
    have c:(⟨b.toArray⟩:ByteArray).data.toList=b:=by simp
    rw[d,c];by_cases h:a=b
    .subst h;simp
    .rw[decide_eq_false h];simpa using h
   show(bif sameKey (Qd a) (Qd b)then _ else _)=_
   rw[e];by_cases h:a=b
   .simp[h]
   .simp[h]
def Ze5(a:List UInt8)(r:List<|List UInt8):∃t,ZcX (a::r)=a::t/\t.length<=r.length:=by
 induction r generalizing a with
 |nil=>exact⟨[],rfl,ZXh _⟩
 |cons b s ih=>
  obtain⟨t,h1,h2⟩:=ih b;unfold ZcX;rw[h1];by_cases h:a=b
  .subst h;exact⟨t,by simp,by simp;omega⟩
  .exact⟨b::t,by simp[h],by simp;omega⟩
def Adj:List (List UInt8)->Prop
 |[]=>True
 |[_]=>True
 |a::b::r=>a≠b/\Adj (b::r)
def ZdD:∀l:List<|List UInt8,(ZcX l).length=l.length↔Adj l
 |[]=>⟨λ_=>trivial,λ_=>rfl⟩
 |[a]=>⟨λ_=>trivial,λ_=>rfl⟩
 |a::b::r=>by
  have c:=ZdD<|b::r;obtain⟨t,h1,h2⟩:=Ze5 b r;rw[h1]at c;unfold Adj;rw[<-c];unfold ZcX;rw[h1];by_cases h:a=b
  .subst h;simp;omega
  .simp[h]
def ZdE:∀l:List<|List UInt8,l.Pairwise (λa b=>leB a b=true)->Adj l->l.Nodup
 |[],_,_=>.nil
 |[a],_,_=>by simp
 |a::b::r,hs,h=>by
  unfold Adj at h;rw[ZY6]at hs;have c:=ZdE (b::r) hs.2 h.2;rw[ZYo];refine⟨λhm=>?_,c⟩
  rcases ZXF.1 hm with e|hm
  .exact h.1 e
  .have d:=(ZY6.1 hs.2).1 a hm;exact h.1<|ET _ _ (hs.1 b<|ZXV ..) d
def ZdF:∀l:List<|List UInt8,l.Nodup->Adj l
 |[],_=>trivial
 |[a],_=>trivial
 |a::b::r,h=>by
  rw[ZYo]at h;exact⟨λe=>h.1 (by rw[e];exact ZXV ..),ZdF (b::r) h.2⟩
def bytes_inj{a b:Str}(h:a.data.toList=b.data.toList):a=b:=by
 obtain⟨⟨a⟩⟩:=a;obtain⟨⟨b⟩⟩:=b;have:a=b:=h;rw[this]
def ZdG{α d:Type}{f:α->d}(c:∀a b,f a=f b->a=b):∀{l:List α},(l.map f).Nodup↔l.Nodup
 |[]=>by simp
 |a::r=>by
  rw[ZXn,ZYo,ZYo,ZdG c];refine and_congr_left λ_=>not_congr ⟨λh=>?_,λh=>ZZ2 h⟩
  obtain⟨b,g,e⟩:=ZXI.1 h;rw[<-c _ _ e];exact g
def Ze6(l:List Str):l.map encS=(l.map (λx:Str=>x.data.toList)).map Qd:=by
 rw[ZYc];apply ZYL;intro x _;obtain⟨⟨x⟩⟩:=x;rfl
def Zdk(l:List Str):Jq l=true↔l.Nodup:=by
 have e:(Ys<|Yk<|l.map encS).length=(ZcX<|WD<|l.map (λx:Str=>x.data.toList)).length:=by
  rw[Ze6,D4,ZdC,ZXg]
 have c:(WD<|l.map (λx:Str=>x.data.toList)).length=l.length:=by
  rw[(RS _).length_eq,ZXg]
 unfold Jq;rw[beq_iff_eq,e];rw[show((ZcX<|WD<|l.map (λx:Str=>x.data.toList)).length:Int)=(l.length:Int)↔(ZcX<|WD<|l.map (λx:Str=>x.data.toList)).length=(WD<|l.map (λx:Str=>x.data.toList)).length from by rw[c];omega]
 rw[ZdD];have h1:Adj (WD<|l.map (λx:Str=>x.data.toList))↔(WD<|l.map (λx:Str=>x.data.toList)).Nodup:=⟨ZdE _<|D8 _,ZdF _⟩
 rw[h1,(RS _).nodup_iff,ZdG<|λa b h=>bytes_inj h]
structure Prop'(s:Sta):Prop where
 rg:∀x∈s.Fa,Vo x=true
 st:∀x∈s.Gm,Vp x=true
 bu:∀x∈s.Bt,Vq x=true
 dr:∀(i:Nat)d,s.Bc[i]?=some d->Vr s i d=true
 un:∀x∈s.Nk,Vs s x=true
 ids:(Qp s).Nodup
 pa:WK s=true
def Zda{α:Type}{P:Nat->α->Bool}:∀{l:List α}{i:Nat},Zu P i l=true↔∀(j:Nat)x,l[j]?=some x->P (i+j) x=true
 |[],i=>⟨λ_ j x h=>(by simp at h),λ_=>rfl⟩
 |y::r,i=>by
  unfold Zu;rw[ZXf,Zda (l:=r)];constructor
  .rintro⟨h1,h2⟩ j x hx;cases j with
   |zero=>cases hx;exact h1
   |succ j=>have:=h2 j x hx;rw[show i+(j+1)=i+1+j by omega];exact this
  .intro h;exact⟨h 0 y rfl,λj x hx=>by have:=h (j+1) x hx;rw[show i+1+j=i+(j+1)by omega];exact this⟩
def Zdb(s:Sta):Jx s=true↔Prop' s/\Wh s.Bc=true:=by
 unfold Jx;simp only[ZXf];constructor
 .rintro⟨h1,h2,g,c,b,e,f,a⟩;exact⟨⟨ZXs.1 h1,ZXs.1 h2,ZXs.1 g,λi d hd=>by have:=Zda.1 c i d hd;rwa[ZXA]at this,ZXs.1 b,(Zdk _).1 e,a⟩,f⟩
 .rintro⟨⟨h1,h2,g,c,b,e,a⟩,f⟩;exact⟨ZXs.2 h1,ZXs.2 h2,ZXs.2 g,Zda.2 (λi d hd=>by rw[ZXA];exact c i d hd),ZXs.2 b,(Zdk _).2 e,f,a⟩
def look{α:Type}(f:α->Str)(l:List α)(id:Str):Int:=Zp (λx=>Z3 (f x) id) l 0
def ZcU{α:Type}{f:α->Str}{l:List α}{id:Str}(h:decide (look f l id<0)=false):∃(j:Nat)(x:α),look f l id=(j:Int)/\l[j]?=some x/\f x=id:=by
 unfold look at h⊢;rcases UA (λx=>Z3 (f x) id) l 0 with⟨h1,_⟩|⟨j,x,h1,h2,h3⟩
 .rw[h1]at h;cases h
 .exact⟨j,x,by omega,h2,by have:=List.find?_some h3;exact(Ky _ _).1 this⟩
def Ze8{α:Type}{f:α->Str}{l:List α}{x:α}(h:x∈l):decide (look f l (f x)<0)=false:=by
 unfold look;rcases UA (λy=>Z3 (f y)<|f x) l 0 with⟨_,h2⟩|⟨j,y,h1,_,_⟩
 .exfalso;have:=ZZw.1 h2 x h;exact this<|(Ky _ _).2 rfl
 .exact decide_eq_false<|by omega
def Zi1{α:Type}{f:α->Str}{l:List α}{j:Nat}{x:α}(c:(l.map f).Nodup)(h:l[j]?=some x):look f l (f x)=(j:Int):=by
 obtain⟨k,y,h1,h2,d⟩:=ZcU<|Ze8 (f:=f)<|ZXp h;have b:(l.map f)[k]?=some (f x):=by rw[ZY8,h2,ZXR,d]
 have e:(l.map f)[j]?=some (f x):=by rw[ZY8,h,ZXR]
 have a:=(ZXu.1 b).1;have:k=j:=(List.getElem?_inj a c).1 (b.trans e.symm);rw[h1,this]
def ZEz(s:Sta)(id:Str):Zn s id=look (λx:Ga=>x.Id) s.Bc id:=rfl
def Zd0(s:Sta)(i:Nat)(d:Ga):Vr s i d=true↔QM d.bh d.Ld d.From=true/\(∀id∈d.After.l,decide (Zn s id<=i)=false)/\UC d=false/\(Z3 d.Veil emp=true->NO s d=false/\Q9 {Hf d with br:=6}=true)/\(Z3 d.Veil emp=false->NN d=true):=by
 unfold Vr Hg K8;rw[ZXf,ZXf,ZXf,ZXs,ZXM];simp only[ZXM];cases Z3 d.Veil emp with
 |true=>rw[cond_true,ZXf,ZXM];simp
 |false=>rw[cond_false];simp
def ZSv{l:List Off}(hl:ZOr l){f:Nat}{D D':List Int}(h:IsD l f D)(h':IsD l f D'):∀(n:Nat)(v:Nat),v<64->gI D v=n->n<64->gI D' v<=gI D v
 |0,v,hv,e,_=>by
  by_cases hf:v=f
  .subst hf;rw[h.src,h'.src];grind
  .obtain⟨u,h1,h2⟩:=h.pre v hv (by omega) hf
   have h3:=ZOS h1;have:=(h.rng u (by have:=hl.1;omega)).1
   omega
 |n+1,v,hv,e,hn=>by
  by_cases hf:v=f
  .subst hf;rw[h.src,h'.src];grind
  .obtain⟨u,h1,h2⟩:=h.pre v hv (by omega) hf
   have h3:=ZOS h1;have hu:u<64:=by have:=hl.1;omega
   have ih:=ZSv hl h h' n u hu (by omega)<|by omega
   have:=(h'.done u hu (by omega) v h1).2
   omega
def ZSw{l:List Off}(hl:ZOr l){f:Nat}{D D':List Int}(h:IsD l f D)(h':IsD l f D')(v:Nat)(hv:v<64):gI D' v<=gI D v:=by
 have h1:=h.rng v hv;have h2:=h'.rng v hv;by_cases e:gI D v=64
 .omega
 .exact ZSv hl h h' (gI D v).toNat v hv (by omega)<|by omega
theorem ZUU{l:List Off}(hl:ZOr l){f:Nat}{D D':List Int}(h:IsD l f D)(h':IsD l f D'):D=D':=by
 apply List.ext_getElem<|by rw[h.len,h'.len]
 intro v h1 h2;rw[h.len]at h1;have a:=ZSw hl h h' v h1;have b:=ZSw hl h' h v h1
 grind [gI]
open Classical in
noncomputable def spD(l:List Off)(f:Nat):List Int:=if h:∃D,IsD l f D then h.choose else []
def ZUV{l:List Off}{f:Nat}(h:∃D,IsD l f D):IsD l f (spD l f):=by grind [spD]
def ZPR(ex:Bool)(l:List Off)(hl:ZOr l)(f:Nat)(hf:f<l.length):pfn rE 22 [ofA ex l,I f]=some (.agg<|(spD l f).map I)/\IsD l f (spD l f):=by
 obtain⟨D,h1,h2⟩:=ZUT ex l hl f hf;have h3:=ZUV ⟨D,h2⟩
 grind [ZUU]
def ZOD(l:List Off)(i:Nat)(o:Off):Bool:=Zu (lkP l o.Lk i) 0 o.Lk&&(Zu (cdP o.Cd) 0 o.Cd&&((i:Int)==0||!((o.Lk.length:Int)==0)))
def ZSx{l:List Off}{L:List Int}{i:Nat}(h:Zu (lkP l L i) 0 L=true):∀k∈L,0<=k/\k<l.length:=by
 have H:∀j,j<=L.length->-1<=ZPb L j:=by
  intro j;induction j with
  |zero=>intro _;exact ZYN _
  |succ j ih=>
   intro hj;have hx:L[j]?=some L[j]:=ZXj<|by omega
   have h2:=Zda.1 h j _ hx;rw[ZSs hx];unfold lkP at h2
   grind
 intro k hk;obtain⟨j,hj⟩:=ZYp hk;have h2:=Zda.1 h j _ hj;unfold lkP at h2
 grind
def ZSy{l:List Off}(hl:l.length<=64)(hS:∀o∈l,OffS o)(h:Zu (ZOD l) 0 l=true):ZOr l:=by
 refine⟨hl,λo ho=>⟨(hS o ho).lk,?_⟩⟩
 obtain⟨i,hi⟩:=ZYp ho;have h2:=Zda.1 h i _ hi;unfold ZOD at h2;simp[ZXf]at h2;exact ZSx h2.1
def ZUW(ex:Bool)(l:List Off)(hl:l.length<=64)(hS:∀o∈l,OffS o):
 ∃fr' h',Zg rE [0,19,20,21] c30L2b [(0,ofA ex l),(19,ofA ex l),(20,I l.length),(21,.int .i64 0)] []
  = some (if Zu (ZOD l) 0 l=true then .exit 0 else .ret,fr',h')/\(Zu (ZOD l) 0 l=true->h'=[]/\get fr' 0=ofA ex l)/\(Zu (ZOD l) 0 l=false->get fr' 2=.bool false):=by
 refine ZQJ (E:=rE) (live:=[0,19,20,21]) (b:=c30L2b) l (λj=>True) (ZOD l)
  (λi=>[(0,ofA ex l),(19,ofA ex l),(20,I l.length),(21,I i)])
  (λ_=>[]) 0 _ _ trivial (λj=>rfl) (λi o hx hR hP=>⟨trivial,?_⟩) (λi o hx hR hP=>?_) ⟨_,_,by simp only[go_sem,c30L2b,ZG];rfl,by simp only[go_sem];trivial⟩
 .have hg:=Z6 (f:=Off.enc) hx;have hi:=Zh<|Z7 hx;have hj:=Z7 hx;have hw:=Zx (n:=i) (by omega)
  have ho:=hS o<|ZXp hx;unfold ZOD at hP;simp only[ZXf]at hP;obtain⟨h1,h2,h3⟩:=hP;obtain⟨fr1,hh1,a1,a2,_⟩:=ZSt ex l hl hS o ho i l.length;obtain⟨fr2,hh2,b1,b2,_⟩:=ZSu ex l o ho i l.length;rw[if_pos h1]at a1;rw[if_pos h2]at b1;obtain⟨rfl,a3,a4,a5,a6,a7,a8,a9⟩:=a2 h1;obtain⟨rfl,b3,b4,b5,b6,b7,b8,b9⟩:=b2 h2;unfold ofA at*;unfold Off.enc at*;have e1:fr1=fr1:=rfl;cases h0:(i:Int)==0 with
  |true=>
   refine⟨_,by simp only[go_sem,c30L2b,c30L0,c30L1,hg,hi,hw,a1,a3,a4,a5,a6,a7,a8,a9,b1,b3,b4,b5,b6,b7,b8,b9,h0,ZXg];rfl,?_⟩
   simp only[go_sem]
  |false=>
   have h4:((o.Lk.length:Int)==0)=false:=by grind
   refine⟨_,by simp only[go_sem,c30L2b,c30L0,c30L1,hg,hi,hw,a1,a3,a4,a5,a6,a7,a8,a9,b1,b3,b4,b5,b6,b7,b8,b9,h0,h4,ZXg];rfl,?_⟩
   simp only[go_sem]
 .have hg:=Z6 (f:=Off.enc) hx;have hi:=Zh<|Z7 hx;have ho:=hS o<|ZXp hx;unfold ZOD at hP;obtain⟨fr1,hh1,a1,a2,a3⟩:=ZSt ex l hl hS o ho i l.length;obtain⟨fr2,hh2,b1,b2,b3⟩:=ZSu ex l o ho i l.length;cases h1:Zu (lkP l o.Lk i) 0 o.Lk with
  |false=>
   have a3':=a3 h1;rw[if_neg<|by grind]at a1
   unfold ofA at*;unfold Off.enc at*;refine⟨_,_,by simp only[go_sem,c30L2b,c30L0,c30L1,hg,hi,a1,ZXg];rfl,?_⟩
   simp only[go_sem,a3']
  |true=>
   obtain⟨rfl,a4,a5,a6,a7,a8,a9,a10⟩:=a2 h1;rw[if_pos h1]at a1;cases h2:Zu (cdP o.Cd) 0 o.Cd with
   |false=>
    have b3':=b3 h2;rw[if_neg<|by grind]at b1
    unfold ofA at*;unfold Off.enc at*;refine⟨_,_,by simp only[go_sem,c30L2b,c30L0,c30L1,hg,hi,a1,a4,a5,a6,a7,a8,a9,a10,b1,ZXg];rfl,?_⟩
    simp only[go_sem,b3']
   |true=>
    obtain⟨rfl,b4,b5,b6,b7,b8,b9,b10⟩:=b2 h2;rw[if_pos h2]at b1;rw[h1,h2]at hP;have h3:((i:Int)==0)=false/\((o.Lk.length:Int)==0)=true:=by
     grind
    obtain⟨h3,h4⟩:=h3;unfold ofA at*;unfold Off.enc at*;refine⟨_,_,by simp only[go_sem,c30L2b,c30L0,c30L1,hg,hi,a1,a4,a5,a6,a7,a8,a9,a10,b1,b4,b5,b6,b7,b8,b9,b10,h3,h4,ZXg];rfl,?_⟩
    simp only[go_sem]
def ZSz:∀D:List Int,ZPi (D.map I)=true
 |[]=>rfl
 |_::r=>ZSz r
def ZUX(D:List Int)(hD:D.length=64)(n:Nat)(hn:n<=64):
 ZQ3 [.row 64 [.agg<|D.map I]] 0 64 0 0 1 (.int .i64 (n:Int)) (some<|.row 64 [.agg<|D.map I])=some (.isl false false 1<|(D.map I).take n,[.gone]):=by
 have hb:bounds none (some<|.int .i64 (n:Int)) none 64=some (0,n,none):=by
  have e:bounds none (some<|.int .i64 (n:Int)) none 64=bif Nat.ble 0 n&&Nat.ble n 64&&VB n 64 none then some (0,n,none)else none:=by
   have hh:Wl 64 none (some<|.int .i64 (n:Int))=some n:=by
    show(if 0<=(n:Int)then some ((n:Int)).toNat else none)=some n
    rw[if_pos (by omega),ZY4]
   unfold bounds;rfl
  rw[e,ZXH (show 0<=n by omega),ZXH hn];rfl
 have hl:(D.map I).length=64:=by rw[ZXg,hD]
 simp[ZQ3,ZP5,hb,ZSz,hl,ZXR];rfl
noncomputable def ZO5(l:List Off):Bool:=!(decide ((l.length:Int)<1)||decide ((l.length:Int)>64))&&(Zu (ZOD l) 0 l&&!((spD l 0).take l.length).any ((64:Int)==·))
theorem ZQ8(ex:Bool)(l:List Off)(hS:∀o∈l,OffS o):pfn rE 30 [ofA ex l]=some (.bool<|ZO5 l):=by
 unfold ZO5;cases h1:decide ((l.length:Int)<1)with
 |true=>
  rw[Z5 (f:=30) rfl rfl];unfold ofA;simp[go_sem,c30,h1,ZXm]
 |false=>
  cases h2:decide ((l.length:Int)>64)with
  |true=>
   rw[Z5 (f:=30) rfl rfl];unfold ofA;simp[go_sem,c30,h1,h2,ZXq,ZXm]
  |false=>
   have hlt:¬(l.length:Int)<1:=of_decide_eq_false h1;have hgt:¬(l.length:Int)>64:=of_decide_eq_false h2;obtain⟨fr',h',a1,a2,a3⟩:=ZUW ex l (by omega) hS
   cases h3:Zu (ZOD l) 0 l with
   |false=>
    have a3':=a3 h3;rw[if_neg<|by grind]at a1
    rw[Z5 (f:=30) rfl rfl];unfold ofA at*;simp only[go_sem,c30,c30L2,ZXg,h1,h2,a1,a3',ZYq,ZXv,ZXk,ZXm]
   |true=>
    obtain⟨rfl,a4⟩:=a2 h3;rw[if_pos h3]at a1;obtain⟨d1,d2⟩:=ZPR ex l (ZSy (by omega) hS h3) 0<|by omega
    have hlD:=d2.len;have d1':pfn rE 22 [ofA ex l,.int .i64 0]=_:=d1;have hb:=ZQF false false ((spD l 0).take l.length) (by grind) 64
    rw[List.map_take]at hb;generalize spD l 0=D at*;have hlm:(D.map I).length=64:=by rw[ZXg,hlD]
    have htk:List.take 64 (D.map I)=D.map I:=ZXz<|by omega
    have hall:(D.map I).all scalar=true:=by
     rw[ZXs];intro x hx;obtain⟨y,_,rfl⟩:=ZXI.1 hx;rfl
    have hcl:clean (.agg<|D.map I)=true:=ZPu D;have hfit:fits 64 (.agg<|D.map I)=true:=by simp_all[fits]
    have hst:=λh b i off sz es=>Eb h b i off 64 (.agg<|D.map I) sz es hfit
    have has:=ZUX D hlD l.length<|by omega
    rw[Z5 (f:=30) rfl rfl];unfold ofA at*;simp only[go_sem,c30,c30L2,ZXg,h1,h2,a1,a4,d1',has,htk,hst,hlD,hb,ZXr,ZYq,ZXv,ZXk]
def ZP0(ex:Bool)(l:List Off):clean (ofA ex l)=true:=(rfl)
def ZPv(ex:Bool)(l:List Off):Z4 [ofA ex l]=true:=(rfl)
def ZSA(h:Hp)(ex:Bool)(l:List Off):Va h 1 (ofA ex l)=some (.iptr false [ofA ex l],h):=(rfl)
def ZPc(n:Nat)(x:Int):Bool:=decide (x<0)||decide (x>=(n:Int))
def ZUY(ex:Bool)(l:List Off)(x:Int):pfn rE 45 [I x,.iptr false [ofA ex l]]=some (.bool<|ZPc l.length x):=by
 unfold ZPc ofA;rw[Z5 (f:=45) rfl rfl];cases h:decide (x<0)<;>simp[go_sem,c45,h]
noncomputable def ZOE(l:List Off)(L:List Int):Bool:=!L.any (ZPc l.length)&&ZO5 l
def ZSB(ex e2:Bool)(l:List Off)(hS:∀o∈l,OffS o)(L:List Int)(hL:L.length<=1000000):pfn rE 21 [ofA ex l,.isl false e2 1<|L.map I]=some (.bool<|ZOE l L):=by
 have hv:=ZQ8 ex l hS;rw[Z5 (f:=21) rfl rfl];have hc:Z4 [AV.iptr false [ofA ex l]]=true:=by simp[Z4,clean,ZPv]
 have h74:=ZSd e2 L hL 45 [.iptr false [ofA ex l]] hc (ZPc l.length)<|ZUY ex l;have ho:=ZSA [] ex l;have hz:Z4 [AV.isl false e2 1<|L.map I,.clo (.func 45) [] [.iptr false [ofA ex l]]]=true:=by simp[Z4,clean,ZPv,ZPu]
 unfold ZOE;cases h:L.any (ZPc l.length)with
 |true=>
  rw[h]at h74;simp only[go_sem,c21,ho,hz,h74,ZXq,ZXm]
 |false=>
  rw[h]at h74;simp only[go_sem,c21,ho,hz,h74,hv,ZPv,ZXv,ZXk]
structure VaS(l:List Off):Prop where
 lk:ZOr l
 pos:1<=l.length
 sym:∀u v,v∈lkN l u->u∈lkN l v
 ne:∀u,u ∉ lkN l u
 con:∀v,v<l.length->gI (spD l 0) v≠64
def ZPw{D:List Int}{v:Nat}(h:v<D.length):D[v]?=some (gI D v):=by
 grind [gI]
def ZPx{l:List Off}(hS:∀o∈l,OffS o)(h:ZO5 l=true):VaS l:=by
 unfold ZO5 at h;simp[decide_eq_false_iff_not]at h;obtain⟨⟨h1,h2⟩,h3,h4⟩:=h;have hl:=ZSy (by omega) hS h3
 have hD:=(ZPR true l hl 0<|by omega).2
 have hk:∀u v,v∈lkN l u->u∈lkN l v/\v≠u:=by
  intro u v hv;unfold lkN at hv;split at hv
  .next o ho=>
   obtain⟨x,hx,rfl⟩:=ZXI.1 hv;have h5:=Zda.1 h3 u _ ho;unfold ZOD at h5;simp[ZXf]at h5;obtain⟨j,hj⟩:=ZYp hx;have h6:=Zda.1 h5.1 j _ hj;have h7:=ZSx h5.1 x hx;unfold lkP ZPQ at h6
   grind [lkN]
  grind
 refine⟨hl,by omega,λu v hv=>(hk u v hv).1,λu hu=>(hk u u hu).2 rfl,λv hv h64=>?_⟩
 have:(64:Int)∈(spD l 0).take l.length:=by
  refine ZYv.2 ⟨v,?_⟩;rw[ZZt,if_pos hv,ZPw (by rw[hD.len];grind),h64]
 grind
theorem ZSC{n:Nat}{x:Int}:ZPc n x=false↔0<=x/\x<n:=by
 grind [ZPc]
def ZQK{l:List Off}{a b:Int}(h:ZOE l [a,b]=true):(0<=a/\a<l.length)/\(0<=b/\b<l.length)/\ZO5 l=true:=by grind [ZOE,ZSC]
def ZQ9(h:Hp)(ex:Bool)(l:List Off):rlV h (ofA ex l)=some (ofA ex l,h):=rfl
noncomputable def ZP1(l:List Off)(a b:Int):Int×Int:=bif ZOE l [a,b]then(gI (spD l a.toNat) b.toNat,0)else(0,1)
def ZSD(ex:Bool)(l:List Off)(hS:∀o∈l,OffS o)(a b:Int):pfn rE 8 [ofA ex l,I a,I b]=some (.tup [I (ZP1 l a b).1,I (ZP1 l a b).2]):=by
 have hp:=ZSB ex false l hS [a,b]<|by simp
 have hz:Z4 [ofA ex l,.isl false false 1 [I a,I b]]=true:=by simp[Z4,clean,ZP0]
 unfold ZP1;cases h:ZOE l [a,b]with
 |false=>
  rw[h]at hp;have hp':pfn rE 21 [ofA ex l,.isl false false 1 [I a,I b]]=_:=hp;rw[Z5 (f:=8) rfl rfl];simp[go_sem,c8,hp',hz]
 |true=>
  rw[h]at hp;have hp':pfn rE 21 [ofA ex l,.isl false false 1 [I a,I b]]=_:=hp;obtain⟨h1,h2,h3⟩:=ZQK h;have hV:=ZPx hS h3;obtain⟨n,rfl⟩:∃n:Nat,a=n:=⟨a.toNat,by omega⟩
  obtain⟨m,rfl⟩:∃m:Nat,b=m:=⟨b.toNat,by omega⟩
  obtain⟨d1,d2⟩:=ZPR ex l hV.lk n<|by omega
  have hz2:Z4 [ofA ex l,I (n:Int)]=true:=by simp[Z4,clean,ZP0]
  have hn:((n:Int)).toNat=n:=rfl;have hm:((m:Int)).toNat=m:=rfl;rw[hn,hm];have hb:(0<=(m:Int)/\(m:Int)<((64:Nat):Int))=True:=by have:=hV.lk.1;grind
  have hD:((spD l n).map I).drop m=I (gI (spD l n) m)::((spD l n).map I).drop (m+1):=by
   have:=hV.lk.1;have hm2:m<(spD l n).length:=by rw[d2.len];omega
   grind [List.drop_eq_getElem_cons,gI]
  rw[Z5 (f:=8) rfl rfl];simp only[go_sem,c8,hp',hz,hz2,ZQ9,d1,hb,hm,hD,if_true,ZXN,cond_true]
def ZUZ(bw:Bool)(D:List Int)(hD:D.length=64)(hr:∀v,v<64->0<=gI D v/\gI D v<=64)(a b:Nat)(ha:a<64)(hb:b<64):pfn rE 41 [I a,I b,.iptr bw<|D.map I]=some (I<|gI D a-gI D b):=by
 have h1:=hr a ha;have h2:=hr b hb;have hw:IntKind.i64.wrap (gI D a-gI D b)=gI D a-gI D b:=YM (by omega)<|by omega
 have ha1:(0<=(a:Int)/\(a:Int)<((64:Nat):Int))=True:=by grind
 have hb1:(0<=(b:Int)/\(b:Int)<((64:Nat):Int))=True:=by grind
 have ha2:((a:Int)).toNat=a:=rfl;have hb2:((b:Int)).toNat=b:=rfl;have hda:(D.map I).drop a=I (gI D a)::(D.map I).drop (a+1):=by
  grind [List.drop_eq_getElem_cons,gI]
 have hdb:(D.map I).drop b=I (gI D b)::(D.map I).drop (b+1):=by
  grind [List.drop_eq_getElem_cons,gI]
 rw[Z5 (f:=41) rfl rfl];simp only[go_sem,c41,ha1,hb1,ha2,hb2,hda,hdb,hw,if_true,ZXN]
def minS(D:List Int)(m y:Nat):Nat:=if gI D y-gI D m<0 then y else m
def ZSE(D:List Int):∀(r:List Nat)(x:Nat),x<64->(∀y∈r,y<64)->r.foldl (minS D) x<64
 |[],x,h,_=>h
 |y::r,x,h,hr=>ZSE D r _ (by grind [minS,List.mem_cons_self])<|λz hz=>hr z<|ZY2 _ hz
def ZV0(bw ex:Bool)(D:List Int)(hD:D.length=64)(hr:∀v,v<64->0<=gI D v/\gI D v<=64)(x:Nat)(r:List Nat)(hx:x<64)(hrr:∀y∈r,y<64)(hl:r.length<=100000):
 pfn rE 40 [.isl bw ex 1<|(x::r).map nA,.clo (.func 41) [] [.iptr true<|D.map I]]=some (nA<|r.foldl (minS D) x):=by
 have L:=Y8 (E:=rE) (live:=[0,1,5,6]) (b:=c40L0b) r.length (λi=>[(0,.isl bw ex 1<|(x::r).map nA),(1,.clo (.func 41) [] [.iptr true<|D.map I]),(5,nA<|(r.take i).foldl (minS D) x),(6,nA<|i+1)]) (λi=>[]) (λi=>rfl)
  (λi hi=>by
   have hy:r[i]?=some r[i]:=ZXj hi;have hg:=Z6 (f:=nA) hy;have hf:=Us (f:=minS D) (b:=x) hy;have hml:=ZSE D (r.take i) x hx<|λy h=>hrr y<|ZYI h
   have hyl:=hrr _<|ZYA hi;rw[hf];generalize(r.take i).foldl (minS D) x=m at hml⊢;generalize r[i]=y at hg hyl;have hc:=ZUZ true D hD hr y m hyl hml;have hi':decide (((i+1:Nat):Int)<((r.length+1:Nat):Int))=true:=decide_eq_true<|by omega
   have hw:=Zx (n:=i+1)<|by omega
   have hn:(0<=((i+1:Nat):Int))=True:=eq_true<|by omega
   have hn2:(((i+1:Nat):Int)).toNat=i+1:=rfl;unfold minS;unfold nA at*;by_cases c:gI D y-gI D m<0
   .have c':decide (gI D y-gI D m<0)=true:=decide_eq_true c;rw[if_pos c];refine⟨_,by simp only[go_sem,c40L0b,hg,hi',hw,hc,c',RL];rfl,?_⟩
    simp only[go_sem]
   .have c':decide (gI D y-gI D m<0)=false:=decide_eq_false c;rw[if_neg c];refine⟨_,by simp only[go_sem,c40L0b,ZXw,ZXg,ZXn,hg,hi',hw,hn,hn2,hc,c',RL];rfl,?_⟩
    simp only[go_sem])
  (e:=.exit 0) (by
   have hi':decide (((r.length+1:Nat):Int)<((r.length+1:Nat):Int))=false:=decide_eq_false<|by omega
   unfold nA;simp only[go_sem,c40L0b,ZXw,ZXg,ZXn,hi'];rfl) (by simp)
 rw[ZXG]at L;have L':Zg rE [0,1,5,6] c40L0b [(0,.isl bw ex 1<|(x::r).map nA),(1,.clo (.func 41) [] [.iptr true<|D.map I]),(5,nA x),(6,.int .i64 1)] []=_:=L;have h1:decide (((r.length+1:Nat):Int)<1)=false:=decide_eq_false<|by omega
 rw[Z5 (f:=40) rfl rfl];unfold nA at*;rw[ZXn]at L'⊢;simp only[go_sem,c40,c40L0,ZXw,ZXg,h1,L',ZRZ]
end Go.AM
