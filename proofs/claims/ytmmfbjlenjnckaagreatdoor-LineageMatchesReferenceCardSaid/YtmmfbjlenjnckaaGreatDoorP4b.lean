/- What the functions of the program compute, part 2, for LineageMatchesReference. No condition. -/
import Derived.Test.YtmmfbjlenjnckaaGreatDoorP4a
import Derived.Test.YtmmfbjlenjnckaaGreatDoorQ5
set_option linter.unusedVariables false
set_option linter.defProp false
set_option linter.unusedSimpArgs false
set_option linter.unusedSectionVars false
namespace Go.AM
open Go
variable [REdz]
structure Sta where
 Fa:List Gk
 Gm:List By
 Bt:List Ev
 Bc:List Ga
 Nk:List be
 Gc:List bf
 ba:List bf
abbrev stA(s:Sta):AV:=.agg [.isl false false 6<|s.Fa.map Gk.enc,.isl false false 5<|s.Gm.map By.enc,.isl false false 4<|s.Bt.map Ev.enc,.isl false false 16<|s.Bc.map Ga.enc,
 .isl false false 6 (s.Nk.map be.enc),.isl false false 2<|s.Gc.map bf.enc,.isl false false 2<|s.ba.map bf.enc]
structure StS(s:Sta):Prop where
 regions:s.Fa.length<=1000
 streets:s.Gm.length<=1000
 buildings:s.Bt.length<=1000
 doors:s.Bc.length<=1000
 units:s.Nk.length<=1000
 merged:s.Gc.length<=1000
 rulings:s.ba.length<=1000
def ZL(s:Sta)(id:Str):Int:=Zp (λx:By=>Z3 x.Id id) s.Gm 0
def Y1(s:Sta)(id:Str):Int:=Zp (λx:Ev=>Z3 x.Id id) s.Bt 0
def Zn(s:Sta)(id:Str):Int:=Zp (λx:Ga=>Z3 x.Id id) s.Bc 0
def Wf(s:Sta)(id:Str):Int:=Zp (λx:be=>Z3 x.Id id) s.Nk 0
def K7(s:Sta)(hs:StS s)(id:Str):pfn rE 104 [stA s,.str id]=some (I<|ZL s id):=by
 have hp:∀x:By,pfn rE 199 [x.enc,.iptr false [.str id]]=some (.bool<|Z3 x.Id id):=λx=>by
  rw[Z5 (f:=199) rfl rfl];simp only[go_sem,c199,By.enc,NL.enc]
 have h1:=WF (E:=rE) (f:=250) (sz:=5) (n:=some 5) (enc:=By.enc) (p:=λx=>Z3 x.Id id) (g:=199) (cap:=[.iptr false [.str id]]) rfl rfl rfl s.Gm (by have:=hs.streets;omega) (λx _=>x.el) (λx _=>hp x) false false
 have h2:pfn rE 198 [.isl false false 5<|s.Gm.map By.enc,.clo (.func 199) [] [.iptr false [.str id]]]=some (I<|ZL s id):=by
  rw[Z5 (f:=198) rfl rfl];simp only[go_sem,c198,h1];rfl
 rw[Z5 (f:=104) rfl rfl];simp only[go_sem,c104,h2]
def Hb(s:Sta)(hs:StS s)(id:Str):pfn rE 111 [stA s,.str id]=some (I<|Y1 s id):=by
 have hp:∀x:Ev,pfn rE 202 [x.enc,.iptr false [.str id]]=some (.bool<|Z3 x.Id id):=λx=>by
  rw[Z5 (f:=202) rfl rfl];simp only[go_sem,c202,Ev.enc,NL.enc]
 have h1:=WF (E:=rE) (f:=251) (sz:=4) (n:=some 4) (enc:=Ev.enc) (p:=λx=>Z3 x.Id id) (g:=202) (cap:=[.iptr false [.str id]]) rfl rfl rfl s.Bt (by have:=hs.buildings;omega) (λx _=>x.el) (λx _=>hp x) false false
 have h2:pfn rE 201 [.isl false false 4<|s.Bt.map Ev.enc,.clo (.func 202) [] [.iptr false [.str id]]]=some (I<|Y1 s id):=by
  rw[Z5 (f:=201) rfl rfl];simp only[go_sem,c201,h1];rfl
 rw[Z5 (f:=111) rfl rfl];simp only[go_sem,c111,h2]
def find_ok(s:Sta)(hs:StS s)(id:Str):pfn rE 12 [stA s,.str id]=some (I<|Zn s id):=by
 have hp:∀x:Ga,pfn rE 73 [x.enc,.iptr false [.str id]]=some (.bool<|Z3 x.Id id):=λx=>by
  rw[Z5 (f:=73) rfl rfl];simp only[go_sem,c73,Ga.enc,NL.enc]
 have h1:=WF (E:=rE) (f:=160) (sz:=16) (n:=some 16) (enc:=Ga.enc) (p:=λx=>Z3 x.Id id) (g:=73) (cap:=[.iptr false [.str id]]) rfl rfl rfl s.Bc (by have:=hs.doors;omega) (λx _=>x.el) (λx _=>hp x) false false
 have h2:pfn rE 72 [.isl false false 16<|s.Bc.map Ga.enc,.clo (.func 73) [] [.iptr false [.str id]]]=some (I<|Zn s id):=by
  rw[Z5 (f:=72) rfl rfl];simp only[go_sem,c72,h1];rfl
 rw[Z5 (f:=12) rfl rfl];simp only[go_sem,c12,h2]
def XJ(s:Sta)(a:Int):Int:=match s.Gc.find? (λp=>p.b==a)with
 |some p=>p.a
 |none=>-1
def UA{α:Type}(P:α->Bool):∀(l:List α)(i:Int),(Zp P l i=-1/\l.find? P=none)\/∃(j:Nat)(x:α),Zp P l i=i+j/\l[j]?=some x/\l.find? P=some x
 |[],i=>Or.inl ⟨rfl,rfl⟩
 |y::r,i=>by
  cases h:P y with
  |true=>right;exact⟨0,y,by simp[Zp,h],by simp,by simp[h]⟩
  |false=>
   rcases UA P r (i+1)with⟨h1,h2⟩|⟨j,x,h1,h2,h3⟩
   .left;exact⟨by simp[Zp,h,h1],by simp[h,h2]⟩
   .right;refine⟨j+1,x,?_,by simpa using h2,by simp[h,h3]⟩
    simp only[Zp,h,cond_false,h1];omega
def NJ(s:Sta)(hs:StS s)(a:Int):pfn rE 130 [stA s,I a]=some (I<|XJ s a):=by
 have hp:∀x:bf,pfn rE 214 [x.enc,.iptr false [I a]]=some (.bool<|x.b==a):=λx=>by
  have hlt:(0<=(1:Int)/\(1:Int)<((2:Nat):Int))=True:=by simp
  have hn:((1:Int)).toNat=1:=rfl;rw[Z5 (f:=214) rfl rfl];simp only[go_sem,c214,bf.enc,hlt,hn,if_true,ZW6]
 have h1:=WF (E:=rE) (f:=252) (sz:=2) (n:=some 2) (enc:=bf.enc) (p:=λx=>x.b==a) (g:=214) (cap:=[.iptr false [I a]]) rfl rfl rfl s.Gc (by have:=hs.merged;omega) (λx _=>x.el) (λx _=>hp x) false false
 have h2:pfn rE 213 [.isl false false 2<|s.Gc.map bf.enc,.clo (.func 214) [] [.iptr false [I a]]]=some (I<|Zp (λx:bf=>x.b==a) s.Gc 0):=by
  rw[Z5 (f:=213) rfl rfl];simp only[go_sem,c213,h1]
 rw[Z5 (f:=130) rfl rfl];unfold XJ;rcases UA (λx:bf=>x.b==a) s.Gc 0 with⟨h3,h4⟩|⟨j,x,h3,h4,h5⟩
 .rw[h4];rw[h3]at h2;have hd:decide ((-1:Int)>=0)=false:=rfl;simp only[go_sem,c130,h2,hd]
 .rw[h5];have e:(0:Int)+(j:Int)=(j:Int):=by omega
  rw[h3,e]at h2;have hd:decide ((j:Int)>=0)=true:=decide_eq_true<|by omega
  have hg:=Z6 (f:=bf.enc) h4;have hlt:(0<=(0:Int)/\(0:Int)<((2:Nat):Int))=True:=by simp
  have hn:((0:Int)).toNat=0:=rfl;simp only[go_sem,c130,h2,hd,hg,bf.enc,hlt,hn,if_true,ZXj]
def Qp(s:Sta):List Str:=s.Fa.map (·.Id)++(s.Gm.map (·.Id)++(s.Bt.map (·.Id)++(s.Bc.map (·.Id)++s.Nk.map (·.Id))))
def Z2R(v:AV)(hv:∀n,bel n v=true)(K:List Str)(l:List Gk)(hl:l.length<=1000)(hK:K.length<=10000):∃fr',Zg rE [1,3,15,16,17] c49L0b [(1,v),(3,.sl 0 K.length 0 K.length false),(15,.isl false false 6<|l.map Gk.enc),(16,I l.length),(17,.int .i64 0)] [.row 1<|K.map encS] =
 some (.exit 0,fr',[.row 1 ((K++l.map (·.Id)).map encS)])/\get fr' 1=v/\get fr' 3=.sl 0 (K.length+l.length) 0 (K.length+l.length) false:=by
 have hbS:∀n(K:List Str),Zd n (K.map encS)=true:=λn K=>ZN _<|Zw (λt=>rfl) K
 have L:=Y8 (E:=rE) (live:=[1,3,15,16,17]) (b:=c49L0b) l.length (λi=>[(1,v),(3,.sl 0 (K.length+i) 0 (K.length+i) false),(15,.isl false false 6<|l.map Gk.enc),(16,I l.length),(17,I i)])
  (λi=>[.row 1 ((K++(l.take i).map (·.Id)).map encS)]) (λi=>rfl)
  (λi hi=>by
   obtain⟨x,hx⟩:∃x,l[i]?=some x:=⟨_,ZVH hi⟩;have hg:=Z6 (f:=Gk.enc) hx;have hi':=Zh hi;have hw:=Zx (n:=i)<|by omega
   have ht:=YW (λx:Gk=>x.Id) hx
   have hn:(K++(l.take i).map (·.Id)).length=K.length+i:=by rw[ZVQ,ZVA,take_len hx]
   have e1:(K++(l.take<|i+1).map (·.Id)).map encS=(K++(l.take i).map (·.Id)).map encS++[.str x.Id]:=by
    rw[ht,<-ZVY,ZW7];rfl
   rw[e1];generalize K++(l.take i).map (·.Id)=KS at hn⊢;rw[<-hn,<-ZWv,<-hn];have ha:=λq=>XC (h:=[.row 1<|KS.map encS,q]) (fz:=false) (b:=0) (g:=KS.length) (sz:=1) (es:=KS.map encS) (bw:=false) (ex:=false) (ys:=[.str x.Id]) (bytes:=16) (by simp[rowAt]) rfl (by rfl) (by omega) (by omega) (by simp;omega)
   refine⟨_,by simp only[go_sem,c49L0b,hg,hi',hw,Gk.enc,NL.enc,ha,beq_self_eq_true,hbS,hv];rfl,?_⟩
   simp only[go_sem])
  (e:=.exit 0) (by simp only[go_sem,c49L0b,ZG,ZWj];rfl) (by simp)
 have e0:K++(l.take 0).map (λx:Gk=>x.Id)=K:=by simp
 rw[e0]at L;refine⟨_,L,?_,?_⟩<;>simp only[go_sem]
def Z2S(v:AV)(hv:∀n,bel n v=true)(K:List Str)(l:List By)(hl:l.length<=1000)(hK:K.length<=10000):∃fr',Zg rE [1,3,28,29,30] c49L1b [(1,v),(3,.sl 0 K.length 0 K.length false),(28,.isl false false 5<|l.map By.enc),(29,I l.length),(30,.int .i64 0)] [.row 1<|K.map encS] =
 some (.exit 2,fr',[.row 1 ((K++l.map (·.Id)).map encS)])/\get fr' 1=v/\get fr' 3=.sl 0 (K.length+l.length) 0 (K.length+l.length) false:=by
 have hbS:∀n(K:List Str),Zd n (K.map encS)=true:=λn K=>ZN _<|Zw (λt=>rfl) K
 have L:=Y8 (E:=rE) (live:=[1,3,28,29,30]) (b:=c49L1b) l.length (λi=>[(1,v),(3,.sl 0 (K.length+i) 0 (K.length+i) false),(28,.isl false false 5<|l.map By.enc),(29,I l.length),(30,I i)])
  (λi=>[.row 1 ((K++(l.take i).map (·.Id)).map encS)]) (λi=>rfl)
  (λi hi=>by
   obtain⟨x,hx⟩:∃x,l[i]?=some x:=⟨_,ZVH hi⟩;have hg:=Z6 (f:=By.enc) hx;have hi':=Zh hi;have hw:=Zx (n:=i)<|by omega
   have ht:=YW (λx:By=>x.Id) hx
   have hn:(K++(l.take i).map (·.Id)).length=K.length+i:=by rw[ZVQ,ZVA,take_len hx]
   have e1:(K++(l.take<|i+1).map (·.Id)).map encS=(K++(l.take i).map (·.Id)).map encS++[.str x.Id]:=by
    rw[ht,<-ZVY,ZW7];rfl
   rw[e1];generalize K++(l.take i).map (·.Id)=KS at hn⊢;rw[<-hn,<-ZWv,<-hn];have ha:=λq=>XC (h:=[.row 1<|KS.map encS,q]) (fz:=false) (b:=0) (g:=KS.length) (sz:=1) (es:=KS.map encS) (bw:=false) (ex:=false) (ys:=[.str x.Id]) (bytes:=16) (by simp[rowAt]) rfl (by rfl) (by omega) (by omega) (by simp;omega)
   refine⟨_,by simp only[go_sem,c49L1b,hg,hi',hw,By.enc,NL.enc,ha,beq_self_eq_true,hbS,hv];rfl,?_⟩
   simp only[go_sem])
  (e:=.exit 2) (by simp only[go_sem,c49L1b,ZG,ZWj];rfl) (by simp)
 have e0:K++(l.take 0).map (λx:By=>x.Id)=K:=by simp
 rw[e0]at L;refine⟨_,L,?_,?_⟩<;>simp only[go_sem]
def Z2T(v:AV)(hv:∀n,bel n v=true)(K:List Str)(l:List Ev)(hl:l.length<=1000)(hK:K.length<=10000):∃fr',Zg rE [1,3,41,42,43] c49L2b [(1,v),(3,.sl 0 K.length 0 K.length false),(41,.isl false false 4<|l.map Ev.enc),(42,I l.length),(43,.int .i64 0)] [.row 1<|K.map encS] =
 some (.exit 4,fr',[.row 1 ((K++l.map (·.Id)).map encS)])/\get fr' 1=v/\get fr' 3=.sl 0 (K.length+l.length) 0 (K.length+l.length) false:=by
 have hbS:∀n(K:List Str),Zd n (K.map encS)=true:=λn K=>ZN _<|Zw (λt=>rfl) K
 have L:=Y8 (E:=rE) (live:=[1,3,41,42,43]) (b:=c49L2b) l.length (λi=>[(1,v),(3,.sl 0 (K.length+i) 0 (K.length+i) false),(41,.isl false false 4<|l.map Ev.enc),(42,I l.length),(43,I i)])
  (λi=>[.row 1 ((K++(l.take i).map (·.Id)).map encS)]) (λi=>rfl)
  (λi hi=>by
   obtain⟨x,hx⟩:∃x,l[i]?=some x:=⟨_,ZVH hi⟩;have hg:=Z6 (f:=Ev.enc) hx;have hi':=Zh hi;have hw:=Zx (n:=i)<|by omega
   have ht:=YW (λx:Ev=>x.Id) hx
   have hn:(K++(l.take i).map (·.Id)).length=K.length+i:=by rw[ZVQ,ZVA,take_len hx]
   have e1:(K++(l.take<|i+1).map (·.Id)).map encS=(K++(l.take i).map (·.Id)).map encS++[.str x.Id]:=by
    rw[ht,<-ZVY,ZW7];rfl
   rw[e1];generalize K++(l.take i).map (·.Id)=KS at hn⊢;rw[<-hn,<-ZWv,<-hn];have ha:=λq=>XC (h:=[.row 1<|KS.map encS,q]) (fz:=false) (b:=0) (g:=KS.length) (sz:=1) (es:=KS.map encS) (bw:=false) (ex:=false) (ys:=[.str x.Id]) (bytes:=16) (by simp[rowAt]) rfl (by rfl) (by omega) (by omega) (by simp;omega)
   refine⟨_,by simp only[go_sem,c49L2b,hg,hi',hw,Ev.enc,NL.enc,ha,beq_self_eq_true,hbS,hv];rfl,?_⟩
   simp only[go_sem])
  (e:=.exit 4) (by simp only[go_sem,c49L2b,ZG,ZWj];rfl) (by simp)
 have e0:K++(l.take 0).map (λx:Ev=>x.Id)=K:=by simp
 rw[e0]at L;refine⟨_,L,?_,?_⟩<;>simp only[go_sem]
def Z2U(v:AV)(hv:∀n,bel n v=true)(K:List Str)(l:List Ga)(hl:l.length<=1000)(hK:K.length<=10000):∃fr',Zg rE [1,3,54,55,56] c49L3b [(1,v),(3,.sl 0 K.length 0 K.length false),(54,.isl false false 16<|l.map Ga.enc),(55,I l.length),(56,.int .i64 0)] [.row 1<|K.map encS] =
 some (.exit 6,fr',[.row 1 ((K++l.map (·.Id)).map encS)])/\get fr' 1=v/\get fr' 3=.sl 0 (K.length+l.length) 0 (K.length+l.length) false:=by
 have hbS:∀n(K:List Str),Zd n (K.map encS)=true:=λn K=>ZN _<|Zw (λt=>rfl) K
 have L:=Y8 (E:=rE) (live:=[1,3,54,55,56]) (b:=c49L3b) l.length (λi=>[(1,v),(3,.sl 0 (K.length+i) 0 (K.length+i) false),(54,.isl false false 16<|l.map Ga.enc),(55,I l.length),(56,I i)])
  (λi=>[.row 1 ((K++(l.take i).map (·.Id)).map encS)]) (λi=>rfl)
  (λi hi=>by
   obtain⟨x,hx⟩:∃x,l[i]?=some x:=⟨_,ZVH hi⟩;have hg:=Z6 (f:=Ga.enc) hx;have hi':=Zh hi;have hw:=Zx (n:=i)<|by omega
   have ht:=YW (λx:Ga=>x.Id) hx
   have hn:(K++(l.take i).map (·.Id)).length=K.length+i:=by rw[ZVQ,ZVA,take_len hx]
   have e1:(K++(l.take<|i+1).map (·.Id)).map encS=(K++(l.take i).map (·.Id)).map encS++[.str x.Id]:=by
    rw[ht,<-ZVY,ZW7];rfl
   rw[e1];generalize K++(l.take i).map (·.Id)=KS at hn⊢;rw[<-hn,<-ZWv,<-hn];have ha:=λq=>XC (h:=[.row 1<|KS.map encS,q]) (fz:=false) (b:=0) (g:=KS.length) (sz:=1) (es:=KS.map encS) (bw:=false) (ex:=false) (ys:=[.str x.Id]) (bytes:=16) (by simp[rowAt]) rfl (by rfl) (by omega) (by omega) (by simp;omega)
   refine⟨_,by simp only[go_sem,c49L3b,hg,hi',hw,Ga.enc,NL.enc,ha,beq_self_eq_true,hbS,hv];rfl,?_⟩
   simp only[go_sem])
  (e:=.exit 6) (by simp only[go_sem,c49L3b,ZG,ZWj];rfl) (by simp)
 have e0:K++(l.take 0).map (λx:Ga=>x.Id)=K:=by simp
 rw[e0]at L;refine⟨_,L,?_,?_⟩<;>simp only[go_sem]
def Z2V(v:AV)(hv:∀n,bel n v=true)(K:List Str)(l:List be)(hl:l.length<=1000)(hK:K.length<=10000):∃fr',Zg rE [3,67,68,69] c49L4b [(3,.sl 0 K.length 0 K.length false),(67,.isl false false 6<|l.map be.enc),(68,I l.length),(69,.int .i64 0)] [.row 1<|K.map encS] =
 some (.exit 8,fr',[.row 1 ((K++l.map (·.Id)).map encS)])/\get fr' 3=.sl 0 (K.length+l.length) 0 (K.length+l.length) false:=by
 have hbS:∀n(K:List Str),Zd n (K.map encS)=true:=λn K=>ZN _<|Zw (λt=>rfl) K
 have L:=Y8 (E:=rE) (live:=[3,67,68,69]) (b:=c49L4b) l.length (λi=>[(3,.sl 0 (K.length+i) 0 (K.length+i) false),(67,.isl false false 6<|l.map be.enc),(68,I l.length),(69,I i)])
  (λi=>[.row 1 ((K++(l.take i).map (·.Id)).map encS)]) (λi=>rfl)
  (λi hi=>by
   obtain⟨x,hx⟩:∃x,l[i]?=some x:=⟨_,ZVH hi⟩;have hg:=Z6 (f:=be.enc) hx;have hi':=Zh hi;have hw:=Zx (n:=i)<|by omega
   have ht:=YW (λx:be=>x.Id) hx
   have hn:(K++(l.take i).map (·.Id)).length=K.length+i:=by rw[ZVQ,ZVA,take_len hx]
   have e1:(K++(l.take<|i+1).map (·.Id)).map encS=(K++(l.take i).map (·.Id)).map encS++[.str x.Id]:=by
    rw[ht,<-ZVY,ZW7];rfl
   rw[e1];generalize K++(l.take i).map (·.Id)=KS at hn⊢;rw[<-hn,<-ZWv,<-hn];have ha:=λq=>XC (h:=[.row 1<|KS.map encS,q]) (fz:=false) (b:=0) (g:=KS.length) (sz:=1) (es:=KS.map encS) (bw:=false) (ex:=false) (ys:=[.str x.Id]) (bytes:=16) (by simp[rowAt]) rfl (by rfl) (by omega) (by omega) (by simp;omega)
   refine⟨_,by simp only[go_sem,c49L4b,hg,hi',hw,be.enc,ha,beq_self_eq_true,hbS];rfl,?_⟩
   simp only[go_sem])
  (e:=.exit 8) (by simp only[go_sem,c49L4b,ZG,ZWj];rfl) (by simp)
 have e0:K++(l.take 0).map (λx:be=>x.Id)=K:=by simp
 rw[e0]at L;refine⟨_,L,?_⟩<;>simp only[go_sem]
def Fd(s:Sta)(hs:StS s):pfn rE 49 [stA s]=some (.isl false false 1<|(Qp s).map encS):=by
 have hcS:∀K:List Str,Z4 (K.map encS)=true:=λK=>Zw (λt=>rfl) K
 have hbS:∀n(K:List Str),Zd n (K.map encS)=true:=λn K=>ZN _<|hcS K
 have z:=hs.regions;have z1:=hs.streets;have z2:=hs.buildings;have z3:=hs.doors;have z4:=hs.units;have hbs:∀n,bel n (.iptr false [.isl false false 6<|s.Fa.map Gk.enc,.isl false false 5<|s.Gm.map By.enc,.isl false false 4<|s.Bt.map Ev.enc,.isl false false 16<|s.Bc.map Ga.enc,.isl false false 6<|s.Nk.map be.enc,.isl false false 2<|s.Gc.map bf.enc,.isl false false 2<|s.ba.map bf.enc])=true:=λn=>rfl
 obtain⟨f0,h0,a0,b0⟩:=Z2R _ hbs [] s.Fa z<|by simp
 obtain⟨f1,h1,a1,b1⟩:=Z2S _ hbs (s.Fa.map (·.Id)) s.Gm z1<|by simp;omega
 obtain⟨f2,h2,a2,b2⟩:=Z2T _ hbs (s.Fa.map (·.Id)++s.Gm.map (·.Id)) s.Bt z2<|by simp;omega
 obtain⟨f3,h3,a3,b3⟩:=Z2U _ hbs ((s.Fa.map (·.Id)++s.Gm.map (·.Id))++s.Bt.map (·.Id)) s.Bc z3<|by simp;omega
 obtain⟨f4,h4,b4⟩:=Z2V .bot (λn=>rfl) (((s.Fa.map (·.Id)++s.Gm.map (·.Id))++s.Bt.map (·.Id))++s.Bc.map (·.Id)) s.Nk z4<|by simp;omega
 have e:((((s.Fa.map (·.Id)++s.Gm.map (·.Id))++s.Bt.map (·.Id))++s.Bc.map (·.Id))++s.Nk.map (·.Id))=Qp s:=by simp[Qp,ZVY]
 rw[e]at h4;have hz:∀K:List Str,List.take K.length (K.map encS)=K.map encS:=λK=>ZW5<|by simp
 have l5:(((s.Fa.map (·.Id)++s.Gm.map (·.Id))++s.Bt.map (·.Id))++s.Bc.map (·.Id)).length+s.Nk.length=(Qp s).length:=by rw[<-e];simp;omega
 rw[l5]at b4;rw[Z5 (f:=49) rfl rfl];simp only[ZVA,ZVQ,ZWb,ZWs,ZVM,ZWy]at h0 b0 h1 b1 h2 b2 h3 b3 h4 b4;simp only[go_sem,c49,c49L0,c49L1,c49L2,c49L3,c49L4,h0,a0,b0,h1,a1,b1,h2,a2,b2,h3,a3,b3,h4,b4,hbS,hcS,beq_self_eq_true,hz]
def ZSL(l:List Pt)(ex:Bool)(hl:l.length<=1000000):pfn rE 136 [.isl false ex 2<|l.map Pt.enc]=some (.bool<|Ul l):=by
 have L:=QT (E:=rE) (live:=[0,3]) (b:=c136L0b) (h:=[]) l (VX l) (λi=>[(0,.isl false ex 2<|l.map Pt.enc),(3,I i)]) 0 (λ_=>True) (λfr=>get fr 2=.bool false) (λi=>rfl)
  (λi x hx hP=>by
   have hg:=Z6 (f:=Pt.enc) hx;have hi:=Zh<|Z7 hx;have hw:=Zx (n:=i) (by have:=Z7 hx;omega)
   have hP1:gOn x=true:=by simp only[VX,ZVB]at hP;exact hP.1
   rcases i with _|j
   .have h0:decide (((0:Nat):Int)>0)=false:=rfl;refine⟨_,by simp only[go_sem,c136L0b,hg,hi,hw,Pt.enc,ZO4,hP1,h0,ZVA,ZVC];rfl,?_⟩
    simp only[go_sem]
   .have h0:decide (((j+1:Nat):Int)>0)=true:=decide_eq_true (by omega)
    have hs:IntKind.i64.wrap (((j+1:Nat):Int)-1)=((j:Nat):Int):=by rw[YM (by omega) (by have:=Z7 hx;omega)];omega
    have hg1:=YN (l:=l) (i:=j) (by have:=Z7 hx;omega)
    have hP2:(x.X==(pAt l j).X&&x.Y==(pAt l j).Y)=false:=by
     have:VX l (j+1) x=(gOn x&&!(decide (((j+1:Nat):Int)>0)&&QK x (pAt l j))):=rfl;rw[this,hP1,h0]at hP;simp only[ZVD,ZVW]at hP;exact hP
    refine⟨_,by simp only[go_sem,c136L0b,hg,hg1,hi,hw,hs,Pt.enc,ZO4,hP1,h0,hP2,ZVA,ZVC];rfl,?_⟩
    simp only[go_sem])
  (λi x hx hP=>by
   have hg:=Z6 (f:=Pt.enc) hx;have hi:=Zh<|Z7 hx;cases hP1:gOn x with
   |false=>
    refine⟨_,by simp only[go_sem,c136L0b,hg,hi,Pt.enc,ZO4,hP1,ZVA,ZVE];rfl,?_⟩
    simp only[go_sem]
   |true=>
    rcases i with _|j
    .simp[VX,hP1]at hP
    .have h0:decide (((j+1:Nat):Int)>0)=true:=decide_eq_true (by omega)
     have hs:IntKind.i64.wrap (((j+1:Nat):Int)-1)=((j:Nat):Int):=by rw[YM (by omega) (by have:=Z7 hx;omega)];omega
     have hg1:=YN (l:=l) (i:=j) (by have:=Z7 hx;omega)
     have hP2:(x.X==(pAt l j).X&&x.Y==(pAt l j).Y)=true:=by
      have:VX l (j+1) x=(gOn x&&!(decide (((j+1:Nat):Int)>0)&&QK x (pAt l j))):=rfl;rw[this,hP1,h0]at hP;simp only[ZVD,ZX5]at hP;exact hP
     refine⟨_,by simp only[go_sem,c136L0b,hg,hg1,hi,hs,Pt.enc,ZO4,hP1,h0,hP2,ZVA,ZVC];rfl,?_⟩
     simp only[go_sem])
  (⟨_,by simp only[go_sem,c136L0b,ZG,ZVA];rfl,trivial⟩)
 obtain⟨fr',h1,h2,h3⟩:=L;have h1':Zg rE [0,3] c136L0b [(0,.isl false ex 2<|l.map Pt.enc),(3,.int .i64 0)] []=_:=h1;rw[Z5 (f:=136) rfl rfl];unfold Ul;have e3:decide ((l.length:Int)>=2) = !decide ((l.length:Int)<2):=by rw[ZW1];simp
 have e4:decide ((l.length:Int)<=40) = !decide ((l.length:Int)>40):=by rw[ZW1];simp
 rw[e3,e4];cases c1:decide ((l.length:Int)<2)with
 |true=>simp only[go_sem,c136,c1,ZVA,ZVC,ZVG,ZVL]
 |false=>
  cases c2:decide ((l.length:Int)>40)with
  |true=>simp only[go_sem,c136,c1,c2,ZVA,ZVC,ZVE,ZVL]
  |false=>
   cases hc:Zu (VX l) 0 l with
   |true=>rw[hc]at h1';simp only[go_sem,c136,c136L0,h1',c1,c2,ZVA,ZVE,ZVJ]
   |false=>rw[hc]at h1';simp only[go_sem,c136,c136L0,h1',h3 hc,c1,c2,ZVA,ZVE,ZVJ,ZVI]
def nb0(n:Nat):(((n:Nat):Int)==0)=(n==0):=by rw[ZW1,beq_iff_eq,beq_iff_eq];omega
def cmN(a b:Nat)(d:Nat):Bool:=!(a%d==0&&b%d==0)
def cmT(a b:Nat):Bool:=!(List.range' 2<|a-1).all (cmN a b)
def ZSM(a b:Nat)(ha:1<=a)(ha2:a<=9)(hb:b<=9):pfn rE 225 [I a,I b]=some (.bool<|cmT a b):=by
 have L:=Uf (E:=rE) (live:=[0,1,5]) (b:=c225L0b) (h:=[]) (List.range' 2<|a-1) (λ_ d=>cmN a b d) (λj=>[(0,I a),(1,I b),(5,I (2+j:Nat))]) 0 (λfr=>get fr 4=.bool true) (λi=>rfl)
  (λj d hd hP=>by
   obtain⟨rfl,hj⟩:=Dt hd;have hle:decide (((2+j:Nat):Int)<=(a:Int))=true:=decide_eq_true<|by omega
   have hn:=nat_ne (n:=2+j)<|by omega
   have hw:=Zx (n:=2+j)<|by omega
   have ea:2+(j+1)=2+j+1:=by omega
   rw[ea];unfold cmN at hP;have e1:(((a%(2+j):Nat):Int)==0)=(a%(2+j)==0):=nb0 _;have e2:(((b%(2+j):Nat):Int)==0)=(b%(2+j)==0):=nb0 _;rw[<-e1,<-e2]at hP;generalize 2+j=k at*;cases c1:(((a%k:Nat):Int)==0)with
   |false=>
    refine⟨_,by simp only[go_sem,c225L0b,hle,hn,hw,Jc,c1];rfl,?_⟩
    simp only[go_sem]
   |true=>
    rw[c1,ZVD,ZVW]at hP;refine⟨_,by simp only[go_sem,c225L0b,hle,hn,hw,Jc,c1,hP];rfl,?_⟩
    simp only[go_sem])
  (λj d hd hP=>by
   obtain⟨rfl,hj⟩:=Dt hd;have hle:decide (((2+j:Nat):Int)<=(a:Int))=true:=decide_eq_true<|by omega
   have hn:=nat_ne (n:=2+j)<|by omega
   unfold cmN at hP;have e1:(((a%(2+j):Nat):Int)==0)=(a%(2+j)==0):=nb0 _;have e2:(((b%(2+j):Nat):Int)==0)=(b%(2+j)==0):=nb0 _;rw[<-e1,<-e2]at hP;generalize 2+j=k at*;rw[ZX5,ZVB]at hP;refine⟨_,by simp only[go_sem,c225L0b,hle,hn,Jc,hP.1,hP.2];rfl,?_⟩
   simp only[go_sem])
  (by
   have hle:decide (((2+(List.range' 2<|a-1).length:Nat):Int)<=(a:Int))=false:=by simp;omega
   generalize 2+(List.range' 2<|a-1).length=k at*;exact⟨_,by simp only[go_sem,c225L0b,hle];rfl⟩)
 rw[QE]at L;obtain⟨fr',h1,h2⟩:=L;have h1':Zg rE [0,1,5] c225L0b [(0,I a),(1,I b),(5,.int .i64 2)] []=_:=h1;rw[Z5 (f:=225) rfl rfl];unfold cmT;cases hc:(List.range' 2<|a-1).all (cmN a b)with
 |true=>rw[hc]at h1';simp only[go_sem,c225,c225L0,h1',ZVC]
 |false=>rw[hc]at h1';simp only[go_sem,c225,c225L0,h1',h2 hc,ZVE,ZVI]
def rFr(a b:Int):Bool:=bif (a==0&&b==0)then true else decide (a>=1)&&(decide (a<b)&&(decide (b<=9)&&!cmT a.toNat b.toNat))
def ZSN{a b:Int}(h:decide (Nl a b>=0)=true):∃x∈Vi,x.a=a/\x.b=b:=by
 unfold Nl at h;rcases UA (λp:bf=>p.a==a&&p.b==b) Vi 0 with⟨h1,_⟩|⟨j,x,_,h2,h3⟩
 .rw[h1]at h;cases h
 .have h4:=ZXQ h3;rw[ZVB]at h4;exact⟨x,ZY0 h3,eq_of_beq h4.1,eq_of_beq h4.2⟩
def ZSO:∀x∈Vi,0<=x.a/\x.a<=9/\0<=x.b/\x.b<=9:=by decide
def ZSP:∀a b:Fin 10,rFr ((a.val:Nat):Int) ((b.val:Nat):Int)=decide (Nl ((a.val:Nat):Int) ((b.val:Nat):Int)>=0):=by decide +kernel
def ZSQ(a b:Int):rFr a b=decide (Nl a b>=0):=by
 by_cases h:0<=a/\a<=9/\0<=b/\b<=9
 .have:=ZSP ⟨a.toNat,by omega⟩ ⟨b.toNat,by omega⟩
  dsimp only at this
  rwa[ZY7 h.1,ZY7 h.2.2.1]at this
 .have h1:decide (Nl a b>=0)=false:=by
   cases c:decide (Nl a b>=0)with
   |false=>rfl
   |true=>
    obtain⟨x,h1,rfl,rfl⟩:=ZSN c;have:=ZSO x h1;omega
  rw[h1];unfold rFr;cases c0:(a==0&&b==0)with
  |true=>
   rw[ZVB,beq_iff_eq,beq_iff_eq]at c0;omega
  |false=>
   rw[cond_false];cases c1:decide (a>=1)with
   |false=>rfl
   |true=>
    cases c2:decide (a<b)with
    |false=>rfl
    |true=>
     cases c3:decide (b<=9)with
     |false=>rfl
     |true=>
      have:=of_decide_eq_true c1;have:=of_decide_eq_true c2;have:=of_decide_eq_true c3;omega
def ZPQ(s:Str):Bool:=!(decide ((s.size:Int)>1)||(!Z3 s emp&&(WW s (B [97])||!(WW s (B [122])||Z3 s (B [122])))))
def ZSR(s:Str):ZPQ s=letterT s:=by
 obtain⟨⟨l⟩⟩:=s;unfold ZPQ letterT;rcases l with _|⟨b,_|⟨c,r⟩⟩
 .rfl
 .have h1:(ByteArray.size ⟨⟨[b]⟩⟩:Nat)=1:=rfl;have h2:Z3 ⟨⟨[b]⟩⟩ emp=false:=by
   rw[ZWx];intro h;have:=(Ky _ _).1 h;cases this
  have h3:Vj ⟨⟨[b]⟩⟩ 0=(b.toNat:Int):=rfl;have h4:WW ⟨⟨[b]⟩⟩ (B [97])=decide (b<97):=by
   show(decide (b<97)||(b==97&&false))=_
   rw[ZVL,ZW9]
  have h5:(WW ⟨⟨[b]⟩⟩ (B [122])||Z3 ⟨⟨[b]⟩⟩ (B [122]))=decide (b<=122):=by
   have e1:WW ⟨⟨[b]⟩⟩ (B [122])=decide (b<122):=by
    show(decide (b<122)||(b==122&&false))=_
    rw[ZVL,ZW9]
   have e2:Z3 ⟨⟨[b]⟩⟩ (B [122])=(b==122):=by
    rw[ZW1,Ky,beq_iff_eq];constructor
    .intro h;have:([b]:List UInt8)=[122]:=congrArg (λs:Str=>s.data.toList) h
     exact(List.cons.inj this).1
    .rintro rfl;rfl
   rw[e1,e2,ZW1];simp only[ZXb,decide_eq_true_eq,beq_iff_eq];rw[UInt8.lt_iff_toNat_lt,UInt8.le_iff_toNat_le,<-UInt8.toNat_inj];have:(122:UInt8).toNat=122:=rfl;omega
  rw[h1,h2,h3,h4,h5];rw[ZW1];have e97:(97:UInt8).toNat=97:=rfl;have e122:(122:UInt8).toNat=122:=rfl;simp[UInt8.lt_iff_toNat_lt,UInt8.le_iff_toNat_le,e97,e122]
  try omega
 .have h1:(ByteArray.size ⟨⟨b::c::r⟩⟩:Nat)=r.length+2:=rfl;have h2:Z3 ⟨⟨b::c::r⟩⟩ emp=false:=by
   rw[ZWx];intro h;have:=(Ky _ _).1 h;cases this
  rw[h1,h2,decide_eq_true<|by omega]
  have h3:(((r.length+2:Nat):Int)==1)=false:=by rw[beq_eq_false_iff_ne];omega
  rw[h3];rfl
def ZQV{a b:Int}(h1:a>=1)(h2:a<b)(h3:b<=9):pfn rE 225 [I a,I b]=some (.bool<|cmT a.toNat b.toNat):=by
 have:=ZSM a.toNat b.toNat (by omega) (by omega)<|by omega
 rwa[ZY7 (by omega),ZY7<|by omega]at this
def ZSS(n:HN):pfn rE 139 [.agg [I n.N,.str n.bm,I n.Num,I n.Den]]=some (.bool<|YO n):=by
 unfold YO;rw[<-ZSR,<-ZSQ];unfold ZPQ rFr;have e1:decide (n.N>=1) = !decide (n.N<1):=by rw[ZW1];simp
 have e2:decide (n.N<=9999) = !decide (n.N>9999):=by rw[ZW1];simp
 rw[e1,e2,Z5 (f:=139) rfl rfl];cases c1:decide (n.N<1)with
 |true=>simp only[go_sem,c139,c1,ZVC,ZVG]
 |false=>
  cases c2:decide (n.N>9999)with
  |true=>simp only[go_sem,c139,c1,c2,ZVC,ZVE,ZVG,ZVD]
  |false=>
   cases c3:decide ((n.bm.size:Int)>1)with
   |true=>simp only[go_sem,c139,c1,c2,c3,ZVC,ZVE,ZVG,ZVD,ZVR]
   |false=>
    cases c4:Z3 n.bm emp with
    |true=>
     cases c7:(n.Num==0&&n.Den==0)with
     |true=>
      rw[ZVB]at c7;simp only[go_sem,c139,c1,c2,c3,c4,c7.1,c7.2,ZVC,ZVE,ZVG,ZVD,ZVR,ZVS,ZW9,ZVL]
     |false=>
      have c7':=c7;cases d1:n.Num==0<;>rw[d1]at c7'<;>(try simp only[ZVD]at c7')
      .cases c9:decide (n.Num>=1)with
       |false=>simp only[go_sem,c139,c1,c2,c3,c4,d1,c9,ZVC,ZVE,ZVG,ZVD,ZVR,ZVS,ZW9,ZVL]
       |true=>
        cases c10:decide (n.Num<n.Den)with
        |false=>simp only[go_sem,c139,c1,c2,c3,c4,d1,c9,c10,ZVC,ZVE,ZVG,ZVD,ZVR,ZVS,ZW9,ZVL]
        |true=>
         cases c11:decide (n.Den<=9)with
         |false=>simp only[go_sem,c139,c1,c2,c3,c4,d1,c9,c10,c11,ZVC,ZVE,ZVG,ZVD,ZVR,ZVS,ZW9,ZVL]
         |true=>
          have hcm:=ZQV (of_decide_eq_true c9) (of_decide_eq_true c10)<|of_decide_eq_true c11;simp only[go_sem,c139,c1,c2,c3,c4,d1,c9,c10,c11,hcm,ZVC,ZVE,ZVG,ZVD,ZVR,ZVS,ZW9,ZVL]
      .have z1:decide (n.Num>=1)=false:=decide_eq_false (by have:=eq_of_beq d1;omega)
       simp only[go_sem,c139,c1,c2,c3,c4,d1,c7',z1,ZVC,ZVE,ZVG,ZVD,ZVR,ZVS,ZW9,ZVL]
    |false=>
     cases c5:WW n.bm (B [97])with
     |true=>simp only[go_sem,c139,c1,c2,c3,c4,c5,ZVC,ZVE,ZVG,ZVD,ZVR,ZVS,ZW9,ZVL]
     |false=>
      cases c6:WW n.bm (B [122])||Z3 n.bm (B [122])with
      |false=>simp only[go_sem,c139,c1,c2,c3,c4,c5,c6,ZVC,ZVE,ZVG,ZVD,ZVR,ZVS,ZW9,ZVL]
      |true=>
       cases c7:(n.Num==0&&n.Den==0)with
       |true=>
        rw[ZVB]at c7;simp only[go_sem,c139,c1,c2,c3,c4,c5,c6,c7.1,c7.2,ZVC,ZVE,ZVG,ZVD,ZVR,ZVS,ZW9,ZVL]
       |false=>
        have c7':=c7;cases d1:n.Num==0<;>rw[d1]at c7'<;>(try simp only[ZVD]at c7')
        .cases c9:decide (n.Num>=1)with
         |false=>simp only[go_sem,c139,c1,c2,c3,c4,c5,c6,d1,c9,ZVC,ZVE,ZVG,ZVD,ZVR,ZVS,ZW9,ZVL]
         |true=>
          cases c10:decide (n.Num<n.Den)with
          |false=>simp only[go_sem,c139,c1,c2,c3,c4,c5,c6,d1,c9,c10,ZVC,ZVE,ZVG,ZVD,ZVR,ZVS,ZW9,ZVL]
          |true=>
           cases c11:decide (n.Den<=9)with
           |false=>simp only[go_sem,c139,c1,c2,c3,c4,c5,c6,d1,c9,c10,c11,ZVC,ZVE,ZVG,ZVD,ZVR,ZVS,ZW9,ZVL]
           |true=>
            have hcm:=ZQV (of_decide_eq_true c9) (of_decide_eq_true c10)<|of_decide_eq_true c11;simp only[go_sem,c139,c1,c2,c3,c4,c5,c6,d1,c9,c10,c11,hcm,ZVC,ZVE,ZVG,ZVD,ZVR,ZVS,ZW9,ZVL]
        .have z1:decide (n.Num>=1)=false:=decide_eq_false (by have:=eq_of_beq d1;omega)
         simp only[go_sem,c139,c1,c2,c3,c4,c5,c6,d1,c7',z1,ZVC,ZVE,ZVG,ZVD,ZVR,ZVS,ZW9,ZVL]
def ltI(x:Int):Bool:=(decide (x>=97)&&decide (x<=122))||(decide (x>=65)&&decide (x<=90))
def dgI(x:Int):Bool:=decide (x>=48)&&decide (x<=57)
def wdI(x:Int):Bool:=ltI x||(dgI x||x==95)
def ZQW(x:Int):pfn rE 218 [.int .u8 x]=some (.bool<|ltI x):=by
 rw[Z5 (f:=218) rfl rfl];unfold ltI;cases h1:decide (x>=97)<;>cases h2:decide (x<=122)<;>cases h3:decide (x>=65)<;>simp only[go_sem,c218,h1,h2,h3,ZVJ,ZVL,ZVD,ZVG,ZWe,ZW9,ZVR,ZVS]
def ZST(x:Int):pfn rE 253 [.int .u8 x]=some (.bool<|dgI x):=by
 rw[Z5 (f:=253) rfl rfl];unfold dgI;cases h1:decide (x>=48)<;>simp only[go_sem,c253,h1,ZVD,ZVG]
def ZQX(x:Int):pfn rE 217 [.int .u8 x]=some (.bool<|wdI x):=by
 rw[Z5 (f:=217) rfl rfl];unfold wdI;cases h1:ltI x<;>cases h2:dgI x<;>simp only[go_sem,c217,ZQW,ZST,h1,h2,ZVR,ZVS]
def wdB(b:UInt8):Bool:=wdI b.toNat
def ZOI(s:Str):Bool:=s.data.toList.all wdB&&(decide (0<s.size)&&(decide ((s.size:Int)<=24)&&ltI (Xc s 0)))
def ZOR{s:Str}{i:Nat}{b:UInt8}(h:s.data.toList[i]?=some b):s.data[i]?=some b/\i<s.size:=by
 constructor
 .simpa using h
 .have:=Z7 h;have e:s.data.toList.length=s.size:=ZWk;omega
def ZOy(s:Str):s.data.toList.length=s.size:=ZWk
def ZSU(s:Str)(hs:s.size<=1000000):pfn rE 134 [.str s]=some (.bool<|ZOI s):=by
 have L:=QT (E:=rE) (live:=[0,3]) (b:=c134L0b) (h:=[]) s.data.toList (λ_ x=>wdB x) (λi=>[(0,.str s),(3,I i)]) 0 (λfr=>get fr 0=.str s) (λfr=>get fr 2=.bool false) (λi=>rfl)
  (λi x hx hP=>by
   obtain⟨hg,hi0⟩:=ZOR hx;have hi:=Zh hi0;have hw:=Zx (n:=i)<|by omega
   have hn:((i:Int)).toNat=i:=rfl;have hi0':(0<=(i:Int))=True:=by simp
   have hP':wdI x.toNat=true:=hP;refine⟨_,by simp only[go_sem,c134L0b,hi,hw,hn,hg,hi0',ZQX,hP',if_true,ZVZ,ZVC];rfl,?_⟩
   simp only[go_sem])
  (λi x hx hP=>by
   obtain⟨hg,hi0⟩:=ZOR hx;have hi:=Zh hi0;have hn:((i:Int)).toNat=i:=rfl;have hi0':(0<=(i:Int))=True:=by simp
   have hP':wdI x.toNat=false:=hP;refine⟨_,by simp only[go_sem,c134L0b,hi,hn,hg,hi0',ZQX,hP',if_true,ZVZ,ZVE];rfl,?_⟩
   simp only[go_sem])
  (by
   rw[ZOy];exact⟨_,by simp only[go_sem,c134L0b,ZG];rfl,by simp only[go_sem]⟩)
 rw[QE]at L;obtain⟨fr',h1,h3,h2⟩:=L;have h1':Zg rE [0,3] c134L0b [(0,.str s),(3,.int .i64 0)] []=_:=h1;rw[Z5 (f:=134) rfl rfl];unfold ZOI;have e0:decide ((s.size:Int)>0)=decide (0<s.size):=by rw[decide_eq_decide];omega
 cases hc:s.data.toList.all wdB with
 |false=>rw[hc]at h1';simp only[go_sem,c134,c134L0,h1',h2 hc,ZVG,ZVI]
 |true=>
  rw[hc]at h1';have h3:=h3 hc;cases c1:decide (0<s.size)with
  |false=>simp only[go_sem,c134,c134L0,h1',h3,e0,c1,ZVG,ZVD]
  |true=>
   have hp:=of_decide_eq_true c1;have hg:=DQ (s:=s) (i:=0) hp;have ez:(0:Int).toNat=0:=rfl;cases c2:decide ((s.size:Int)<=24)with
   |false=>simp only[go_sem,c134,c134L0,h1',h3,e0,c1,c2,ZVG,ZVD]
   |true=>simp only[go_sem,c134,c134L0,h1',h3,e0,c1,c2,hg,ez,ZQW,Xc,ZVD,Int.le_refl,if_true,ZVZ]
def ZSV:∀k:Fin 256,[3,4,5].any (λx=>K1 k.val==x)=wdI k.val:=by decide +kernel
def ZSW:∀k:Fin 256,(K1 k.val==3)=ltI k.val:=by decide +kernel
def ZQY{s:Str}{i:Nat}(h:i<s.size):atT s i=K1 (Xc s i):=by
 unfold atT;have:decide ((i:Int)>=(s.size:Int))=false:=decide_eq_false<|by omega
 rw[this,cond_false]
def ZQZ{s:Str}{i:Nat}(h:i<s.size):[3,4,5].any (λx=>atT s i==x)=wdI (Xc s i):=by
 rw[ZQY h];exact ZSV ⟨Xc s i,DP s i⟩
def ZR0{s:Str}{i:Nat}(h:i<s.size):(atT s i==3)=ltI (Xc s i):=by
 rw[ZQY h];exact ZSW ⟨Xc s i,DP s i⟩
def ZR1(s:Str)(cs:List Int):∀k i j,i<=j->j<Xd s cs k i->cs.any (λx=>atT s j==x)=true
 |0,i,j,h1,h2=>by rw[Xd]at h2;omega
 |k+1,i,j,h1,h2=>by
  rw[Xd]at h2;cases c:decide ((i:Int)<(s.size:Int))&&cs.any (λx=>atT s i==x)with
  |false=>rw[c,cond_false]at h2;omega
  |true=>
   rw[c,cond_true]at h2;by_cases e:i=j
   .subst e;rw[ZVB]at c;exact c.2
   .exact ZR1 s cs k (i+1) j (by omega) h2
def ZR2(s:Str)(cs:List Int)(h:∀j,j<s.size->cs.any (λx=>atT s j==x)=true):∀k i,i+k=s.size->Xd s cs k i=s.size
 |0,i,e=>by rw[Xd];omega
 |k+1,i,e=>by
  rw[Xd,h i (by omega),decide_eq_true (by omega),ZVD,cond_true]
  exact ZR2 s cs h k (i+1)<|by omega
def ZR3(s:Str):∀k i out,(Xf s k i out).toks=[]\/∃r,(Xf s k i out).toks=out++r
 |0,i,out=>Or.inl rfl
 |k+1,i,out=>by
  unfold Xf;cases decide ((i:Int)<(s.size:Int))with
  |false=>exact Or.inr ⟨[],by simp⟩
  |true=>
   rw[cond_true];cases ND (We s i) out != 0 with
   |true=>exact Or.inl rfl
   |false=>
    rw[cond_false];rcases ZR3 s k (YP s (We s i).stop.toNat) (out++[(We s i).tok])with h|⟨r,h⟩
    .exact Or.inl h
    .exact Or.inr ⟨(We s i).tok::r,by rw[h];simp⟩
def ZSX{s:Str}{i:Nat}(h:(We s i).tok.bq=1):(atT s i==3)=true/\(We s i).tok.Text=ZX s i (ZI s [3,4,5] i)/\decide (W ((ZI s [3,4,5] i:Int)-(i:Int))>24)=false:=by
 unfold We at h⊢;generalize(atT s i==3)=a1 at h⊢;generalize(atT s i==4)=a2 at h⊢;generalize(atT s i==6)=a3 at h⊢;generalize(atT s i==7)=a4 at h⊢;generalize(atT s i==8)=a5 at h⊢;generalize(atT s i==9)=a6 at h⊢;generalize H4 s i=a7 at h⊢;generalize decide (quN s i>400)=a8 at h⊢;generalize Xe (ZX s (i+1) s.size) (B [61])=a9 at h⊢;generalize(decide (W ((ZI s [4] i:Int)-(i:Int))>13)||(atT s (ZI s [4] i)==3||atT s (ZI s [4] i)==5))=b1 at h⊢;generalize decide (W ((ZI s [3,4,5] i:Int)-(i:Int))>24)=b2 at h⊢;cases a1 with
 |true=>
  cases b2 with
  |true=>(simp only[cond_true,cond_false,ZW9,ZWe,Yw]at h;omega)
  |false=>exact⟨rfl,rfl,rfl⟩
 |false=>
  cases a2 with
  |true=>cases b1<;>(simp only[cond_true,cond_false,ZW9,ZWe,Yw]at h;omega)
  |false=>
   cases a3 with
   |true=>cases a7<;>cases a8<;>(simp only[cond_true,cond_false,ZW9,ZWe,Yw]at h;omega)
   |false=>
    cases a4<;>cases a5<;>cases a9<;>cases a6<;>(simp only[cond_true,cond_false,ZW9,ZWe,Yw]at h;omega)
def ZSY{s:Str}(h:ZZ s=true):s.size<=20000:=by
 unfold ZZ at h;rw[ZVB]at h;unfold Up at h;cases hd:decide ((s.size:Int)>20000)with
 |true=>rw[hd]at h;simp at h
 |false=>have:=of_decide_eq_false hd;omega
def ZSZ{s:Str}(h:ZZ s=true):∃i,(We s i).tok.bq=1/\(We s i).tok.Text=s/\i<s.size:=by
 unfold ZZ at h;rw[ZVB]at h;obtain⟨h1,h2⟩:=h;unfold Up at h1 h2;cases hd:decide ((s.size:Int)>20000)with
 |true=>rw[hd]at h1;simp at h1
 |false=>
  rw[hd,cond_false]at h1 h2;refine⟨YP s 0,?_⟩;unfold Xf at h2;cases hi:decide (((YP s 0:Nat):Int)<(s.size:Int))with
  |false=>rw[hi]at h2;simp at h2
  |true=>
   rw[hi,cond_true]at h2;cases he:ND (We s<|YP s 0) [] != 0 with
   |true=>rw[he]at h2;simp at h2
   |false=>
    rw[he,cond_false]at h2;rcases ZR3 s s.size (YP s (We s<|YP s 0).stop.toNat) ([]++[(We s<|YP s 0).tok])with k|⟨r,k⟩
    .rw[k]at h2;simp at h2
    .rw[k]at h2;cases r with
     |cons a r=>simp at h2
     |nil=>
      simp only[ZWb,ZWS,ZVB]at h2;have hlt:=of_decide_eq_true hi;exact⟨eq_of_beq h2.1,(Ky _ _).1 h2.2,by omega⟩
def ZT0{s:Str}(h:ZZ s=true):ZOI s=true:=by
 obtain⟨i,h1,h2,hi⟩:=ZSZ h;obtain⟨h0,h3,h4⟩:=ZSX h1;have hz:=ZSY h;have hle:=K3 s [3,4,5] (i:=i)<|by omega
 have hge:=K2 s [3,4,5] i;have hsz:(ZX s i<|ZI s [3,4,5] i).size=ZI s [3,4,5] i-i:=by rw[ByteArray.size_extract];omega
 have he:ZI s [3,4,5] i-i=s.size:=by rw[<-hsz,<-h3,h2]
 have hi0:i=0:=by omega
 subst hi0;have hW:W ((ZI s [3,4,5] 0:Int)-((0:Nat):Int))=(ZI s [3,4,5] 0:Int)-((0:Nat):Int):=YM (by omega)<|by omega
 rw[hW]at h4;have h4':=of_decide_eq_false h4;unfold ZOI;rw[ZVB,ZVB,ZVB];refine⟨?_,decide_eq_true hi,decide_eq_true (by omega),by rw[<-ZR0 hi];exact h0⟩
 rw[ZVT];intro b hb;obtain⟨m,hm⟩:=ZXi.1 hb;obtain⟨hg,hml⟩:=ZOR hm;have hin:=ZR1 s [3,4,5] (s.size-0) 0 m (by omega)<|by unfold ZI at he;omega
 rw[ZQZ hml]at hin;have e:Xc s m=b.toNat:=by unfold Xc;rw[ZWi,hg];rfl
 rw[e]at hin;exact hin
def ZT1(s:Str):YP s s.size=s.size:=by
 unfold YP;have e:ZI s [1] s.size=s.size:=by unfold ZI;rw[ZX2,Xd]
 rw[e];unfold K4;have:atT s s.size=0:=by unfold atT;rw[decide_eq_true (by omega),cond_true]
 rw[this];rfl
def ZT2{s:Str}(h:ZOI s=true):ZZ s=true:=by
 unfold ZOI at h;rw[ZVB,ZVB,ZVB]at h;obtain⟨h1,h2,h3,h4⟩:=h;have hp:=of_decide_eq_true h2;have h24:=of_decide_eq_true h3;have hall:∀j,j<s.size->[3,4,5].any (λx=>atT s j==x)=true:=λj hj=>by
  rw[ZQZ hj];have hg:=DQ hj;have hm:s.data.getD j 0∈s.data.toList:=by
   rw[ZXi];exact⟨j,by simpa using hg⟩
  exact ZVT.1 h1 _ hm
 have ha:(atT s 0==3)=true:=by rw[ZR0 hp];exact h4
 have ha':atT s 0=3:=eq_of_beq ha;have hw0:ZI s [1] 0=0:=by
  rw[NB s [1] hp,ha'];rfl
 have hg0:YP s 0=0:=by
  unfold YP;rw[hw0];unfold K4;rw[ha'];rfl
 have hW:ZI s [3,4,5] 0=s.size:=by unfold ZI;exact ZR2 s _ hall _ 0<|by omega
 have hd:decide (W (((s.size:Nat):Int)-((0:Nat):Int))>24)=false:=by
  have:W (((s.size:Nat):Int)-((0:Nat):Int))=(s.size:Int)-((0:Nat):Int):=YM (by omega)<|by omega
  rw[this];exact decide_eq_false<|by omega
 have hn:We s 0=⟨⟨1,((0:Nat):Int),0,s⟩,s.size,0⟩:=by
  unfold We;rw[ha,cond_true,hW,hd,cond_false];have:ZX s 0 s.size=s:=ByteArray.extract_zero_size;rw[this]
 have hl:Up s=⟨[⟨1,((0:Nat):Int),0,s⟩],0,0⟩:=by
  unfold Up;rw[decide_eq_false (by omega),cond_false,hg0]
  unfold Xf;rw[decide_eq_true (by omega),cond_true,hn]
  have e:(ND ⟨⟨1,((0:Nat):Int),0,s⟩,s.size,0⟩ [] != 0)=false:=rfl;rw[e,cond_false];have e2:((⟨⟨1,((0:Nat):Int),0,s⟩,(s.size:Int),0⟩:Nx).stop).toNat=s.size:=rfl;rw[e2,ZT1];obtain⟨k,hk⟩:∃k,s.size=k+1:=⟨s.size-1,by omega⟩
  have e3:∀out,Xf s s.size s.size out=⟨out,0,0⟩:=λout=>by
   generalize hz:s.size=z at*;rw[hk];unfold Xf;rw[hz,decide_eq_false (by omega),cond_false]
  rw[e3];rfl
 unfold ZZ;rw[hl];simp[Ky]
def ZT3(s:Str):ZOI s=ZZ s:=by
 cases h:ZZ s with
 |true=>exact ZT0 h
 |false=>
  cases h2:ZOI s with
  |false=>rfl
  |true=>rw[ZT2 h2]at h;cases h
def ZOi(s:Str)(hs:s.size<=1000000):pfn rE 134 [.str s]=some (.bool<|ZZ s):=by rw[ZSU s hs,ZT3]
def skB(s:Str)(bl:Bool)(i:Nat)(x:UInt8):Bool:=((x.toNat:Int)==32)&&(bl&&(decide ((i:Int)>0)&&(decide (((i+1:Nat):Int)<(s.size:Int))&&((Xc s (i-1):Int) != 32))))
def ZOj(s:Str)(bl:Bool)(i:Nat)(x:UInt8):Bool:=skB s bl i x||!H7 x.toNat
def plT(s:Str)(lo hi:Int)(bl:Bool):Bool:=Zu (ZOj s bl) 0 s.data.toList&&(decide ((s.size:Int)>=lo)&&decide ((s.size:Int)<=hi))
def ZR4(s:Str)(lo hi:Int)(bl:Bool)(hs:s.size<=1000000):pfn rE 141 [.str s,I lo,I hi,.bool bl]=some (.bool<|plT s lo hi bl):=by
 have L:=QT (E:=rE) (live:=[0,1,2,3,9]) (b:=c141L0b) (h:=[]) s.data.toList (ZOj s bl) (λi=>[(0,.str s),(1,I lo),(2,I hi),(3,.bool bl),(9,I i)]) 0
  (λfr=>get fr 0=.str s/\get fr 1=I lo/\get fr 2=I hi) (λfr=>get fr 8=.bool false) (λi=>rfl)
  (λi x hx hP=>by
   obtain⟨hg,hi0⟩:=ZOR hx;have hi:=Zh hi0;have hw:=Zx (n:=i)<|by omega
   have hn:((i:Int)).toNat=i:=rfl;have hi0':(0<=(i:Int))=True:=by simp
   unfold ZOj at hP;cases hk:skB s bl i x with
   |true=>
    unfold skB at hk;simp only[ZVB]at hk;obtain⟨c1,rfl,c3,c4,c5⟩:=hk;rcases i with _|j
    .cases c3
    .have hgj:=DQ (s:=s) (i:=j) (by omega)
     have hs1:IntKind.i64.wrap (((j+1:Nat):Int)-1)=((j:Nat):Int):=by rw[YM (by omega)<|by omega];omega
     have hnj:((j:Int)).toNat=j:=rfl;have hj0:(0<=(j:Int))=True:=by simp
     have c5':(((s.data.getD j 0).toNat:Int) != 32)=true:=c5;refine⟨_,by simp only[go_sem,c141L0b,hi,hw,hn,hg,hi0',c1,c3,c4,hs1,hnj,hj0,hgj,c5',if_true,ZVZ];rfl,?_⟩
     simp only[go_sem]
   |false=>
    rw[hk,ZVS,ZVW]at hP;unfold H7 at hP;simp only[ZXc]at hP;obtain⟨⟨d1,d2⟩,d3⟩:=hP;have c1:((x.toNat:Int)==32)=false:=by
     have:=of_decide_eq_false d1;rw[beq_eq_false_iff_ne];omega
    refine⟨_,by simp only[go_sem,c141L0b,hi,hw,hn,hg,hi0',c1,d1,d2,d3,if_true,ZVZ];rfl,?_⟩
    simp only[go_sem])
  (λi x hx hP=>by
   obtain⟨hg,hi0⟩:=ZOR hx;have hi:=Zh hi0;have hw:=Zx (n:=i)<|by omega
   have hn:((i:Int)).toNat=i:=rfl;have hi0':(0<=(i:Int))=True:=by simp
   unfold ZOj at hP;rw[ZXc,ZX5]at hP;obtain⟨hk,ho⟩:=hP;unfold H7 at ho;unfold skB at hk;cases c1:((x.toNat:Int)==32)with
   |false=>
    cases d1:decide ((x.toNat:Int)<33)with
    |true=>
     refine⟨_,by simp only[go_sem,c141L0b,hi,hn,hg,hi0',c1,d1,if_true,ZVZ];rfl,?_⟩
     simp only[go_sem]
    |false=>
     cases d2:decide ((x.toNat:Int)>126)with
     |true=>
      refine⟨_,by simp only[go_sem,c141L0b,hi,hn,hg,hi0',c1,d1,d2,if_true,ZVZ];rfl,?_⟩
      simp only[go_sem]
     |false=>
      rw[d1,d2,ZVS,ZVS]at ho;refine⟨_,by simp only[go_sem,c141L0b,hi,hn,hg,hi0',c1,d1,d2,ho,if_true,ZVZ];rfl,?_⟩
      simp only[go_sem]
   |true=>
    have d1:decide ((x.toNat:Int)<33)=true:=by have:=eq_of_beq c1;exact decide_eq_true<|by omega
    rw[c1,ZVD]at hk;cases bl with
    |false=>
     refine⟨_,by simp only[go_sem,c141L0b,hi,hn,hg,hi0',c1,d1,if_true,ZVZ];rfl,?_⟩
     simp only[go_sem]
    |true=>
     rcases i with _|j
     .have h0:decide (((0:Nat):Int)>0)=false:=rfl;refine⟨_,by simp only[go_sem,c141L0b,hi,hn,hg,hi0',c1,d1,h0,if_true,ZVZ];rfl,?_⟩
      simp only[go_sem]
     .have h0:decide (((j+1:Nat):Int)>0)=true:=decide_eq_true (by omega)
      rw[h0,ZVD,ZVD]at hk;cases c4:decide (((j+1+1:Nat):Int)<(s.size:Int))with
      |false=>
       refine⟨_,by simp only[go_sem,c141L0b,hi,hw,hn,hg,hi0',c1,d1,h0,c4,if_true,ZVZ];rfl,?_⟩
       simp only[go_sem]
      |true=>
       rw[c4,ZVD]at hk;have hgj:=DQ (s:=s) (i:=j)<|by omega
       have hs1:IntKind.i64.wrap (((j+1:Nat):Int)-1)=((j:Nat):Int):=by rw[YM (by omega)<|by omega];omega
       have hnj:((j:Int)).toNat=j:=rfl;have hj0:(0<=(j:Int))=True:=by simp
       have c5':(((s.data.getD j 0).toNat:Int) != 32)=false:=hk;refine⟨_,by simp only[go_sem,c141L0b,hi,hw,hn,hg,hi0',c1,d1,h0,c4,hs1,hnj,hj0,hgj,c5',if_true,ZVZ];rfl,?_⟩
       simp only[go_sem])
  (by
   rw[ZOy];exact⟨_,by simp only[go_sem,c141L0b,ZG];rfl,by simp only[go_sem],by simp only[go_sem],by simp only[go_sem]⟩)
 obtain⟨fr',h1,h3,h2⟩:=L;have h1':Zg rE [0,1,2,3,9] c141L0b [(0,.str s),(1,I lo),(2,I hi),(3,.bool bl),(9,.int .i64 0)] []=_:=h1;rw[Z5 (f:=141) rfl rfl];unfold plT;cases hc:Zu (ZOj s bl) 0 s.data.toList with
 |false=>rw[hc]at h1';simp only[go_sem,c141,c141L0,h1',h2 hc,ZVG,ZVI]
 |true=>
  rw[hc]at h1';obtain⟨g0,g1,g2⟩:=h3 hc;cases c1:decide ((s.size:Int)>=lo)<;>simp only[go_sem,c141,c141L0,h1',g0,g1,g2,c1,ZVG,ZVD]
def ZT4(s:Str)(hs:s.size<=1000000):pfn rE 224 [.str s]=some (.bool<|plT s 1 60 true):=by
 rw[Z5 (f:=224) rfl rfl];simp only[go_sem,c224,ZR4 s _ _ _ hs]
def vlB(s:Str):Bool:=s.data.toList.all (λb=>!H8 b.toNat)&&(decide ((s.size:Int)>=1)&&decide ((s.size:Int)<=60))
def ZT5(s:Str)(hs:s.size<=1000000):pfn rE 144 [.str s]=some (.bool<|vlB s):=by
 have L:=QT (E:=rE) (live:=[0,3]) (b:=c144L0b) (h:=[]) s.data.toList (λ_ b=>!H8 b.toNat) (λi=>[(0,.str s),(3,I i)]) 0 (λfr=>get fr 0=.str s) (λfr=>get fr 2=.bool false) (λi=>rfl)
  (λi x hx hP=>by
   obtain⟨hg,hi0⟩:=ZOR hx;have hi:=Zh hi0;have hw:=Zx (n:=i)<|by omega
   have hn:((i:Int)).toNat=i:=rfl;have hi0':(0<=(i:Int))=True:=by simp
   unfold H8 at hP;have hy:∃y:Int,((x.toNat:Nat):Int)=y:=⟨_,rfl⟩;obtain⟨y,hy⟩:=hy;rw[hy]at hP;cases c1:decide (y<48)<;>cases c2:decide (y>57)<;>cases c3:decide (y<97)<;>cases c4:decide (y>122)<;>cases c5:decide (y<65)<;>cases c6:decide (y>90)<;>rw[c1,c2,c3,c4,c5,c6]at hP<;>first
    |exact absurd hP<|by decide
    |(refine⟨_,by simp only[go_sem,c144L0b,hi,hw,hn,hg,hi0',hy,c1,c2,c3,c4,c5,c6,if_true,ZVZ];rfl,?_⟩;simp only[go_sem]))
  (λi x hx hP=>by
   obtain⟨hg,hi0⟩:=ZOR hx;have hi:=Zh hi0;have hn:((i:Int)).toNat=i:=rfl;have hi0':(0<=(i:Int))=True:=by simp
   unfold H8 at hP;have hy:∃y:Int,((x.toNat:Nat):Int)=y:=⟨_,rfl⟩;obtain⟨y,hy⟩:=hy;rw[hy]at hP;cases c1:decide (y<48)<;>cases c2:decide (y>57)<;>cases c3:decide (y<97)<;>cases c4:decide (y>122)<;>cases c5:decide (y<65)<;>cases c6:decide (y>90)<;>rw[c1,c2,c3,c4,c5,c6]at hP<;>first
    |exact absurd hP<|by decide
    |(refine⟨_,by simp only[go_sem,c144L0b,hi,hn,hg,hi0',hy,c1,c2,c3,c4,c5,c6,if_true,ZVZ];rfl,?_⟩;simp only[go_sem]))
  (by
   rw[ZOy];exact⟨_,by simp only[go_sem,c144L0b,ZG];rfl,by simp only[go_sem]⟩)
 obtain⟨fr',h1,h3,h2⟩:=L;have h1':Zg rE [0,3] c144L0b [(0,.str s),(3,.int .i64 0)] []=_:=h1;rw[Z5 (f:=144) rfl rfl];unfold vlB;rw[QE]at*;cases hc:s.data.toList.all (λb=>!H8 b.toNat)with
 |false=>rw[hc]at h1';simp only[go_sem,c144,c144L0,h1',h2 hc,ZVG,ZVI]
 |true=>
  rw[hc]at h1';have h3:=h3 hc;cases c1:decide ((s.size:Int)>=1)<;>simp only[go_sem,c144,c144L0,h1',h3,c1,ZVG,ZVD]
def ZT6(s:Str)(i:Nat)(h:Xc s i<128):Utf8.decode s i=(Xc s i,1):=by
 have e:(s.get! i).toNat=Xc s i:=rfl;unfold Utf8.decode;simp only[ZWg,e,h,if_true]
def ZT7(s:Str)(i:Nat)(h:128<=Xc s i):128<=(Utf8.decode s i).1:=by
 have e:(s.get! i).toNat=Xc s i:=rfl;unfold Utf8.decode;have h':¬Xc s i<128:=by omega
 have he:Utf8.runeError=65533:=rfl;simp only[ZWg,e,h',if_false,he];split
 .split<;>simp_all
 .split
  .split<;>simp_all<;>omega
  .split
   .split<;>simp_all<;>omega
   .simp
def ZR5(p:Int->Bool)(hp:∀c:Nat,128<=c->p c=true)(s:Str):∀k i,s.size-i<k->decide (XI p s k i>=0)=(s.data.toList.drop i).any (λb=>p b.toNat)
 |0,i,h=>by omega
 |k+1,i,h=>by
  unfold XI;by_cases hi:i<s.size
  .have hb:Nat.blt i s.size=true:=by rw[N7];exact decide_eq_true hi
   have hl:i<s.data.toList.length:=by rw[ZOy];exact hi
   have hb0:Xc s i=(s.data.toList[i]'hl).toNat:=by
    unfold Xc;rw[ZWi,<-ZWQ,ZVH hl];rfl
   rw[hb,cond_true,ZX8 hl,ZWF,<-hb0];by_cases h8:Xc s i<128
   .rw[ZT6 s i h8];cases hc:p (Xc s i)with
    |true=>simp
    |false=>
     rw[cond_false,ZVS];exact ZR5 p hp s k (i+1)<|by omega
   .have h8':128<=Xc s i:=by omega
    rw[hp _<|ZT7 s i h8',hp _ h8'];simp
  .have hb:Nat.blt i s.size=false:=by rw[N7];exact decide_eq_false hi
   rw[hb,cond_false,ZYo<|by rw[ZOy];omega]
   rfl
def ZPR(p:Int->Bool)(hp:∀c:Nat,128<=c->p c=true)(s:Str):H6 p s=s.data.toList.any (λb=>p b.toNat):=by
 unfold H6;rw[ZR5 p hp s _ 0 (by omega),ZX1]
def ZR6(c:Nat)(h:128<=c):H7 c=true:=by
 unfold H7;rw[decide_eq_true (show(c:Int)>126 by omega)];simp
def ZT8(c:Nat)(h:128<=c):H8 c=true:=by
 unfold H8;rw[decide_eq_true (show(c:Int)>57 by omega),decide_eq_true (show(c:Int)>122 by omega),decide_eq_true (show(c:Int)>90 by omega)];simp
def ZPS(s:Str):(!Z3 s emp)=decide ((s.size:Int)>=1):=by
 cases h:Z3 s emp with
 |true=>
  rw[(Ky _ _).1 h];rfl
 |false=>
  symm
  rw[ZVE,decide_eq_true_eq];have:s.size≠0:=λe=>by
   have:s=emp:=ByteArray.ext<|ZXy e;rw[this,(Ky _ _).2 rfl]at h;cases h
  omega
def ZP0{α:Type}(p:α->Bool)(l:List α):l.all (λb=>!p b) = !l.any p:=by
 induction l with
 |nil=>rfl
 |cons a r ih=>simp[ih]
def ZT9(s:Str)(hs:s.size<=1000000):pfn rE 144 [.str s]=some (.bool<|Uu s):=by
 rw[ZT5 s hs];unfold vlB Uu;rw[ZPS,ZPR H8 ZT8,ZP0 (λb:UInt8=>H8 b.toNat)]
 cases s.data.toList.any (λb:UInt8=>H8 b.toNat)<;>simp
def ZOq(b:UInt8):Bool:=!H7 b.toNat
def gdW(w:List UInt8):Bool:=!w.isEmpty&&w.all ZOq
def gT:Bool->List UInt8->Bool
 |st,[]=>!st
 |st,x::r=>bif x==32 then !st&&gT true r else ZOq x&&gT false r
def ZPT:List (List UInt8)->Bool
 |[]=>true
 |w::ws=>w.all ZOq&&ws.all gdW
def Z6q:ZOq 32=false:=rfl
def ZR7:∀l:List UInt8,gT true l=(Q4 32 l).all gdW/\gT false l=ZPT (Q4 32 l)
 |[]=>⟨rfl,rfl⟩
 |x::r=>by
  obtain⟨h1,h2⟩:=ZR7 r;unfold gT Q4;cases hx:x==32 with
  |true=>rw[cond_true,cond_true,cond_true,h1];exact⟨rfl,rfl⟩
  |false=>
   rw[cond_false,cond_false,cond_false,h2];cases hs:Q4 32 r with
   |nil=>simp[ZPT,gdW]
   |cons w ws=>simp[ZPT,gdW,ZWV]
def ZPU(c:UInt8):∀(l:List UInt8),∀w∈Q4 c l,w.length<=l.length
 |[],w,h=>by simp[Q4]at h;subst h;simp
 |x::r,w,h=>by
  unfold Q4 at h;cases hx:x==c with
  |true=>
   rw[hx,cond_true]at h;rcases ZVX.1 h with rfl|h
   .simp
   .have:=ZPU c r w h;simp;omega
  |false=>
   rw[hx,cond_false]at h;have ih:=ZPU c r;cases hs:Q4 c r with
   |nil=>rw[hs]at h;simp at h;subst h;simp
   |cons v vs=>
    rw[hs]at h ih;rcases ZVX.1 h with rfl|h
    .have:=ih v (by simp);simp;omega
    .have:=ih w (by simp[h]);simp;omega
def ZOk{α:Type}{p q:α->Bool}:∀{l:List α},(∀x∈l,p x=q x)->l.all p=l.all q
 |[],_=>rfl
 |a::r,h=>by rw[ZWn,ZWn,h a (by simp),ZOk λx hx=>h x<|by simp[hx]]
def ZTa{w:List UInt8}:(!w.isEmpty)=decide ((w.length:Int)>=1):=by
 cases w with
 |nil=>rfl
 |cons a r=>simp;omega
def ZTb(w:List UInt8)(h:w.length<=60):(!H9 ⟨⟨w⟩⟩)=gdW w:=by
 have hz:ByteArray.size ⟨⟨w⟩⟩=w.length:=rfl;unfold H9 Jm gdW;rw[ZXT,ZPS,ZPR H7 ZR6,hz,ZTa,decide_eq_true (show(w.length:Int)<=60 by omega),ZVD]
 show(_&&!w.any (λb:UInt8=>H7 b.toNat))=_
 unfold ZOq;rw[ZP0 (λb:UInt8=>H7 b.toNat)]
def ZTc(s:Str):Uv s=(decide ((s.size:Int)<=60)&&gT true s.data.toList):=by
 unfold Uv;cases h:decide ((s.size:Int)<=60)with
 |false=>rfl
 |true=>
  rw[ZVD,ZVD,(ZR7 _).1,<-ZP0];unfold Yy;rw[ZXU];apply ZOk;intro w hw;have:=ZPU 32 _ w hw;rw[ZOy]at this;exact ZTb w (by have:=of_decide_eq_true h;omega)
def ZR8(s:Str):∀(l:List UInt8)(i:Nat),s.data.toList.drop i=l->l≠[]->Zu (ZOj s true) i l=gT (decide (i=0)||Xc s (i-1)==32) l
 |[],i,h,hn=>absurd rfl hn
 |x::r,i,h,_=>by
  have hlen:s.data.toList.length-i=r.length+1:=by rw[<-ZXv,h];rfl
  rw[ZOy]at hlen;have hx:s.data.toList[i]?=some x:=by
   have:=ZX9 (xs:=s.data.toList) (i:=i) (j:=0);rw[h]at this;simpa using this.symm
  have hb:Xc s i=x.toNat:=by
   unfold Xc;rw[ZWi,<-ZWQ,hx];rfl
  have hr:s.data.toList.drop (i+1)=r:=by
   rw[<-ZWN,h];rfl
  have e32:((x.toNat:Int)==32)=(x==32):=by
   rw[ZW1,beq_iff_eq,beq_iff_eq];constructor
   .intro e;apply UInt8.toNat_inj.1;have:(32:UInt8).toNat=32:=rfl;omega
   .intro e;rw[e];rfl
  have e33:(Xc s i==32)=(x==32):=by
   rw[hb,<-e32,ZW1,beq_iff_eq,beq_iff_eq];omega
  have eo:H7 x.toNat = !ZOq x:=by unfold ZOq;rw[ZXT]
  show(ZOj s true i x&&Zu (ZOj s true) (i+1) r)=_
  rw[show ZOj s true i x=(skB s true i x||!H7 x.toNat)from rfl]
  unfold gT skB;rw[e32,eo,ZXT];cases r with
  |nil=>
   have hsz:decide (((i+1:Nat):Int)<(s.size:Int))=false:=by rw[decide_eq_false_iff_not];simp at hlen;omega
   rw[hsz];cases hx2:x==32 with
   |true=>rw[eq_of_beq hx2,Z6q];simp[gT,Zu]
   |false=>simp[gT,Zu]
  |cons y r'=>
   have hsz:decide (((i+1:Nat):Int)<(s.size:Int))=true:=by rw[decide_eq_true_iff];simp at hlen;omega
   have ih:=ZR8 s (y::r') (i+1) hr<|by simp
   have e1:decide (i+1=0)=false:=by simp
   rw[ih,hsz,e1,ZVS,Nat.add_sub_cancel,e33];cases hx2:x==32 with
   |false=>simp
   |true=>
    rw[eq_of_beq hx2,Z6q,cond_true,ZVD,ZVD,ZVD,ZW9];have:(decide ((i:Int)>0)&&((Xc s (i-1):Int) != 32)) = !(decide (i=0)||Xc s (i-1)==32):=by
     rw[Bool.not_or,<-decide_not];congr 1
     .rw[decide_eq_decide];omega
     .rw[bne,Bool.not_eq_eq_eq_not,ZXT,ZW1,beq_iff_eq,beq_iff_eq];omega
    rw[this]
def ZTd(s:Str):plT s 1 60 true=Uv s:=by
 rw[ZTc];unfold plT;cases hl:s.data.toList with
 |nil=>
  have:s.size=0:=by rw[<-ZOy,hl];rfl
  rw[this];rfl
 |cons x r=>
  have hp:decide ((s.size:Int)>=1)=true:=by
   rw[decide_eq_true_iff,<-ZOy,hl,ZVU];omega
  rw[<-hl,ZR8 s s.data.toList 0 rfl (by rw[hl];simp),hp,ZVD,Bool.and_comm]
  rfl
def ZTe(s:Str)(hi:Int):plT s 1 hi false=Jm s hi:=by
 have e:ZOj s false=λ_ x=>ZOq x:=by
  funext i x
  unfold ZOj skB ZOq;simp
 unfold plT Jm;rw[e,QE,ZPS,ZPR H7 ZR6];unfold ZOq;rw[ZP0 (λb:UInt8=>H7 b.toNat)]
 cases s.data.toList.any (λb:UInt8=>H7 b.toNat)<;>simp
def ZR9(s:Str)(hs:s.size<=1000000):pfn rE 224 [.str s]=some (.bool<|Uv s):=by rw[ZT4 s hs,ZTd]
def ZTf(s:Str)(hi:Int)(hs:s.size<=1000000):pfn rE 141 [.str s,.int .i64 1,I hi,.bool false]=some (.bool<|Jm s hi):=by
 rw[<-ZTe];exact ZR4 s 1 hi false hs
def QM(a b c:Int):Bool:=ZD a 0 63&&(ZD b (-1) 100000&&ZD c 0 100000)
def Qc(a b c:Int):pfn rE 32 [I a,I b,I c]=some (.bool<|QM a b c):=by
 rw[Z5 (f:=32) rfl rfl];unfold QM;cases h1:ZD a 0 63<;>cases h2:ZD b (-1) 100000<;>simp only[go_sem,c32,DY,h1,h2]
def Wg(k:Int)(e:Gt)(hs:EvS e):pfn rE 57 [I k,evA e]=some (.bool<|Q9 {e with bq:=k}):=by
 have h:=NH {e with bq:=k} ⟨hs.ids,hs.names,hs.path,hs.lst,hs.id,hs.other,hs.text⟩
 rw[Z5 (f:=57) rfl rfl];simp only[go_sem,c57,h]
def Jo(l:List Nm)(ex:Bool):Gt:=⟨3,0,0,0,0,B [120],emp,emp,⟨false,[]⟩,⟨ex,l⟩,⟨0,emp,0,0⟩,⟨0,0⟩,⟨false,[]⟩,⟨false,[]⟩⟩
def Jp(l:List Nm)(ex:Bool):Bool:=(l.length:Int)==0||Q9 (Jo l ex)
def Hc(l:List Nm)(ex:Bool)(hl:l.length<=100):pfn rE 56 [.isl false ex 3<|l.map Nm.enc]=some (.bool<|Jp l ex):=by
 have h:=NH (Jo l ex) ⟨by simp[Jo],hl,by simp[Jo],by simp[Jo],ZW3 rfl,ZW3 rfl,ZW3 rfl⟩
 have h':pfn rE 33 [.agg [I 3,I 0,I 0,I 0,I 0,.str<|B [120],.str emp,.str emp,.isl false false 1 [],.isl false ex 3<|l.map Nm.enc,I 0,.str emp,I 0,I 0,I 0,I 0,.isl false false 2 [],.isl false false 7 []]]=some (.bool<|Q9<|Jo l ex):=h;rw[Z5 (f:=56) rfl rfl];unfold Jp;cases c:(l.length:Int)==0<;>simp only[go_sem,c56,c,h']
def Jq(l:List Str):Bool:=(((Ys<|Yk<|l.map encS).length:Nat):Int)==(l.length:Int)
def Fe(x:AV):∀l,(Vb x l).length=l.length+1
 |[]=>rfl
 |y::r=>by unfold Vb;cases GP x y<;>simp[Fe x r]
def Ff:∀l,(Yk l).length=l.length
 |[]=>rfl
 |x::r=>by unfold Yk;rw[Fe,Ff r,ZVU]
def Fg(p:AV->Bool)(x:AV):∀l,(Vb x l).all p=(p x&&l.all p)
 |[]=>rfl
 |y::r=>by
  unfold Vb;cases GP x y with
  |true=>rfl
  |false=>
   rw[cond_false,ZWn,Fg p x r,ZWn];cases p x<;>cases p y<;>rfl
def Fh(p:AV->Bool):∀l,(Yk l).all p=l.all p
 |[]=>rfl
 |x::r=>by unfold Yk;rw[Fg,Fh p r,ZWn]
def Fi:∀m:List AV,(Ys m).length<=m.length
 |[]=>by simp[Ys]
 |a::r=>by
  have ih:=Fi r;unfold Ys;cases h:Ys r with
  |nil=>simp
  |cons b t=>rw[h]at ih;simp at ih⊢;cases sameKey a b<;>simp<;>omega
def Fj(l:List Str)(ex:Bool)(hlen:l.length<=1000000):pfn rE 59 [.isl false ex 1<|l.map encS]=some (.bool<|Jq l):=by
 have hble:Nat.ble l.length 1000000=true:=ZWT hlen;have hfit:(l.map encS).all (fits 1)=true:=by rw[ZXU,ZVT];intro x _;rfl
 have hstr:(l.map encS).all WB=true:=by rw[ZXU,ZVT];intro x _;rfl
 have h1:fnV rE 156 [.isl false ex 1<|l.map encS] []=some (.sl 0 l.length 0 l.length false,[.row 1<|l.map encS]):=by
  rw[V8 (s:=J9) rfl];simp only[J9,Q2,Qq,hfit,ZVA,hble,beq_self_eq_true,ZVR,ZVJ,cond_true,ZWb,ZWs]
 have h2:fnV rE 157 [.sl 0 l.length 0 l.length false] [.row 1<|l.map encS]=some (.tup [],[.row 1<|Yk<|l.map encS]):=by
  rw[V8 (s:=J7) rfl];simp only[J7,ZW4,ZVA,beq_self_eq_true,hstr,hble,ZVJ,cond_true,GM]
 have h3:∃h',fnV rE 158 [.sl 0 l.length 0 l.length false] [.row 1<|Yk<|l.map encS]=some (.sl 0 l.length 0 (Ys<|Yk<|l.map encS).length false,[.row 1 h'])/\h'.length=l.length:=by
  rw[V8 (s:=J8) rfl];have hl:(Yk<|l.map encS).length=l.length:=by rw[Ff,ZVA]
  have ha:(Yk<|l.map encS).all WB=true:=by rw[Fh,hstr]
  have hc:=Fi<|Yk<|l.map encS;simp only[J8,ZW4,hl,beq_self_eq_true,ha,hble,ZVJ,cond_true,GM];refine⟨_,rfl,?_⟩;simp;omega
 obtain⟨h',h3,h4⟩:=h3;rw[Z5 (f:=59) rfl rfl];unfold Jq;simp only[go_sem,c59,h1,h2,h3,h4,beq_self_eq_true]
structure Adr where
 street:Str
 n:HN
def Adr.enc(a:Adr):AV:=.agg [.str a.street,I a.n.N,.str a.n.bm,I a.n.Num,I a.n.Den]
def XK(a b:Adr):Bool:=Z3 a.street b.street&&(a.n.N==b.n.N&&(Z3 a.n.bm b.n.bm&&(a.n.Num==b.n.Num&&a.n.Den==b.n.Den)))
def NK(x y:Adr):Zz true [2,1,2,1,1] x.enc y.enc=some (XK x y):=by simp only[go_sem,Adr.enc,XK]
def WI(d:Ga):Adr:=⟨d.By,d.An⟩
def Jr(d:Ga):Bool:=d.Ld != -1||!Z3 d.Veil emp
def Hd(K:List Adr)(d:Ga):List Adr:=bif Jr d then K else Qi XK K<|WI d
def Y9(l:List Ga)(i:Nat):List Adr:=(l.take i).foldl Hd []
def Wh(l:List Ga):Bool:=Zu (λi d=>Jr d||!(Y9 l i).any (XK<|WI d)) 0 l
def Fk(s:Sta)(hs:StS s):pfn rE 50 [stA s]=some (.bool<|Wh s.Bc):=by
 have hcl:Z4 (s.Bc.map Ga.enc)=true:=Zw (λt=>rfl) _
 have hbA:∀n(K:List Adr),Zd n (K.map Adr.enc)=true:=λn K=>ZN _<|Zw (λt=>rfl) K
 have hbT:∀n k,Zd n (ZO k)=true:=λn k=>ZN _<|Ut k
 have L:=Jk (E:=rE) (live:=[3,9,10,11]) (b:=c50L0b) s.Bc (λi d=>Jr d||!(Y9 s.Bc i).any (XK<|WI d))
  (λi=>[(3,.mp 0),(9,.isl false false 16<|s.Bc.map Ga.enc),(10,I s.Bc.length),(11,I i)])
  (λi=>[.map ((Y9 s.Bc i).map Adr.enc)<|ZO (Y9 s.Bc i).length]) 0 (λfr h=>get fr 2=.bot) (λfr h=>get fr 2=.bool false) (λi=>rfl)
  (λi x hx hP=>by
   have hg:=Z6 (f:=Ga.enc) hx;have hi:=Zh<|Z7 hx;have hw:=Zx (n:=i) (by have:=Z7 hx;have:=hs.doors;omega)
   have hf:Y9 s.Bc (i+1)=Hd (Y9 s.Bc i) x:=Us Hd [] hx;have hp:=λhh=>Ur (ag:=true) (kk:=[2,1,2,1,1]) (enc:=Adr.enc) (eq:=XK) NK (Y9 s.Bc i) (WI x) (h:=.map ((Y9 s.Bc i).map Adr.enc) (ZO (Y9 s.Bc i).length)::hh) (b:=0) rfl
   have hq:=λhh=>H5 (ag:=true) (kk:=[2,1,2,1,1]) (enc:=Adr.enc) (eq:=XK) NK (Y9 s.Bc i) (WI x) (h:=.map ((Y9 s.Bc i).map Adr.enc) (ZO (Y9 s.Bc i).length)::hh) (b:=0) rfl
   rw[hf];generalize Y9 s.Bc i=K at hp hq hP⊢;have hp':∀a b,YK [.map (K.map Adr.enc)<|ZO K.length,a,b] true [2,1,2,1,1] (.mp 0) (.agg [.str x.By,I x.An.N,.str x.An.bm,I x.An.Num,I x.An.Den]) (.bool true)=_:=λa b=>hp [a,b]
   have hq':∀a b,W5 [.map (K.map Adr.enc)<|ZO K.length,a,b] true [2,1,2,1,1] false (.bool false) (.mp 0) (.agg [.str x.By,I x.An.N,.str x.An.bm,I x.An.Num,I x.An.Den])=_:=λa b=>hq [a,b]
   unfold Hd;unfold Jr at hP⊢;cases h1:x.Ld != -1 with
   |true=>
    refine⟨_,by simp only[go_sem,c50L0b,hg,hi,hw,Ga.enc,NL.enc,h1,hbA,hbT];rfl,?_⟩
    simp only[go_sem]
   |false=>
   cases h2:Z3 x.Veil emp with
   |false=>
    refine⟨_,by simp only[go_sem,c50L0b,hg,hi,hw,Ga.enc,NL.enc,h1,h2,hbA,hbT];rfl,?_⟩
    simp only[go_sem]
   |true=>
    have h3:K.any (XK<|WI x)=false:=by simpa[h1,h2]using hP
    refine⟨_,by simp only[go_sem,c50L0b,hg,hi,hw,Ga.enc,NL.enc,h1,h2,hq',hp',h3,hbA,hbT];rfl,?_⟩
    simp only[go_sem])
  (λi x hx hP=>by
   have hg:=Z6 (f:=Ga.enc) hx;have hi:=Zh<|Z7 hx;have hq:=λhh=>H5 (ag:=true) (kk:=[2,1,2,1,1]) (enc:=Adr.enc) (eq:=XK) NK (Y9 s.Bc i) (WI x) (h:=.map ((Y9 s.Bc i).map Adr.enc) (ZO (Y9 s.Bc i).length)::hh) (b:=0) rfl
   generalize Y9 s.Bc i=K at hq hP⊢;have hq':∀a b,W5 [.map (K.map Adr.enc)<|ZO K.length,a,b] true [2,1,2,1,1] false (.bool false) (.mp 0) (.agg [.str x.By,I x.An.N,.str x.An.bm,I x.An.Num,I x.An.Den])=_:=λa b=>hq [a,b]
   unfold Jr at hP;have h1:(x.Ld != -1)=false:=by cases h:x.Ld != -1<;>simp_all
   have h2:Z3 x.Veil emp=true:=by cases h:Z3 x.Veil emp<;>simp_all
   have h3:K.any (XK<|WI x)=true:=by simpa[h1,h2]using hP
   refine⟨_,_,by simp only[go_sem,c50L0b,hg,hi,Ga.enc,NL.enc,h1,h2,hq',h3,hbA,hbT];rfl,?_⟩
   simp only[go_sem])
  (⟨_,_,by simp only[go_sem,c50L0b,ZG];rfl,by simp only[go_sem]⟩)
 obtain⟨fr',h',h1,h2,h3⟩:=L;have h1':Zg rE [3,9,10,11] c50L0b [(3,.mp 0),(9,.isl false false 16<|s.Bc.map Ga.enc),(10,I s.Bc.length),(11,.int .i64 0)] [.map [] []]=_:=h1;rw[Z5 (f:=50) rfl rfl];have hdef:Zu (λi d=>Jr d||!(Y9 s.Bc i).any (XK<|WI d)) 0 s.Bc=Wh s.Bc:=rfl
 rw[hdef]at h1' h3;cases hc:Wh s.Bc with
 |true=>rw[hc]at h1';simp only[go_sem,c50,c50L0,h1']
 |false=>rw[hc]at h1';simp only[go_sem,c50,c50L0,h1',h3 hc,ZVI]
def Ye(V:List Bool):List AV:=V.map .bool
def Wi(x y:Int):Zz false [1] (I x) (I y)=some (x==y):=by simp only[go_sem]
def Z2W(K:List Int)(V:List Bool)(hl:V.length=K.length)(x:Int){h:Hp}{b:Nat}(hb:h[b]?=some (.map (K.map I)<|Ye V)):
 ∃c,W5 h false [1] false (.bool false) (.mp b) (I x)=some (.bool c):=by
 simp only[W5,hb,QW,Wi];rcases Uq (ag:=false) (kk:=[1]) (enc:=I) (eq:=λa b=>a==b) Wi x K 0 with⟨h1,h2⟩|⟨j,h1,h2,h3,h4⟩
 .rw[h1];exact⟨false,rfl⟩
 .have:(Ye V)[j]?=some (.bool<|V[j]'(by omega)):=by
   unfold Ye;rw[ZWw,ZVH<|by omega];rfl
  rw[h1];simp only[this];exact⟨_,rfl⟩
def Z2X(K:List Int)(V:List Bool)(hl:V.length=K.length)(x:Int)(c:Bool){h:Hp}{b:Nat}(hb:h[b]?=some (.map (K.map I)<|Ye V)):
 ∃(K':List Int)(V':List Bool),V'.length=K'.length/\K'.length<=K.length+1/\YK h false [1] (.mp b) (I x) (.bool c)=some (.bot,setH h b<|.map (K'.map I)<|Ye V'):=by
 simp only[YK,hb,Yo,Wi];rcases Uq (ag:=false) (kk:=[1]) (enc:=I) (eq:=λa b=>a==b) Wi x K 0 with⟨h1,h2⟩|⟨j,h1,h2,h3,h4⟩
 .rw[h1];refine⟨K++[x],V++[c],by simp[hl],by simp,?_⟩
  simp[Ye,ZM,ZH]
 .rw[h1];refine⟨K,V.set j c,by simp[hl],by omega,?_⟩
  simp[Ye,ZM,ZH,ZXn]
def Vm(a b:Int):Bool:=a==b
def Y2(p:bf):Bool:=QM p.a 0 0&&(QM p.b 0 0&&!(p.a==p.b))
def QV(l:List bf)(i:Nat):List Int:=(l.take i).foldl (λK p=>Qi Vm K p.b) []
def UB(l:List bf):Bool:=Zu (λi p=>Y2 p&&!(QV l i).any (Vm p.b)) 0 l
def WJ:(0<=(0:Int)/\(0:Int)<((2:Nat):Int))=True:=by simp
def XL:(0<=(1:Int)/\(1:Int)<((2:Nat):Int))=True:=by simp
def Z2Y(a17 a1:AV)(ha17:∀n,bel n a17=true)(ha1:∀n,bel n a1=true)(l:List bf)(hl:l.length<=1000):
 ∃fr' h',Zg rE [1,3,4,17,18,19,24,25,26] c60L0b [(1,a1),(3,.mp 0),(4,.int .i64 0),(17,a17),(18,.int .i64 2),(19,.int .i64 0),(24,.isl false false 2<|l.map bf.enc),(25,I l.length),(26,.int .i64 0)] [.map [] []] =
  some (if UB l=true then .exit 2 else .ret,fr',h')/\
  (UB l=true->(get fr' 1=a1/\get fr' 2=.bot/\get fr' 3=.mp 0/\get fr' 17=a17/\get fr' 18=.int .i64 2/\get fr' 19=.int .i64 0)/\∃(K:List Int)(V:List Bool),V.length=K.length/\h'=[.map (K.map I)<|Ye V])/\(UB l=false->get fr' 2=.bool false/\get fr' 1=a1/\get fr' 3=.mp 0/\get fr' 17=a17/\get fr' 18=.int .i64 2/\get fr' 19=.int .i64 0):=by
 have hbA:∀n(K:List Int),Zd n (K.map I)=true:=λn K=>ZN _<|Zw (λt=>rfl) K
 have hbT:∀n k,Zd n (ZO k)=true:=λn k=>ZN _<|Ut k
 have n0:((0:Int)).toNat=0:=rfl;have n1:((1:Int)).toNat=1:=rfl;have z0:((0:Int)==0)=true:=rfl;have L:=Jk (E:=rE) (live:=[1,3,4,17,18,19,24,25,26]) (b:=c60L0b) l (λi p=>Y2 p&&!(QV l i).any (Vm p.b))
  (λi=>[(1,a1),(3,.mp 0),(4,.int .i64 0),(17,a17),(18,.int .i64 2),(19,.int .i64 0),(24,.isl false false 2<|l.map bf.enc),(25,I l.length),(26,I i)])
  (λi=>[.map ((QV l i).map I)<|ZO (QV l i).length]) 2
  (λfr h=>(get fr 1=a1/\get fr 2=.bot/\get fr 3=.mp 0/\get fr 17=a17/\get fr 18=.int .i64 2/\get fr 19=.int .i64 0)/\h=[.map ((QV l l.length).map I)<|ZO (QV l l.length).length])
  (λfr h=>get fr 2=.bool false/\get fr 1=a1/\get fr 3=.mp 0/\get fr 17=a17/\get fr 18=.int .i64 2/\get fr 19=.int .i64 0) (λi=>rfl)
  (λi x hx hP=>by
   have hg:=Z6 (f:=bf.enc) hx;have hi:=Zh<|Z7 hx;have hw:=Zx (n:=i) (by have:=Z7 hx;omega)
   have hf:QV l (i+1)=Qi Vm (QV l i) x.b:=Us _ [] hx;have hp:=λhh=>Ur (ag:=false) (kk:=[1]) (enc:=I) (eq:=Vm) Wi (QV l i) x.b (h:=.map ((QV l i).map I) (ZO (QV l i).length)::hh) (b:=0) rfl
   have hq:=λhh=>H5 (ag:=false) (kk:=[1]) (enc:=I) (eq:=Vm) Wi (QV l i) x.b (h:=.map ((QV l i).map I) (ZO (QV l i).length)::hh) (b:=0) rfl
   rw[hf];generalize QV l i=K at hp hq hP⊢;simp only[Y2,ZVB,ZVW]at hP;obtain⟨⟨h1,h2,h3⟩,h4⟩:=hP;refine⟨_,by simp only[go_sem,c60L0b,hg,hi,hw,bf.enc,WJ,XL,n0,n1,ZW6,if_true,Qc,h1,h2,h3,z0,hq,hp,h4,hbA,hbT,ha17,ha1];rfl,?_⟩
   simp only[go_sem])
  (λi x hx hP=>by
   have hg:=Z6 (f:=bf.enc) hx;have hi:=Zh<|Z7 hx;have hq:=λhh=>H5 (ag:=false) (kk:=[1]) (enc:=I) (eq:=Vm) Wi (QV l i) x.b (h:=.map ((QV l i).map I) (ZO (QV l i).length)::hh) (b:=0) rfl
   generalize QV l i=K at hq hP⊢;unfold Y2 at hP;cases h1:QM x.a 0 0 with
   |false=>
    refine⟨_,_,by simp only[go_sem,c60L0b,hg,hi,bf.enc,WJ,n0,ZW6,if_true,Qc,h1,hbA,hbT,ha17,ha1];rfl,?_⟩
    refine⟨?_,?_,?_,?_,?_,?_⟩<;>simp only[go_sem]
   |true=>
   cases h2:QM x.b 0 0 with
   |false=>
    refine⟨_,_,by simp only[go_sem,c60L0b,hg,hi,bf.enc,WJ,XL,n0,n1,ZW6,if_true,Qc,h1,h2,hbA,hbT,ha17,ha1];rfl,?_⟩
    refine⟨?_,?_,?_,?_,?_,?_⟩<;>simp only[go_sem]
   |true=>
   cases h3:x.a==x.b with
   |true=>
    refine⟨_,_,by simp only[go_sem,c60L0b,hg,hi,bf.enc,WJ,XL,n0,n1,ZW6,if_true,Qc,h1,h2,h3,hbA,hbT,ha17,ha1];rfl,?_⟩
    refine⟨?_,?_,?_,?_,?_,?_⟩<;>simp only[go_sem]
   |false=>
    have h4:K.any (Vm x.b)=true:=by simpa[h1,h2,h3]using hP
    refine⟨_,_,by simp only[go_sem,c60L0b,hg,hi,bf.enc,WJ,XL,n0,n1,ZW6,if_true,Qc,h1,h2,h3,z0,hq,h4,hbA,hbT,ha17,ha1];rfl,?_⟩
    refine⟨?_,?_,?_,?_,?_,?_⟩<;>simp only[go_sem])
  (⟨_,_,by simp only[go_sem,c60L0b,ZG];rfl,by refine⟨⟨?_,?_,?_,?_,?_,?_⟩,?_⟩<;>simp only[go_sem]⟩)
 obtain⟨fr',h',h1,h2,h3⟩:=L;refine⟨fr',h',h1,λh=>?_,h3⟩
 obtain⟨h4,h5⟩:=h2 h;refine⟨h4,QV l l.length,List.replicate (QV l l.length).length true,by simp,?_⟩
 rw[h5];simp[Ye,ZO]
def Z2Z(a17 a1:AV)(ha17:∀n,bel n a17=true)(ha1:∀n,bel n a1=true)(l:List bf)(hl:l.length<=1000)(K0:List Int)(V0:List Bool)(hK0:V0.length=K0.length):
 ∃fr' h',Zg rE [1,3,4,17,18,19,24,25,26] c60L0b [(1,a1),(3,.mp 0),(4,.int .i64 1),(17,a17),(18,.int .i64 2),(19,.int .i64 1),(24,.isl false false 2<|l.map bf.enc),(25,I l.length),(26,.int .i64 0)] [.map (K0.map I)<|Ye V0] =
  some (if l.all Y2=true then .exit 2 else .ret,fr',h')/\
  (l.all Y2=true->(get fr' 1=a1/\get fr' 2=.bot/\get fr' 3=.mp 0/\get fr' 17=a17/\get fr' 18=.int .i64 2/\get fr' 19=.int .i64 1)/\∃o,h'=[o]/\∀n,Zj n o=true)/\(l.all Y2=false->get fr' 2=.bool false/\get fr' 1=a1/\get fr' 3=.mp 0/\get fr' 17=a17/\get fr' 18=.int .i64 2/\get fr' 19=.int .i64 1):=by
 have hbA:∀n(K:List Int),Zd n (K.map I)=true:=λn K=>ZN _<|Zw (λt=>rfl) K
 have hbT:∀n(V:List Bool),Zd n (Ye V)=true:=λn V=>ZN _<|Zw (λt=>rfl) V
 have n0:((0:Int)).toNat=0:=rfl;have n1:((1:Int)).toNat=1:=rfl;have z0:((1:Int)==0)=false:=rfl
 suffices G:∀(post pre:List bf)(K:List Int)(V:List Bool),l=pre++post->V.length=K.length->
  ∃fr' h',Zg rE [1,3,4,17,18,19,24,25,26] c60L0b [(1,a1),(3,.mp 0),(4,.int .i64 1),(17,a17),(18,.int .i64 2),(19,.int .i64 1),(24,.isl false false 2<|l.map bf.enc),(25,I l.length),(26,I pre.length)] [.map (K.map I)<|Ye V] =
  some (if post.all Y2=true then .exit 2 else .ret,fr',h')/\
  (post.all Y2=true->(get fr' 1=a1/\get fr' 2=.bot/\get fr' 3=.mp 0/\get fr' 17=a17/\get fr' 18=.int .i64 2/\get fr' 19=.int .i64 1)/\∃o,h'=[o]/\∀n,Zj n o=true)/\(post.all Y2=false->get fr' 2=.bool false/\get fr' 1=a1/\get fr' 3=.mp 0/\get fr' 17=a17/\get fr' 18=.int .i64 2/\get fr' 19=.int .i64 1)from G l [] K0 V0 rfl hK0
 intro post;induction post with
 |nil=>
  intro pre K V hp hKV;have hlen:l.length=pre.length:=by rw[hp];simp
  have hf:decide ((pre.length:Int)<(l.length:Int))=false:=by rw[hlen];exact ZG _
  refine⟨_,_,Q7 rfl (by simp only[go_sem,c60L0b,hf];rfl) (by simp),λ_=>⟨?_,_,rfl,λn=>by simp only[go_sem,hbA,hbT]⟩,λh=>by simp at h⟩
  refine⟨?_,?_,?_,?_,?_,?_⟩<;>simp only[go_sem]
 |cons x post ih=>
  intro pre K V hp hKV;have hx:l[pre.length]?=some x:=by rw[hp];simp
  have hg:=Z6 (f:=bf.enc) hx;have hi:=Zh<|Z7 hx;have hlx:=Z7 hx;have hw:=Zx (n:=pre.length)<|by omega
  rw[ZWn];cases h1:QM x.a 0 0 with
  |false=>
   have hP:Y2 x=false:=by simp[Y2,h1]
   rw[hP,ZVG];refine⟨_,_,Q7 rfl (by simp only[go_sem,c60L0b,hg,hi,bf.enc,WJ,n0,ZW6,if_true,Qc,h1,hbA,hbT,ha17,ha1];rfl) (by simp),λh=>(by cases h),λ_=>?_⟩
   refine⟨?_,?_,?_,?_,?_,?_⟩<;>simp only[go_sem]
  |true=>
  cases h2:QM x.b 0 0 with
  |false=>
   have hP:Y2 x=false:=by simp[Y2,h2]
   rw[hP,ZVG];refine⟨_,_,Q7 rfl (by simp only[go_sem,c60L0b,hg,hi,bf.enc,WJ,XL,n0,n1,ZW6,if_true,Qc,h1,h2,hbA,hbT,ha17,ha1];rfl) (by simp),λh=>(by cases h),λ_=>?_⟩
   refine⟨?_,?_,?_,?_,?_,?_⟩<;>simp only[go_sem]
  |true=>
  cases h3:x.a==x.b with
  |true=>
   have hP:Y2 x=false:=by simp only[Y2,h3,ZVC,ZVL]
   rw[hP,ZVG];refine⟨_,_,Q7 rfl (by simp only[go_sem,c60L0b,hg,hi,bf.enc,WJ,XL,n0,n1,ZW6,if_true,Qc,h1,h2,h3,hbA,hbT,ha17,ha1];rfl) (by simp),λh=>(by cases h),λ_=>?_⟩
   refine⟨?_,?_,?_,?_,?_,?_⟩<;>simp only[go_sem]
  |false=>
   have hP:Y2 x=true:=by simp only[Y2,h1,h2,h3,ZVE,ZWd]
   rw[hP,ZVD];obtain⟨c,hq⟩:=Z2W K V hKV x.b (h:=[.map (K.map I)<|Ye V,.row 2 [.agg [I x.a,I x.b]]]) (b:=0) rfl;obtain⟨K',V',hKV',_,hput⟩:=Z2X K V hKV x.b c (h:=[.map (K.map I)<|Ye V,.row 2 [.agg [I x.a,I x.b]]]) (b:=0) rfl;obtain⟨fr',h',h4,h5⟩:=ih (pre++[x]) K' V' (by simp[hp]) hKV'
   refine⟨fr',h',?_,h5⟩;rw[<-h4];have hl1:((pre++[x]).length:Int)=((pre.length+1:Nat):Int):=by simp
   rw[hl1];cases c<;>exact(Yt rfl (by simp only[go_sem,c60L0b,hg,hi,hw,bf.enc,WJ,XL,n0,n1,ZW6,if_true,Qc,h1,h2,h3,z0,hq,hput,hbA,hbT,ha17,ha1];rfl)).trans (by simp only[go_sem])
def chN(s:Sta):Nat->Int->Bool
 |0,at'=>!decide (at'>=0)
 |k+1,at'=>bif decide (at'>=0)then chN s k (XJ s at')else true
def Fl(s:Sta)(hs:StS s)(a71 a72 a73:AV)(h:Hp):∀k n at',n+k=s.Gc.length+1->
 ∃fr',Zg rE [1,10,11,71,72,73] c60L2b [(1,.iptr false [.isl false false 6<|s.Fa.map Gk.enc,.isl false false 5<|s.Gm.map By.enc,.isl false false 4<|s.Bt.map Ev.enc,.isl false false 16<|s.Bc.map Ga.enc,.isl false false 6<|s.Nk.map be.enc,.isl false false 2<|s.Gc.map bf.enc,.isl false false 2<|s.ba.map bf.enc]),(10,I at'),(11,I (n:Nat)),(71,a71),(72,a72),(73,a73)] h =
  some (if chN s k at'=true then .exit 6 else .ret,fr',h)/\(chN s k at'=true->get fr' 2=.bot/\get fr' 1=.iptr false [.isl false false 6<|s.Fa.map Gk.enc,.isl false false 5<|s.Gm.map By.enc,.isl false false 4<|s.Bt.map Ev.enc,.isl false false 16<|s.Bc.map Ga.enc,.isl false false 6<|s.Nk.map be.enc,.isl false false 2<|s.Gc.map bf.enc,.isl false false 2<|s.ba.map bf.enc]/\get fr' 71=a71/\get fr' 72=a72/\get fr' 73=a73)/\(chN s k at'=false->get fr' 2=.bool false/\get fr' 1=.iptr false [.isl false false 6<|s.Fa.map Gk.enc,.isl false false 5<|s.Gm.map By.enc,.isl false false 4<|s.Bt.map Ev.enc,.isl false false 16<|s.Bc.map Ga.enc,.isl false false 6<|s.Nk.map be.enc,.isl false false 2<|s.Gc.map bf.enc,.isl false false 2<|s.ba.map bf.enc]/\get fr' 71=a71/\get fr' 72=a72/\get fr' 73=a73):=by
 intro k;induction k with
 |zero=>
  intro n at' hn;unfold chN;cases h1:decide (at'>=0)with
  |false=>
   refine⟨_,Q7 rfl (by simp only[go_sem,c60L2b,h1,GH];rfl) (by simp),λ_=>?_,λhh=>(by simp at hh)⟩
   refine⟨?_,?_,?_,?_,?_⟩<;>simp only[go_sem]
  |true=>
   have h2:decide ((n:Int)>(s.Gc.length:Int))=true:=decide_eq_true<|by omega
   refine⟨_,Q7 rfl (by simp only[go_sem,c60L2b,h1,h2,GH];rfl) (by simp),λhh=>(by simp at hh),λ_=>?_⟩
   refine⟨?_,?_,?_,?_,?_⟩<;>simp only[go_sem]
 |succ k ih=>
  intro n at' hn;unfold chN;cases h1:decide (at'>=0)with
  |false=>
   refine⟨_,Q7 rfl (by simp only[go_sem,c60L2b,h1,GH];rfl) (by simp),λ_=>?_,λhh=>(by simp at hh)⟩
   refine⟨?_,?_,?_,?_,?_⟩<;>simp only[go_sem]
  |true=>
   have h2:decide ((n:Int)>(s.Gc.length:Int))=false:=decide_eq_false<|by omega
   have hm:=hs.merged;have hw:=Zx (n:=n)<|by omega
   have ht:=NJ s hs at';obtain⟨fr',h3,h4⟩:=ih (n+1) (XJ s at')<|by omega
   rw[cond_true];refine⟨fr',?_,h4⟩;rw[<-h3];exact(Yt rfl (by simp only[go_sem,c60L2b,h1,h2,hw,ht,GH];rfl)).trans (by simp only[go_sem])
def WK(s:Sta):Bool:=UB s.Gc&&(s.ba.all Y2&&s.Gc.all (λp=>chN s (s.Gc.length+1) p.b))
def Z30(s:Sta)(hs:StS s)(o:AObj)(ho:∀n,Zj n o=true):
 ∃fr',Zg rE [1,71,72,73] c60L3b [(1,.iptr false [.isl false false 6<|s.Fa.map Gk.enc,.isl false false 5<|s.Gm.map By.enc,.isl false false 4<|s.Bt.map Ev.enc,.isl false false 16<|s.Bc.map Ga.enc,.isl false false 6<|s.Nk.map be.enc,.isl false false 2<|s.Gc.map bf.enc,.isl false false 2<|s.ba.map bf.enc]),(71,.isl false false 2<|s.Gc.map bf.enc),(72,I s.Gc.length),(73,.int .i64 0)] [o] =
  some (if s.Gc.all (λp=>chN s (s.Gc.length+1) p.b)=true then .exit 4 else .ret,fr',[o])/\(s.Gc.all (λp=>chN s (s.Gc.length+1) p.b)=false->get fr' 2=.bool false):=by
 have n1:((1:Int)).toNat=1:=rfl;generalize ha:AV.iptr false [.isl false false 6<|s.Fa.map Gk.enc,.isl false false 5<|s.Gm.map By.enc,.isl false false 4<|s.Bt.map Ev.enc,.isl false false 16<|s.Bc.map Ga.enc,.isl false false 6<|s.Nk.map be.enc,.isl false false 2<|s.Gc.map bf.enc,.isl false false 2<|s.ba.map bf.enc]=a;have hba:∀n,bel n a=true:=λn=>by rw[<-ha];rfl
 have L:=Uf (E:=rE) (live:=[1,71,72,73]) (b:=c60L3b) (h:=[o]) s.Gc (λ_ p=>chN s (s.Gc.length+1) p.b) (λi=>[(1,a),(71,.isl false false 2<|s.Gc.map bf.enc),(72,I s.Gc.length),(73,I i)]) 4 (λfr=>get fr 2=.bool false) (λi=>rfl)
  (λi x hx hP=>by
   have hg:=Z6 (f:=bf.enc) hx;have hi:=Zh<|Z7 hx;have hw:=Zx (n:=i) (by have:=Z7 hx;have:=hs.merged;omega)
   obtain⟨fr',h1,h2,_⟩:=Fl s hs (.isl false false 2<|s.Gc.map bf.enc) (I s.Gc.length) (I i) [o,.row 2 [.agg [I x.a,I x.b]]] (s.Gc.length+1) 0 x.b<|by omega
   rw[hP,if_pos rfl,ha]at h1;obtain⟨q2,q1,q71,q72,q73⟩:=h2 hP;rw[ha]at q1;have h1':Zg rE [1,10,11,71,72,73] c60L2b [(1,a),(10,I x.b),(11,.int .i64 0),(71,.isl false false 2<|s.Gc.map bf.enc),(72,I s.Gc.length),(73,I i)] [o,.row 2 [.agg [I x.a,I x.b]]]=_:=h1;refine⟨_,by simp only[go_sem,c60L3b,c60L2,hg,hi,hw,bf.enc,XL,n1,ZW6,if_true,h1',q1,q2,q71,q72,q73,ho,hba];rfl,?_⟩
   simp only[go_sem])
  (λi x hx hP=>by
   have hg:=Z6 (f:=bf.enc) hx;have hi:=Zh<|Z7 hx;obtain⟨fr',h1,_,h2⟩:=Fl s hs (.isl false false 2<|s.Gc.map bf.enc) (I s.Gc.length) (I i) [o,.row 2 [.agg [I x.a,I x.b]]] (s.Gc.length+1) 0 x.b<|by omega
   rw[hP,ha]at h1;obtain⟨q2,q1,q71,q72,q73⟩:=h2 hP;rw[ha]at q1;have h1':Zg rE [1,10,11,71,72,73] c60L2b [(1,a),(10,I x.b),(11,.int .i64 0),(71,.isl false false 2<|s.Gc.map bf.enc),(72,I s.Gc.length),(73,I i)] [o,.row 2 [.agg [I x.a,I x.b]]]=_:=h1;refine⟨_,by simp only[go_sem,c60L3b,c60L2,hg,hi,bf.enc,XL,n1,ZW6,if_true,h1',q1,q2,q71,q72,q73,ho,hba,ZVI];rfl,?_⟩
   simp only[go_sem])
  (⟨_,by simp only[go_sem,c60L3b,ZG];rfl⟩)
 rw[QE]at L;exact L
def Z31(s:Sta)(hs:StS s):pfn rE 60 [stA s]=some (.bool<|WK s):=by
 have hbA:∀n(K:List Int),Zd n (K.map I)=true:=λn K=>ZN _<|Zw (λt=>rfl) K
 have hbT:∀n(V:List Bool),Zd n (Ye V)=true:=λn V=>ZN _<|Zw (λt=>rfl) V
 have e0:ixG [AV.isl false false 2<|s.Gc.map bf.enc,.isl false false 2<|s.ba.map bf.enc] 0=some (.isl false false 2<|s.Gc.map bf.enc):=rfl;have e1:ixG [AV.isl false false 2<|s.Gc.map bf.enc,.isl false false 2<|s.ba.map bf.enc] 1=some (.isl false false 2<|s.ba.map bf.enc):=rfl;have d02:decide ((0:Int)<2)=true:=rfl;have d12:decide ((1:Int)<2)=true:=rfl;have d22:decide ((2:Int)<2)=false:=rfl;have w0:IntKind.i64.wrap ((0:Int)+1)=1:=rfl;have w1:IntKind.i64.wrap ((1:Int)+1)=2:=rfl;have c2:(((0+1+1:Nat):Nat):Int)=2:=rfl;have c2':((2:Nat):Int)=2:=rfl;obtain⟨f1,g1,hm1,hm2,hm3⟩:=Z2Y (.isl false false 1 [.isl false false 2<|s.Gc.map bf.enc,.isl false false 2<|s.ba.map bf.enc]) (.iptr false [.isl false false 6<|s.Fa.map Gk.enc,.isl false false 5<|s.Gm.map By.enc,.isl false false 4<|s.Bt.map Ev.enc,.isl false false 16<|s.Bc.map Ga.enc,.isl false false 6<|s.Nk.map be.enc,.isl false false 2<|s.Gc.map bf.enc,.isl false false 2<|s.ba.map bf.enc]) (λn=>rfl) (λn=>rfl) s.Gc hs.merged
 rw[Z5 (f:=60) rfl rfl];unfold WK;cases c1:UB s.Gc with
 |false=>
  rw[c1]at hm1;obtain⟨q2,q1,q3,q17,q18,q19⟩:=hm3 c1;have R:∃fr h,Zg rE [1,3,17,18,19] c60L1b [(1,.iptr false [.isl false false 6<|s.Fa.map Gk.enc,.isl false false 5<|s.Gm.map By.enc,.isl false false 4<|s.Bt.map Ev.enc,.isl false false 16<|s.Bc.map Ga.enc,.isl false false 6<|s.Nk.map be.enc,.isl false false 2<|s.Gc.map bf.enc,.isl false false 2<|s.ba.map bf.enc]),(3,.mp 0),(17,.isl false false 1 [.isl false false 2<|s.Gc.map bf.enc,.isl false false 2<|s.ba.map bf.enc]),(18,.int .i64 2),(19,.int .i64 0)] [.map [] []]=some (.ret,fr,h)/\get fr 2=.bool false:=by
   refine⟨_,_,Q7 rfl (by simp only[go_sem,c60L1b,c60L0,e0,d02,hm1,q1,q2,q3,q17,q18,q19,ZVI];rfl) (by simp),?_⟩
   simp only[go_sem]
  obtain⟨fr,h,hR,hq⟩:=R;simp only[go_sem,c60,c60L1,c2',hR,hq]
 |true=>
  rw[c1,if_pos rfl]at hm1;obtain⟨⟨q1,q2,q3,q17,q18,q19⟩,K,V,hKV,rfl⟩:=hm2 c1;obtain⟨f2,g2,hr1,hr2,hr3⟩:=Z2Z (.isl false false 1 [.isl false false 2<|s.Gc.map bf.enc,.isl false false 2<|s.ba.map bf.enc]) (.iptr false [.isl false false 6<|s.Fa.map Gk.enc,.isl false false 5<|s.Gm.map By.enc,.isl false false 4<|s.Bt.map Ev.enc,.isl false false 16<|s.Bc.map Ga.enc,.isl false false 6<|s.Nk.map be.enc,.isl false false 2<|s.Gc.map bf.enc,.isl false false 2<|s.ba.map bf.enc]) (λn=>rfl) (λn=>rfl) s.ba hs.rulings K V hKV
  have R1:=Yt (E:=rE) (live:=[1,3,17,18,19]) (b:=c60L1b) (fr:=[(1,.iptr false [.isl false false 6<|s.Fa.map Gk.enc,.isl false false 5<|s.Gm.map By.enc,.isl false false 4<|s.Bt.map Ev.enc,.isl false false 16<|s.Bc.map Ga.enc,.isl false false 6<|s.Nk.map be.enc,.isl false false 2<|s.Gc.map bf.enc,.isl false false 2<|s.ba.map bf.enc]),(3,.mp 0),(17,.isl false false 1 [.isl false false 2<|s.Gc.map bf.enc,.isl false false 2<|s.ba.map bf.enc]),(18,.int .i64 2),(19,.int .i64 0)]) (h:=[.map [] []]) rfl (by simp only[go_sem,c60L1b,c60L0,e0,d02,w0,hm1,q1,q2,q3,q17,q18,q19];rfl)
  simp only[go_sem]at R1;cases c5003:s.ba.all Y2 with
  |false=>
   rw[c5003]at hr1;obtain⟨p2,p1,p3,p17,p18,p19⟩:=hr3 c5003;have R:∃fr h,Zg rE [1,3,17,18,19] c60L1b [(1,.iptr false [.isl false false 6<|s.Fa.map Gk.enc,.isl false false 5<|s.Gm.map By.enc,.isl false false 4<|s.Bt.map Ev.enc,.isl false false 16<|s.Bc.map Ga.enc,.isl false false 6<|s.Nk.map be.enc,.isl false false 2<|s.Gc.map bf.enc,.isl false false 2<|s.ba.map bf.enc]),(3,.mp 0),(17,.isl false false 1 [.isl false false 2<|s.Gc.map bf.enc,.isl false false 2<|s.ba.map bf.enc]),(18,.int .i64 2),(19,.int .i64 1)] [.map (K.map I)<|Ye V]=some (.ret,fr,h)/\get fr 2=.bool false:=by
    refine⟨_,_,Q7 rfl (by simp only[go_sem,c60L1b,c60L0,e1,d12,hr1,p1,p2,p3,p17,p18,p19,ZVI];rfl) (by simp),?_⟩
    simp only[go_sem]
   obtain⟨fr,h,hR,hq⟩:=R;simp only[go_sem,c60,c60L1,c2',R1,hR,hq]
  |true=>
   rw[c5003,if_pos rfl]at hr1;obtain⟨⟨p1,p2,p3,p17,p18,p19⟩,o,rfl,ho⟩:=hr2 c5003;have R2:=Yt (E:=rE) (live:=[1,3,17,18,19]) (b:=c60L1b) (fr:=[(1,.iptr false [.isl false false 6<|s.Fa.map Gk.enc,.isl false false 5<|s.Gm.map By.enc,.isl false false 4<|s.Bt.map Ev.enc,.isl false false 16<|s.Bc.map Ga.enc,.isl false false 6<|s.Nk.map be.enc,.isl false false 2<|s.Gc.map bf.enc,.isl false false 2<|s.ba.map bf.enc]),(3,.mp 0),(17,.isl false false 1 [.isl false false 2<|s.Gc.map bf.enc,.isl false false 2<|s.ba.map bf.enc]),(18,.int .i64 2),(19,.int .i64 1)]) (h:=[.map (K.map I)<|Ye V]) rfl (by simp only[go_sem,c60L1b,c60L0,e1,d12,w1,hr1,p1,p2,p3,p17,p18,p19];rfl)
   simp only[go_sem]at R2;have R3:=Q7 (E:=rE) (live:=[1,3,17,18,19]) (b:=c60L1b) (fr:=[(1,.iptr false [.isl false false 6<|s.Fa.map Gk.enc,.isl false false 5<|s.Gm.map By.enc,.isl false false 4<|s.Bt.map Ev.enc,.isl false false 16<|s.Bc.map Ga.enc,.isl false false 6<|s.Nk.map be.enc,.isl false false 2<|s.Gc.map bf.enc,.isl false false 2<|s.ba.map bf.enc]),(3,.mp 0),(17,.isl false false 1 [.isl false false 2<|s.Gc.map bf.enc,.isl false false 2<|s.ba.map bf.enc]),(18,.int .i64 2),(19,.int .i64 2)]) (h:=[o]) rfl (by simp only[go_sem,c60L1b,d22];rfl) (by simp)
   obtain⟨f4,h4,h5⟩:=Z30 s hs o ho;cases c5004:s.Gc.all (λp=>chN s (s.Gc.length+1) p.b)with
   |true=>rw[c5004,if_pos rfl]at h4;simp only[go_sem,c60,c60L1,c60L3,c2',R1,R2,R3,h4]
   |false=>rw[c5004]at h4;simp only[go_sem,c60,c60L1,c60L3,c2',R1,R2,R3,h4,h5 c5004,ZVI]
def c58_eq:c58=.seq s58p0 (.seq s58p1<|.seq s58p2<|.seq s58p3<|.seq s58p4<|.seq s58p5<|.seq s58p6<|.seq s58p7<|.seq s58p8<|.seq s58p9<|.seq s58p10 .ret):=rfl
def Zo(d:Ga):AV:=.agg [.str d.Id,.str d.Ev,.str d.By,I d.bh,I d.An.N,.str d.An.bm,I d.An.Num,I d.An.Den,I d.bg.X,I d.bg.Y,I d.From,I d.Ld,.isl false d.After.ex 1<|d.After.l.map encS,I d.Why,I d.bv,.str d.Veil]
def exD(d:Ga):Bool:=d.Ld==-1
def K8(s:Sta)(i:Int)(d:Ga):Bool:=d.After.l.all λid=>!decide (Zn s id<=i)
def Yf(d:Ga):Int:=(d.After.l.length:Int)
def He(d:Ga):Bool:=
 bif d.Why==12 then Yf d==0 else bif d.Why==11 then Yf d==0&&Z3 d.Veil emp else bif d.Why==9 then ZD (Yf d) 2 8&&Z3 d.Veil emp else bif d.Why==10 then Yf d==1&&Z3 d.Veil emp else false
def UC(d:Ga):Bool:=(((!(exD d==(d.Why==0)))||(exD d&&decide (Yf d>0)))||(!exD d&&!He d))||!Jq d.After.l
def NM(d:Ga):Gt:=⟨0,0,0,0,d.bv,d.Id,emp,d.Veil,⟨false,[]⟩,⟨false,[]⟩,⟨0,emp,0,0⟩,⟨0,0⟩,⟨false,[]⟩,⟨false,[]⟩⟩
def Hf(d:Ga):Gt:=⟨0,0,0,0,0,d.Id,d.Ev,d.By,⟨false,[]⟩,⟨false,[]⟩,d.An,d.bg,⟨false,[]⟩,⟨false,[]⟩⟩
def NN(d:Ga):Bool:=Z3 d.Ev emp&&(Z3 d.By emp&&(QL d.An ⟨0,emp,0,0⟩&&(QK d.bg ⟨0,0⟩&&Q9 {NM d with bq:=15})))
def WL(s:Sta)(k:Int):Int:=match s.Bt[k.toNat]? with|some b=>b.Ld|none=>0
def QF(s:Sta)(k:Int):Int:=match s.Gm[k.toNat]? with|some b=>b.Ld|none=>0
def NO(s:Sta)(d:Ga):Bool:=((d.bv != 0||decide (Y1 s d.Ev<0))||decide (ZL s d.By<0))||(exD d&&(WL s (Y1 s d.Ev) != -1||QF s (ZL s d.By) != -1))
def Hg(s:Sta)(i:Int)(d:Ga):Bool:=
 K8 s i d&&(!UC d&&(bif Z3 d.Veil emp then !NO s d&&Q9 {Hf d with bq:=6}else NN d))
structure DoS(d:Ga):Prop where
 after:d.After.l.length<=100
 id:d.Id.size<=1000
 building:d.Ev.size<=1000
 street:d.By.size<=1000
 veil:d.Veil.size<=1000
abbrev stI(s:Sta):AV:=.iptr false [.isl false false 6<|s.Fa.map Gk.enc,.isl false false 5<|s.Gm.map By.enc,.isl false false 4<|s.Bt.map Ev.enc,.isl false false 16<|s.Bc.map Ga.enc,.isl false false 6<|s.Nk.map be.enc,.isl false false 2<|s.Gc.map bf.enc,.isl false false 2<|s.ba.map bf.enc]
def Z32(s:Sta)(hs:StS s)(i:Int)(d:Ga)(hd:DoS d):∃fr',Zg rE [1,2,5,6,22,23,24] c58L0b [(1,I i),(2,stI s),(5,.ptr 0 0 0 1),(6,.bool<|exD d),(22,.isl false d.After.ex 1<|d.After.l.map encS),(23,I d.After.l.length),(24,.int .i64 0)] [.row 16 [Zo d]] =
 some (if K8 s i d=true then .exit 0 else .ret,fr',[.row 16 [Zo d]])/\(K8 s i d=true->get fr' 2=stI s/\get fr' 4=.bot/\get fr' 5=.ptr 0 0 0 1/\get fr' 6=.bool (exD d))/\(K8 s i d=false->get fr' 4=.bool false):=by
 have L:=QT (E:=rE) (live:=[1,2,5,6,22,23,24]) (b:=c58L0b) (h:=[.row 16 [Zo d]]) d.After.l (λ_ id=>!decide (Zn s id<=i))
  (λj=>[(1,I i),(2,stI s),(5,.ptr 0 0 0 1),(6,.bool<|exD d),(22,.isl false d.After.ex 1<|d.After.l.map encS),(23,I d.After.l.length),(24,I j)]) 0
  (λfr=>get fr 2=stI s/\get fr 4=.bot/\get fr 5=.ptr 0 0 0 1/\get fr 6=.bool (exD d)) (λfr=>get fr 4=.bool false) (λj=>rfl)
  (λj x hx hP=>by
   have hg:=Z6 (f:=encS) hx;have hi:=Zh<|Z7 hx;have hw:=Zx (n:=j) (by have:=Z7 hx;have:=hd.after;omega)
   have hf:=find_ok s hs x;have hP':decide (Zn s x<=i)=false:=by simpa using hP
   refine⟨_,by simp only[go_sem,c58L0b,hg,hi,hw,encS,hf,hP'];rfl,?_⟩
   simp only[go_sem])
  (λj x hx hP=>by
   have hg:=Z6 (f:=encS) hx;have hi:=Zh<|Z7 hx;have hf:=find_ok s hs x;have hP':decide (Zn s x<=i)=true:=by simpa using hP
   refine⟨_,by simp only[go_sem,c58L0b,hg,hi,encS,hf,hP'];rfl,?_⟩
   simp only[go_sem])
  (⟨_,by simp only[go_sem,c58L0b,ZG];rfl,by refine⟨?_,?_,?_,?_⟩<;>simp only[go_sem]⟩)
 rw[QE]at L;exact L
def Fm(s:Sta)(hs:StS s)(i:Nat)(d:Ga)(hd:DoS d)(hx:s.Bc[i]?=some d)(rest:ACode):
 (K8 s i d=true->Zb rE (.seq s58p0<|.seq s58p1<|.seq s58p2<|.seq s58p3 rest) [(0,stA s),(1,I i)] []=Zb rE rest [(2,stI s),(4,.bot),(5,.ptr 0 0 0 1),(6,.bool<|exD d)] [.row 16 [Zo d]])/\
 (K8 s i d=false->∃fr h,Zb rE (.seq s58p0<|.seq s58p1<|.seq s58p2<|.seq s58p3 rest) [(0,stA s),(1,I i)] []=some (.ret,fr,h)/\get fr 4=.bool false):=by
 obtain⟨fr',h1,h2,h3⟩:=Z32 s hs i d hd;have hg:=Z6 (f:=Ga.enc) hx;have hex:(d.Ld==-1)=exD d:=rfl;unfold Zo at h1⊢;constructor
 .intro ha;rw[if_pos ha]at h1;obtain⟨q2,q4,q5,q6⟩:=h2 ha;simp only[go_sem,s58p0,s58p1,s58p2,s58p3,c58L0,hg,Ga.enc,NL.enc,hex,h1,q2,q4,q5,q6]
 .intro ha;rw[ha]at h1;have q4:=h3 ha;simp only[ZVI,if_false]at h1;refine⟨_,_,by simp only[go_sem,s58p0,s58p1,s58p2,s58p3,c58L0,hg,Ga.enc,NL.enc,hex,h1,q4];rfl,?_⟩
  simp only[go_sem]
def XM(d:Ga):AObj:=.map [.int .i64 12,.int .i64 11,.int .i64 9,.int .i64 10] [.bool<|Yf d==0,.bool<|Yf d==0&&Z3 d.Veil emp,.bool<|ZD (Yf d) 2 8&&Z3 d.Veil emp,.bool<|Yf d==1&&Z3 d.Veil emp]
def Z33(a1 a2:Bool)(r1 r2:List Nat)(w1 w2:Option Nat)(k v j u:AV):Kp ⟨a1,r1,w1,some (k,v)⟩ ⟨a2,r2,w2,some (j,u)⟩=YF k j:=(rfl)
def Fo(a b:Int):YF (.int .i64 a) (.int .i64 b)=(a != b):=by simp[YF]
def Z34(x:AObj)(ks vs:List AV)(k:Int)(v:AV)(hk:ZW false [1] (I k) ks 0=some none):YK [x,.map ks vs] false [1] (.mp 1) (I k) v=some (.bot,[x,.map (ks++[I k])<|vs++[v]]):=by
 simp only[YK,ZWm,ZW4,Yo,Wi,hk,ZM,ZH,GN,GM]
def Js(b:Nat)(v:AV):Bool:=match v with| .mp c=>c==b|_=>false
def Z35(b:Nat):Js b (.mp b)=true:=by simp[Js]
def Z36{b:Nat}{v:AV}(h:Js b v=true):v=.mp b:=by
 cases v with
 |mp c=>have:c=b:=by simpa[Js]using h
        rw[this]
 |_=>simp[Js]at h
def Z37(fr:Fr)(x:AObj)(ks vs:List AV)(k:Int)(t:Nat)(h37':Js 1 (get fr 37)=true)(hk:ZW false [1] (I k) ks 0=some none)(htn:t≠37):
 Za rE (.ins false [1] (.t 37) (.c<|.int .i64 k)<|.t t) fr [x,.map ks vs]=⟨false,[],some 1,some (I k,get fr t)⟩:=by
 have h37:=Z36 h37';obtain⟨v,ht⟩:∃v,get fr t=v:=⟨_,rfl⟩;rw[ht];have e37:get (Z2 (AOp.ins false [1] (.t 37) (.c<|.int .i64 k)<|.t t).slots fr) 37=.mp 1:=by
  simp[AOp.slots,Arg.slots,Z2,get,h37]
 have et:get (Z2 (AOp.ins false [1] (.t 37) (.c<|.int .i64 k)<|.t t).slots fr) t=v:=by
  have:(37==t)=false:=by rw[beq_eq_false_iff_ne];exact λh=>htn h.symm
  simp[AOp.slots,Arg.slots,Z2,get,this,ht]
 have hne:YF (I k) (I k)=false:=by rw[Fo];simp
 have hd:Za rE (.ins false [1] (.t 37) (.c<|.int .i64 k)<|.t t) fr [x,.map ks vs]=QG rE (Z2 (AOp.ins false [1] (.t 37) (.c<|.int .i64 k)<|.t t).slots fr) [x,.map ks vs] (.ins false [1] (.t 37) (.c<|.int .i64 k)<|.t t) (match Z8 rE (Z2 (AOp.ins false [1] (.t 37) (.c<|.int .i64 k)<|.t t).slots fr) [x,.map ks vs] ([x,.map ks vs]:Hp).length (.ins false [1] (.t 37) (.c<|.int .i64 k)<|.t t)with|some r=>r.2.2|none=>none):=rfl
 rw[hd];generalize Z2 (AOp.ins false [1] (.t 37) (.c<|.int .i64 k)<|.t t).slots fr=f at e37 et;have ho:Z8 rE f [x,.map ks vs] ([x,.map ks vs]:Hp).length (.ins false [1] (.t 37) (.c<|.int .i64 k)<|.t t)=some (.bot,[1],some (1,.map (ks++[I k])<|vs++[v])):=by
  simp only[Z8,ev,e37,et,ZWm,ZW4,Yo,Wi,hk]
 have hi:Wm rE f [x,.map ks vs] (.ins false [1] (.t 37) (.c<|.int .i64 k)<|.t t)=some (I k,v):=by
  simp only[Wm,ev,e37,et,ZWm,ZW4,hk,hne,cond_false]
 rw[ho];simp only[QG,hi,ZVZ]
def Z38(s:Sta)(d:Ga)(rest:ACode):
 Zb rE (.seq s58p4<|.seq s58p5 rest) [(2,stI s),(4,.bot),(5,.ptr 0 0 0 1),(6,.bool<|exD d)] [.row 16 [Zo d]] =
  Zb rE rest [(2,stI s),(5,.ptr 0 0 0 1),(6,.bool<|exD d),(9,I<|Yf d),(10,.mp 1)] [.row 16 [Zo d],XM d]:=by
 have hn:((d.After.l.length:Nat):Int)=Yf d:=rfl;have f1:ZW false [1] (.int .i64 12) [] 0=some none:=rfl;have f2:ZW false [1] (.int .i64 11) [.int .i64 12] 0=some none:=rfl;have f3:ZW false [1] (.int .i64 9) [.int .i64 12,.int .i64 11] 0=some none:=rfl;have f4:ZW false [1] (.int .i64 10) [.int .i64 12,.int .i64 11,.int .i64 9] 0=some none:=rfl;have n1:((11:Int) != 12)=true:=rfl;have n2:((9:Int) != 12)=true:=rfl;have n3:((9:Int) != 11)=true:=rfl;have n4:((10:Int) != 12)=true:=rfl;have n5:((10:Int) != 11)=true:=rfl;have n6:((10:Int) != 9)=true:=rfl;have b1:∀x:AV,Zd 1 [x]=bel 1 x:=λx=>by simp[Zd]
 unfold XM Zo;cases c1:Yf d==0<;>cases c2:Yf d==1<;>cases c5003:ZD (Yf d) 2 8<;>cases c5004:Z3 d.Veil emp<;>
  simp only[go_sem,s58p4,s58p5,hn,c1,c2,c5003,c5004,DY,Z37,Z35,Z34,f1,f2,f3,f4,Z33,Fo,n1,n2,n3,n4,n5,n6,ne_eq,Nat.reduceEqDiff,not_false_eq_true]
def Z39(d:Ga)(x:AObj):W5 [x,XM d] false [1] false (.bool false) (.mp 1) (I d.Why)=some (.bool<|He d):=by
 unfold XM He;simp only[W5,ZWm,ZW4,QW,Wi,ZW];cases c1:d.Why==12<;>cases c2:d.Why==11<;>cases c5003:d.Why==9<;>cases c5004:d.Why==10<;>rfl
set_option maxHeartbeats 4000000 in
def Fp(s:Sta)(d:Ga)(hd:DoS d)(rest:ACode):
 (UC d=false->Zb rE (.seq s58p6 rest) [(2,stI s),(5,.ptr 0 0 0 1),(6,.bool<|exD d),(9,I<|Yf d),(10,.mp 1)] [.row 16 [Zo d],XM d]=Zb rE rest [(2,stI s),(5,.ptr 0 0 0 1),(6,.bool<|exD d),(90,.bool false)] [.row 16 [Zo d],XM d])/\
 (UC d=true->∃fr h,Zb rE (.seq s58p6 rest) [(2,stI s),(5,.ptr 0 0 0 1),(6,.bool<|exD d),(9,I<|Yf d),(10,.mp 1)] [.row 16 [Zo d],XM d]=some (.ret,fr,h)/\get fr 4=.bool false):=by
 have hg:=Z39 d;have hso:=Fj d.After.l d.After.ex (by have:=hd.after;omega)
 have t1:(true==true)=true:=rfl;have t2:(true==false)=false:=rfl;have t3:(false==true)=false:=rfl;have t4:(false==false)=true:=rfl;generalize XM d=m at hg⊢;unfold UC Zo;cases c1:exD d<;>cases c2:d.Why==0<;>cases c5003:decide (Yf d>0)<;>cases c5004:He d<;>cases c5005:Jq d.After.l<;>rw[c5004]at hg<;>rw[c5005]at hso<;>
  (constructor<;>intro hb<;>first|(exact absurd hb<|by decide)|skip)
 all_goals first
  |(simp only[go_sem,s58p6,c2,c5003,hg,hso,t1,t2,t3,t4];done)
  |(refine⟨_,_,by simp only[go_sem,s58p6,c2,c5003,hg,hso,t1,t2,t3,t4];rfl,?_⟩;simp only[go_sem])
def Z3a(d:Ga)(hd:DoS d):EvS (NM d):=⟨ZVO _,ZVO _,ZVO _,ZVO _,hd.id,ZVO _,hd.veil⟩
def Z3b(d:Ga)(hd:DoS d):EvS (Hf d):=⟨ZVO _,ZVO _,ZVO _,ZVO _,hd.id,hd.building,hd.street⟩
def Fq(s:Sta)(d:Ga)(hd:DoS d)(m:AObj)(rest:ACode):
 (Z3 d.Veil emp=true->Zb rE (.seq s58p7 rest) [(2,stI s),(5,.ptr 0 0 0 1),(6,.bool<|exD d),(90,.bool false)] [.row 16 [Zo d],m]=Zb rE rest [(2,stI s),(5,.ptr 0 0 0 1),(6,.bool<|exD d),(93,.bool false)] [.row 16 [Zo d],m])/\
 (Z3 d.Veil emp=false->∃fr h,Zb rE (.seq s58p7 rest) [(2,stI s),(5,.ptr 0 0 0 1),(6,.bool<|exD d),(90,.bool false)] [.row 16 [Zo d],m]=some (.ret,fr,h)/\get fr 4=.bool (NN d)):=by
 have hm:=Wg 15 (NM d)<|Z3a d hd;have hm':pfn rE 57 [I 15,.agg [I 0,I 0,I 0,I 0,I d.bv,.str d.Id,.str emp,.str d.Veil,.isl false false 1 [],.isl false false 3 [],I 0,.str emp,I 0,I 0,I 0,I 0,.isl false false 2 [],.isl false false 7 []]]=_:=hm;have hn4:(d.An.N==0&&(Z3 d.An.bm emp&&(d.An.Num==0&&d.An.Den==0)))=QL d.An ⟨0,emp,0,0⟩:=rfl;have hn5:(d.bg.X==0&&d.bg.Y==0)=QK d.bg ⟨0,0⟩:=rfl;unfold NN Zo;constructor
 .intro hv;simp only[go_sem,s58p7,hv]
 .intro hv;cases c1:Z3 d.Ev emp with
  |false=>refine⟨_,_,by simp only[go_sem,s58p7,hv,c1];rfl,?_⟩;simp only[go_sem]
  |true=>
  cases c2:Z3 d.By emp with
  |false=>refine⟨_,_,by simp only[go_sem,s58p7,hv,c1,c2];rfl,?_⟩;simp only[go_sem]
  |true=>
  cases c5003:QL d.An ⟨0,emp,0,0⟩with
  |false=>refine⟨_,_,by simp only[go_sem,s58p7,hv,c1,c2,hn4,c5003];rfl,?_⟩;simp only[go_sem]
  |true=>
  cases c5004:QK d.bg ⟨0,0⟩with
  |false=>refine⟨_,_,by simp only[go_sem,s58p7,hv,c1,c2,hn4,c5003,hn5,c5004];rfl,?_⟩;simp only[go_sem]
  |true=>refine⟨_,_,by simp only[go_sem,s58p7,hv,c1,c2,hn4,c5003,hn5,c5004,hm'];rfl,?_⟩;simp only[go_sem]
def QC{α:Type}{P:α->Bool}{l:List α}(h:decide (Zp P l 0<0)=false):∃(j:Nat)(x:α),Zp P l 0=(j:Int)/\l[j]?=some x:=by
 rcases UA P l 0 with⟨h1,_⟩|⟨j,x,h1,h2,_⟩
 .rw[h1]at h;simp at h
 .exact⟨j,x,by rw[h1];omega,h2⟩
def Z3c(s:Sta)(hs:StS s)(d:Ga)(hd:DoS d)(m:AObj):
 ∃fr h,Zb rE (.seq s58p8<|.seq s58p9<|.seq s58p10 .ret) [(2,stI s),(5,.ptr 0 0 0 1),(6,.bool<|exD d),(93,.bool false)] [.row 16 [Zo d],m]=some (.ret,fr,h)/\get fr 4=.bool (!NO s d&&Q9 {Hf d with bq:=6}):=by
 have hm:=Wg 6 (Hf d)<|Z3b d hd;have hm':pfn rE 57 [I 6,.agg [I 0,I 0,I 0,I 0,I 0,.str d.Id,.str d.Ev,.str d.By,.isl false false 1 [],.isl false false 3 [],I d.An.N,.str d.An.bm,I d.An.Num,I d.An.Den,I d.bg.X,I d.bg.Y,.isl false false 2 [],.isl false false 7 []]]=_:=hm;have hb:=Hb s hs d.Ev;have ht:=K7 s hs d.By;unfold NO Zo;cases c1:d.bv != 0 with
 |true=>refine⟨_,_,by simp only[go_sem,s58p8,s58p9,s58p10,hb,ht,c1];rfl,?_⟩;simp only[go_sem]
 |false=>
 cases c2:decide (Y1 s d.Ev<0)with
 |true=>refine⟨_,_,by simp only[go_sem,s58p8,s58p9,s58p10,hb,ht,c1,c2];rfl,?_⟩;simp only[go_sem]
 |false=>
 cases c5003:decide (ZL s d.By<0)with
 |true=>refine⟨_,_,by simp only[go_sem,s58p8,s58p9,s58p10,hb,ht,c1,c2,c5003];rfl,?_⟩;simp only[go_sem]
 |false=>
 obtain⟨j,x,hj,hx⟩:=QC c2;obtain⟨k,y,hk,hy⟩:=QC c5003;have hj':Y1 s d.Ev=(j:Int):=hj;have hk':ZL s d.By=(k:Int):=hk;have hbE:WL s (Y1 s d.Ev)=x.Ld:=by rw[hj'];simp[WL,hx]
 have hsE:QF s (ZL s d.By)=y.Ld:=by rw[hk'];simp[QF,hy]
 have gx:=Z6 (f:=Ev.enc) hx;have gy:=Z6 (f:=By.enc) hy;rw[hbE,hsE];rw[hj']at hb c2;rw[hk']at ht c5003;cases c5004:exD d with
 |false=>refine⟨_,_,by simp only[go_sem,s58p8,s58p9,s58p10,hb,ht,c1,c2,c5003,hm'];rfl,?_⟩;simp only[go_sem]
 |true=>
 cases c5005:x.Ld != -1 with
 |true=>refine⟨_,_,by simp only[go_sem,s58p8,s58p9,s58p10,hb,ht,c1,c2,c5003,gx,Ev.enc,NL.enc,c5005];rfl,?_⟩;simp only[go_sem]
 |false=>
 cases c5006:y.Ld != -1 with
 |true=>refine⟨_,_,by simp only[go_sem,s58p8,s58p9,s58p10,hb,ht,c1,c2,c5003,gx,gy,Ev.enc,By.enc,NL.enc,c5005,c5006];rfl,?_⟩;simp only[go_sem]
 |false=>refine⟨_,_,by simp only[go_sem,s58p8,s58p9,s58p10,hb,ht,c1,c2,c5003,gx,gy,Ev.enc,By.enc,NL.enc,c5005,c5006,hm'];rfl,?_⟩;simp only[go_sem]
def Fs(s:Sta)(hs:StS s)(i:Nat)(d:Ga)(hd:DoS d)(hx:s.Bc[i]?=some d):pfn rE 58 [stA s,I i]=some (.bool<|Hg s i d):=by
 rw[Z5 (f:=58) (c:=c58) rfl rfl,c58_eq];have e0:QP 0 [stA s,I i]=[(0,stA s),(1,I i)]:=rfl;rw[e0];unfold Hg;have fin:∀(fr:Fr)(h:Hp)(b:Bool),get fr 4=.bool b->frz (fnd [ResVar.tmp 4]<|some (.ret,fr,h))=some (.bool b):=by
  intro fr h b hg;simp only[go_sem,hg]
 cases c1:K8 s i d with
 |false=>
  obtain⟨fr,h,h1,h2⟩:=(Fm s hs i d hd hx _).2 c1;rw[h1];exact fin fr h false h2
 |true=>
  rw[(Fm s hs i d hd hx _).1 c1,Z38];cases c2:UC d with
  |true=>
   obtain⟨fr,h,h1,h2⟩:=(Fp s d hd _).2 c2;rw[h1];exact fin fr h false h2
  |false=>
   rw[(Fp s d hd _).1 c2];cases c5003:Z3 d.Veil emp with
   |false=>
    obtain⟨fr,h,h1,h2⟩:=(Fq s d hd (XM d) _).2 c5003;rw[h1];exact fin fr h _ h2
   |true=>
    rw[(Fq s d hd (XM d) _).1 c5003];obtain⟨fr,h,h1,h2⟩:=Z3c s hs d hd<|XM d;rw[h1];exact fin fr h _ h2
structure StE(s:Sta):Prop where
 sizes:StS s
 regions:∀x∈s.Fa,x.bk.l.length<=100/\x.Ring.l.length<=100/\x.Id.size<=1000
 streets:∀x∈s.Gm,x.bk.l.length<=100/\x.Line.l.length<=100/\x.Id.size<=1000
 buildings:∀x∈s.Bt,x.Ring.l.length<=100/\x.Id.size<=1000
 doors:∀x∈s.Bc,DoS x
 units:∀x∈s.Nk,x.Id.size<=1000/\x.Ga.size<=1000/\x.Text.size<=1000
def Jt(x:Gk):Gt:=⟨0,0,x.bq,0,0,x.Id,emp,emp,⟨false,[]⟩,⟨false,[]⟩,⟨0,emp,0,0⟩,⟨0,0⟩,x.Ring,⟨false,[]⟩⟩
def Ju(x:By):Gt:=⟨0,0,0,0,0,x.Id,emp,emp,⟨false,[]⟩,⟨false,[]⟩,⟨0,emp,0,0⟩,⟨0,0⟩,x.Line,⟨false,[]⟩⟩
def Jv(x:Ev):Gt:=⟨0,0,0,0,0,x.Id,emp,emp,⟨false,[]⟩,⟨false,[]⟩,⟨0,emp,0,0⟩,⟨0,0⟩,x.Ring,⟨false,[]⟩⟩
def Vn(x:be):Gt:=⟨0,0,0,0,0,x.Id,x.Ga,x.Text,⟨false,[]⟩,⟨false,[]⟩,⟨0,emp,0,0⟩,⟨0,0⟩,⟨false,[]⟩,⟨false,[]⟩⟩
def Vo(x:Gk):Bool:=QM x.bh x.Ld 0&&(Jp x.bk.l x.bk.ex&&Q9 {Jt x with bq:=1})
def Vp(x:By):Bool:=QM x.bh x.Ld 0&&(Jp x.bk.l x.bk.ex&&Q9 {Ju x with bq:=2})
def Vq(x:Ev):Bool:=QM x.bh x.Ld 0&&Q9 {Jv x with bq:=5}
def Vr(s:Sta)(i:Nat)(x:Ga):Bool:=QM x.bh x.Ld x.From&&Hg s i x
def QN(s:Sta)(k:Int):Int:=match s.Bc[k.toNat]? with|some d=>d.Ld|none=>0
def Jw(s:Sta)(x:be):Bool:=(x.Ld==-1&&(x.Why != 0||QN s (Zn s x.Ga) != -1))||((x.Ld != -1&&x.Why != 12)&&x.Why != 11)
def Vs(s:Sta)(x:be):Bool:=!decide (Zn s x.Ga<0)&&(QM 0 x.Ld x.From&&(Q9 {Vn x with bq:=7}&&!Jw s x))
def Jx(s:Sta):Bool:=s.Fa.all Vo&&(s.Gm.all Vp&&(s.Bt.all Vq&&(Zu (Vr s) 0 s.Bc&&(s.Nk.all (Vs s)&&(Jq (Qp s)&&(Wh s.Bc&&WK s))))))
def Z3d(s:Sta)(hs:StE s):∃fr',Zg rE [1,15,16,17] c9L0b [(1,stI s),(15,.isl false false 6<|s.Fa.map Gk.enc),(16,I s.Fa.length),(17,.int .i64 0)] [] =
 some (if Zu (λ_ x=>Vo x) 0 s.Fa=true then .exit 0 else .ret,fr',[])/\(Zu (λ_ x=>Vo x) 0 s.Fa=true->get fr' 1=stI s/\get fr' 2=.bot)/\(Zu (λ_ x=>Vo x) 0 s.Fa=false->get fr' 2=.bool false):=by
 have L:=QT (E:=rE) (live:=[1,15,16,17]) (b:=c9L0b) (h:=[]) s.Fa (λ_ x=>Vo x)
  (λi=>[(1,stI s),(15,.isl false false 6<|s.Fa.map Gk.enc),(16,I s.Fa.length),(17,I i)]) 0
  (λfr=>get fr 1=stI s/\get fr 2=.bot) (λfr=>get fr 2=.bool false) (λi=>rfl)
  (λi x hx hP=>by
   have hg:=Z6 (f:=Gk.enc) hx;have hi:=Zh<|Z7 hx;have hw:=Zx (n:=i) (by have:=Z7 hx;have:=hs.sizes.regions;omega)
   have hm:=ZVN hx;obtain⟨z1,z2,z3⟩:=hs.regions x hm;have hnm:=Hc x.bk.l x.bk.ex z1;have hmd:pfn rE 57 [I 1,.agg [I 0,I 0,I x.bq,I 0,I 0,.str x.Id,.str emp,.str emp,.isl false false 1 [],.isl false false 3 [],I 0,.str emp,I 0,I 0,I 0,I 0,.isl false x.Ring.ex 2<|x.Ring.l.map Pt.enc,.isl false false 7 []]]=some (.bool<|Q9 {Jt x with bq:=1}):=Wg 1 (Jt x) ⟨ZVO _,ZVO _,z2,ZVO _,z3,ZVO _,ZVO _⟩
   simp only[Vo,ZVB]at hP;obtain⟨p1,p2,p3⟩:=hP;refine⟨_,by simp only[go_sem,c9L0b,hg,hi,hw,Gk.enc,NL.enc,Qc,hnm,hmd,p1,p2,p3];rfl,?_⟩
   simp only[go_sem])
  (λi x hx hP=>by
   have hg:=Z6 (f:=Gk.enc) hx;have hi:=Zh<|Z7 hx;have hm:=ZVN hx;obtain⟨z1,z2,z3⟩:=hs.regions x hm;have hnm:=Hc x.bk.l x.bk.ex z1;have hmd:pfn rE 57 [I 1,.agg [I 0,I 0,I x.bq,I 0,I 0,.str x.Id,.str emp,.str emp,.isl false false 1 [],.isl false false 3 [],I 0,.str emp,I 0,I 0,I 0,I 0,.isl false x.Ring.ex 2<|x.Ring.l.map Pt.enc,.isl false false 7 []]]=some (.bool<|Q9 {Jt x with bq:=1}):=Wg 1 (Jt x) ⟨ZVO _,ZVO _,z2,ZVO _,z3,ZVO _,ZVO _⟩
   unfold Vo at hP;cases p1:QM x.bh x.Ld 0 with
   |false=>
    refine⟨_,by simp only[go_sem,c9L0b,hg,hi,Gk.enc,NL.enc,Qc,p1];rfl,?_⟩
    simp only[go_sem]
   |true=>
   cases p2:Jp x.bk.l x.bk.ex with
   |false=>
    refine⟨_,by simp only[go_sem,c9L0b,hg,hi,Gk.enc,NL.enc,Qc,hnm,p1,p2];rfl,?_⟩
    simp only[go_sem]
   |true=>
    have p3:Q9 {Jt x with bq:=1}=false:=by simpa[p1,p2]using hP
    refine⟨_,by simp only[go_sem,c9L0b,hg,hi,Gk.enc,NL.enc,Qc,hnm,hmd,p1,p2,p3];rfl,?_⟩
    simp only[go_sem])
  (⟨_,by simp only[go_sem,c9L0b,ZG];rfl,by refine⟨?_,?_⟩<;>simp only[go_sem]⟩)
 exact L
def Z3e(s:Sta)(hs:StE s):∃fr',Zg rE [1,46,47,48] c9L1b [(1,stI s),(46,.isl false false 5<|s.Gm.map By.enc),(47,I s.Gm.length),(48,.int .i64 0)] [] =
 some (if Zu (λ_ x=>Vp x) 0 s.Gm=true then .exit 2 else .ret,fr',[])/\(Zu (λ_ x=>Vp x) 0 s.Gm=true->get fr' 1=stI s/\get fr' 2=.bot)/\(Zu (λ_ x=>Vp x) 0 s.Gm=false->get fr' 2=.bool false):=by
 have L:=QT (E:=rE) (live:=[1,46,47,48]) (b:=c9L1b) (h:=[]) s.Gm (λ_ x=>Vp x)
  (λi=>[(1,stI s),(46,.isl false false 5<|s.Gm.map By.enc),(47,I s.Gm.length),(48,I i)]) 2
  (λfr=>get fr 1=stI s/\get fr 2=.bot) (λfr=>get fr 2=.bool false) (λi=>rfl)
  (λi x hx hP=>by
   have hg:=Z6 (f:=By.enc) hx;have hi:=Zh<|Z7 hx;have hw:=Zx (n:=i) (by have:=Z7 hx;have:=hs.sizes.streets;omega)
   have hm:=ZVN hx;obtain⟨z1,z2,z3⟩:=hs.streets x hm;have hnm:=Hc x.bk.l x.bk.ex z1;have hmd:pfn rE 57 [I 2,.agg [I 0,I 0,I 0,I 0,I 0,.str x.Id,.str emp,.str emp,.isl false false 1 [],.isl false false 3 [],I 0,.str emp,I 0,I 0,I 0,I 0,.isl false x.Line.ex 2<|x.Line.l.map Pt.enc,.isl false false 7 []]]=some (.bool<|Q9 {Ju x with bq:=2}):=Wg 2 (Ju x) ⟨ZVO _,ZVO _,z2,ZVO _,z3,ZVO _,ZVO _⟩
   simp only[Vp,ZVB]at hP;obtain⟨p1,p2,p3⟩:=hP;refine⟨_,by simp only[go_sem,c9L1b,hg,hi,hw,By.enc,NL.enc,Qc,hnm,hmd,p1,p2,p3];rfl,?_⟩
   simp only[go_sem])
  (λi x hx hP=>by
   have hg:=Z6 (f:=By.enc) hx;have hi:=Zh<|Z7 hx;have hm:=ZVN hx;obtain⟨z1,z2,z3⟩:=hs.streets x hm;have hnm:=Hc x.bk.l x.bk.ex z1;have hmd:pfn rE 57 [I 2,.agg [I 0,I 0,I 0,I 0,I 0,.str x.Id,.str emp,.str emp,.isl false false 1 [],.isl false false 3 [],I 0,.str emp,I 0,I 0,I 0,I 0,.isl false x.Line.ex 2<|x.Line.l.map Pt.enc,.isl false false 7 []]]=some (.bool<|Q9 {Ju x with bq:=2}):=Wg 2 (Ju x) ⟨ZVO _,ZVO _,z2,ZVO _,z3,ZVO _,ZVO _⟩
   unfold Vp at hP;cases p1:QM x.bh x.Ld 0 with
   |false=>
    refine⟨_,by simp only[go_sem,c9L1b,hg,hi,By.enc,NL.enc,Qc,p1];rfl,?_⟩
    simp only[go_sem]
   |true=>
   cases p2:Jp x.bk.l x.bk.ex with
   |false=>
    refine⟨_,by simp only[go_sem,c9L1b,hg,hi,By.enc,NL.enc,Qc,hnm,p1,p2];rfl,?_⟩
    simp only[go_sem]
   |true=>
    have p3:Q9 {Ju x with bq:=2}=false:=by simpa[p1,p2]using hP
    refine⟨_,by simp only[go_sem,c9L1b,hg,hi,By.enc,NL.enc,Qc,hnm,hmd,p1,p2,p3];rfl,?_⟩
    simp only[go_sem])
  (⟨_,by simp only[go_sem,c9L1b,ZG];rfl,by refine⟨?_,?_⟩<;>simp only[go_sem]⟩)
 exact L
def Z3f(s:Sta)(hs:StE s):∃fr',Zg rE [1,75,76,77] c9L2b [(1,stI s),(75,.isl false false 4<|s.Bt.map Ev.enc),(76,I s.Bt.length),(77,.int .i64 0)] [] =
 some (if Zu (λ_ x=>Vq x) 0 s.Bt=true then .exit 4 else .ret,fr',[])/\(Zu (λ_ x=>Vq x) 0 s.Bt=true->get fr' 1=stI s/\get fr' 2=.bot)/\(Zu (λ_ x=>Vq x) 0 s.Bt=false->get fr' 2=.bool false):=by
 have L:=QT (E:=rE) (live:=[1,75,76,77]) (b:=c9L2b) (h:=[]) s.Bt (λ_ x=>Vq x)
  (λi=>[(1,stI s),(75,.isl false false 4<|s.Bt.map Ev.enc),(76,I s.Bt.length),(77,I i)]) 4
  (λfr=>get fr 1=stI s/\get fr 2=.bot) (λfr=>get fr 2=.bool false) (λi=>rfl)
  (λi x hx hP=>by
   have hg:=Z6 (f:=Ev.enc) hx;have hi:=Zh<|Z7 hx;have hw:=Zx (n:=i) (by have:=Z7 hx;have:=hs.sizes.buildings;omega)
   have hm:=ZVN hx;obtain⟨z2,z3⟩:=hs.buildings x hm;have hmd:pfn rE 57 [I 5,.agg [I 0,I 0,I 0,I 0,I 0,.str x.Id,.str emp,.str emp,.isl false false 1 [],.isl false false 3 [],I 0,.str emp,I 0,I 0,I 0,I 0,.isl false x.Ring.ex 2<|x.Ring.l.map Pt.enc,.isl false false 7 []]]=some (.bool<|Q9 {Jv x with bq:=5}):=Wg 5 (Jv x) ⟨ZVO _,ZVO _,z2,ZVO _,z3,ZVO _,ZVO _⟩
   simp only[Vq,ZVB]at hP;obtain⟨p1,p3⟩:=hP;refine⟨_,by simp only[go_sem,c9L2b,hg,hi,hw,Ev.enc,NL.enc,Qc,hmd,p1,p3];rfl,?_⟩
   simp only[go_sem])
  (λi x hx hP=>by
   have hg:=Z6 (f:=Ev.enc) hx;have hi:=Zh<|Z7 hx;have hm:=ZVN hx;obtain⟨z2,z3⟩:=hs.buildings x hm;have hmd:pfn rE 57 [I 5,.agg [I 0,I 0,I 0,I 0,I 0,.str x.Id,.str emp,.str emp,.isl false false 1 [],.isl false false 3 [],I 0,.str emp,I 0,I 0,I 0,I 0,.isl false x.Ring.ex 2<|x.Ring.l.map Pt.enc,.isl false false 7 []]]=some (.bool<|Q9 {Jv x with bq:=5}):=Wg 5 (Jv x) ⟨ZVO _,ZVO _,z2,ZVO _,z3,ZVO _,ZVO _⟩
   unfold Vq at hP;cases p1:QM x.bh x.Ld 0 with
   |false=>
    refine⟨_,by simp only[go_sem,c9L2b,hg,hi,Ev.enc,NL.enc,Qc,p1];rfl,?_⟩
    simp only[go_sem]
   |true=>
    have p3:Q9 {Jv x with bq:=5}=false:=by simpa[p1]using hP
    refine⟨_,by simp only[go_sem,c9L2b,hg,hi,Ev.enc,NL.enc,Qc,hmd,p1,p3];rfl,?_⟩
    simp only[go_sem])
  (⟨_,by simp only[go_sem,c9L2b,ZG];rfl,by refine⟨?_,?_⟩<;>simp only[go_sem]⟩)
 exact L
def Z3g(s:Sta)(hs:StE s):∃fr',Zg rE [1,98,99,100] c9L3b [(1,stI s),(98,.isl false false 16<|s.Bc.map Ga.enc),(99,I s.Bc.length),(100,.int .i64 0)] [] =
 some (if Zu (Vr s) 0 s.Bc=true then .exit 6 else .ret,fr',[])/\(Zu (Vr s) 0 s.Bc=true->get fr' 1=stI s/\get fr' 2=.bot)/\(Zu (Vr s) 0 s.Bc=false->get fr' 2=.bool false):=by
 have L:=QT (E:=rE) (live:=[1,98,99,100]) (b:=c9L3b) (h:=[]) s.Bc (Vr s)
  (λi=>[(1,stI s),(98,.isl false false 16<|s.Bc.map Ga.enc),(99,I s.Bc.length),(100,I i)]) 6
  (λfr=>get fr 1=stI s/\get fr 2=.bot) (λfr=>get fr 2=.bool false) (λi=>rfl)
  (λi x hx hP=>by
   have hg:=Z6 (f:=Ga.enc) hx;have hi:=Zh<|Z7 hx;have hw:=Zx (n:=i) (by have:=Z7 hx;have:=hs.sizes.doors;omega)
   have hm:=ZVN hx;have hst:=Fs s hs.sizes i x (hs.doors x hm) hx;simp only[Vr,ZVB]at hP;obtain⟨p1,p3⟩:=hP;refine⟨_,by simp only[go_sem,c9L3b,hg,hi,hw,Ga.enc,NL.enc,Qc,hst,p1,p3];rfl,?_⟩
   simp only[go_sem])
  (λi x hx hP=>by
   have hg:=Z6 (f:=Ga.enc) hx;have hi:=Zh<|Z7 hx;have hm:=ZVN hx;have hst:=Fs s hs.sizes i x (hs.doors x hm) hx;unfold Vr at hP;cases p1:QM x.bh x.Ld x.From with
   |false=>
    refine⟨_,by simp only[go_sem,c9L3b,hg,hi,Ga.enc,NL.enc,Qc,p1];rfl,?_⟩
    simp only[go_sem]
   |true=>
    have p3:Hg s i x=false:=by simpa[p1]using hP
    refine⟨_,by simp only[go_sem,c9L3b,hg,hi,Ga.enc,NL.enc,Qc,hst,p1,p3];rfl,?_⟩
    simp only[go_sem])
  (⟨_,by simp only[go_sem,c9L3b,ZG];rfl,by refine⟨?_,?_⟩<;>simp only[go_sem]⟩)
 exact L
def Z3h(s:Sta)(hs:StE s):∃fr',Zg rE [1,121,122,123] c9L4b [(1,stI s),(121,.isl false false 6<|s.Nk.map be.enc),(122,I s.Nk.length),(123,.int .i64 0)] [] =
 some (if Zu (λ_ x=>Vs s x) 0 s.Nk=true then .exit 8 else .ret,fr',[])/\(Zu (λ_ x=>Vs s x) 0 s.Nk=true->get fr' 1=stI s/\get fr' 2=.bot)/\(Zu (λ_ x=>Vs s x) 0 s.Nk=false->get fr' 2=.bool false):=by
 have L:=QT (E:=rE) (live:=[1,121,122,123]) (b:=c9L4b) (h:=[]) s.Nk (λ_ x=>Vs s x)
  (λi=>[(1,stI s),(121,.isl false false 6<|s.Nk.map be.enc),(122,I s.Nk.length),(123,I i)]) 8
  (λfr=>get fr 1=stI s/\get fr 2=.bot) (λfr=>get fr 2=.bool false) (λi=>rfl)
  (λi x hx hP=>by
   have hg:=Z6 (f:=be.enc) hx;have hi:=Zh<|Z7 hx;have hw:=Zx (n:=i) (by have:=Z7 hx;have:=hs.sizes.units;omega)
   have hm:=ZVN hx;obtain⟨z1,z2,z3⟩:=hs.units x hm;have hf:=find_ok s hs.sizes x.Ga;have hmd:pfn rE 57 [I 7,.agg [I 0,I 0,I 0,I 0,I 0,.str x.Id,.str x.Ga,.str x.Text,.isl false false 1 [],.isl false false 3 [],I 0,.str emp,I 0,I 0,I 0,I 0,.isl false false 2 [],.isl false false 7 []]]=some (.bool<|Q9 {Vn x with bq:=7}):=Wg 7 (Vn x) ⟨ZVO _,ZVO _,ZVO _,ZVO _,z1,z2,z3⟩
   unfold Vs at hP;have p0:decide (Zn s x.Ga<0)=false:=by cases h:decide (Zn s x.Ga<0)<;>simp_all
   have p1:QM 0 x.Ld x.From=true:=by cases h:QM 0 x.Ld x.From<;>simp_all
   have p2:Q9 {Vn x with bq:=7}=true:=by cases h:Q9 {Vn x with bq:=7}<;>simp_all
   have p3:Jw s x=false:=by cases h:Jw s x<;>simp_all
   obtain⟨j,y,hj,hy⟩:=QC p0;have hj':Zn s x.Ga=(j:Int):=hj;have gy:=Z6 (f:=Ga.enc) hy;have hdE:QN s (Zn s x.Ga)=y.Ld:=by rw[hj'];simp[QN,hy]
   unfold Jw at p3;rw[hdE]at p3;rw[hj']at hf p0;have ne:(x.Ld != -1) = !(x.Ld==-1):=rfl;rw[ne]at p3;cases q1:x.Ld==-1 with
   |true=>
    have ne':(x.Ld != -1)=false:=by rw[ne,q1];rfl
    have q2:(x.Why != 0)=false:=by cases h:x.Why != 0<;>simp_all
    have q3:(y.Ld != -1)=false:=by cases h:y.Ld != -1<;>simp_all
    refine⟨_,by simp only[go_sem,c9L4b,hg,hi,hw,gy,be.enc,Ga.enc,NL.enc,Qc,hf,hmd,p0,p1,p2,q1,q2,q3,ne'];rfl,?_⟩
    simp only[go_sem]
   |false=>
    have ne':(x.Ld != -1)=true:=by rw[ne,q1];rfl
    cases q4:x.Why != 12 with
    |false=>
     refine⟨_,by simp only[go_sem,c9L4b,hg,hi,hw,be.enc,Qc,hf,hmd,p0,p1,p2,q1,ne',q4];rfl,?_⟩
     simp only[go_sem]
    |true=>
     have q5:(x.Why != 11)=false:=by cases h:x.Why != 11<;>simp_all
     refine⟨_,by simp only[go_sem,c9L4b,hg,hi,hw,be.enc,Qc,hf,hmd,p0,p1,p2,q1,ne',q4,q5];rfl,?_⟩
     simp only[go_sem])
  (λi x hx hP=>by
   have hg:=Z6 (f:=be.enc) hx;have hi:=Zh<|Z7 hx;have hm:=ZVN hx;obtain⟨z1,z2,z3⟩:=hs.units x hm;have hf:=find_ok s hs.sizes x.Ga;have hmd:pfn rE 57 [I 7,.agg [I 0,I 0,I 0,I 0,I 0,.str x.Id,.str x.Ga,.str x.Text,.isl false false 1 [],.isl false false 3 [],I 0,.str emp,I 0,I 0,I 0,I 0,.isl false false 2 [],.isl false false 7 []]]=some (.bool<|Q9 {Vn x with bq:=7}):=Wg 7 (Vn x) ⟨ZVO _,ZVO _,ZVO _,ZVO _,z1,z2,z3⟩
   unfold Vs at hP;cases p0:decide (Zn s x.Ga<0)with
   |true=>
    refine⟨_,by simp only[go_sem,c9L4b,hg,hi,be.enc,hf,p0];rfl,?_⟩
    simp only[go_sem]
   |false=>
   cases p1:QM 0 x.Ld x.From with
   |false=>
    refine⟨_,by simp only[go_sem,c9L4b,hg,hi,be.enc,hf,p0,Qc,p1];rfl,?_⟩
    simp only[go_sem]
   |true=>
   cases p2:Q9 {Vn x with bq:=7}with
   |false=>
    refine⟨_,by simp only[go_sem,c9L4b,hg,hi,be.enc,hf,p0,Qc,p1,hmd,p2];rfl,?_⟩
    simp only[go_sem]
   |true=>
   have p3:Jw s x=true:=by simpa[p0,p1,p2]using hP
   obtain⟨j,y,hj,hy⟩:=QC p0;have hj':Zn s x.Ga=(j:Int):=hj;have gy:=Z6 (f:=Ga.enc) hy;have hdE:QN s (Zn s x.Ga)=y.Ld:=by rw[hj'];simp[QN,hy]
   unfold Jw at p3;rw[hdE]at p3;rw[hj']at hf p0;have ne:(x.Ld != -1) = !(x.Ld==-1):=rfl;rw[ne]at p3;cases q1:x.Ld==-1 with
   |true=>
    have ne':(x.Ld != -1)=false:=by rw[ne,q1];rfl
    cases q2:x.Why != 0 with
    |true=>
     refine⟨_,by simp only[go_sem,c9L4b,hg,hi,be.enc,Qc,hf,hmd,p0,p1,p2,q1,q2];rfl,?_⟩
     simp only[go_sem]
    |false=>
     have q3:(y.Ld != -1)=true:=by simpa[q1,q2]using p3
     refine⟨_,by simp only[go_sem,c9L4b,hg,hi,gy,be.enc,Ga.enc,NL.enc,Qc,hf,hmd,p0,p1,p2,q1,q2,q3];rfl,?_⟩
     simp only[go_sem]
   |false=>
    have ne':(x.Ld != -1)=true:=by rw[ne,q1];rfl
    have q4:(x.Why != 12)=true:=by cases h:x.Why != 12<;>simp_all
    have q5:(x.Why != 11)=true:=by cases h:x.Why != 11<;>simp_all
    refine⟨_,by simp only[go_sem,c9L4b,hg,hi,be.enc,Qc,hf,hmd,p0,p1,p2,q1,ne',q4,q5];rfl,?_⟩
    simp only[go_sem])
  (⟨_,by simp only[go_sem,c9L4b,ZG];rfl,by refine⟨?_,?_⟩<;>simp only[go_sem]⟩)
 exact L
def Z3i(s:Sta)(hs:StE s):pfn rE 9 [stA s]=some (.bool<|Jx s):=by
 obtain⟨f0,a0,b0,d0⟩:=Z3d s hs;obtain⟨f1,a1,b1,d1⟩:=Z3e s hs;obtain⟨f2,a2,b2,d2⟩:=Z3f s hs;obtain⟨f3,a3,b3,d3⟩:=Z3g s hs;obtain⟨f4,a4,b4,d4⟩:=Z3h s hs;rw[QE]at a0 b0 d0 a1 b1 d1 a2 b2 d2 a4 b4 d4;have hi:=Fd s hs.sizes;have hso:=Fj (Qp s) false (by have h1:=hs.sizes.regions;have h2:=hs.sizes.streets;have h3:=hs.sizes.buildings;have h4:=hs.sizes.doors;have h5:=hs.sizes.units;simp[Qp];omega)
 have hn:=Fk s hs.sizes;have hp:=Z31 s hs.sizes;rw[Z5 (f:=9) rfl rfl];unfold Jx;cases c0:s.Fa.all Vo with
 |false=>rw[c0]at a0;simp only[go_sem,c9,c9L0,a0,d0 c0,ZVI]
 |true=>
 rw[c0,if_pos rfl]at a0;obtain⟨p0,q0⟩:=b0 c0;cases c1:s.Gm.all Vp with
 |false=>rw[c1]at a1;simp only[go_sem,c9,c9L0,c9L1,a0,p0,q0,a1,d1 c1,ZVI]
 |true=>
 rw[c1,if_pos rfl]at a1;obtain⟨p1,q1⟩:=b1 c1;cases c2:s.Bt.all Vq with
 |false=>rw[c2]at a2;simp only[go_sem,c9,c9L0,c9L1,c9L2,a0,p0,q0,a1,p1,q1,a2,d2 c2,ZVI]
 |true=>
 rw[c2,if_pos rfl]at a2;obtain⟨p2,q2⟩:=b2 c2;cases c5003:Zu (Vr s) 0 s.Bc with
 |false=>rw[c5003]at a3;simp only[go_sem,c9,c9L0,c9L1,c9L2,c9L3,a0,p0,q0,a1,p1,q1,a2,p2,q2,a3,d3 c5003,ZVI]
 |true=>
 rw[c5003,if_pos rfl]at a3;obtain⟨p3,q3⟩:=b3 c5003;cases c5004:s.Nk.all (Vs s)with
 |false=>rw[c5004]at a4;simp only[go_sem,c9,c9L0,c9L1,c9L2,c9L3,c9L4,a0,p0,q0,a1,p1,q1,a2,p2,q2,a3,p3,q3,a4,d4 c5004,ZVI]
 |true=>
 rw[c5004,if_pos rfl]at a4;obtain⟨p4,q4⟩:=b4 c5004;cases c5005:Jq (Qp s)<;>cases c5006:Wh s.Bc<;>rw[c5005]at hso<;>rw[c5006]at hn<;>
  simp only[go_sem,c9,c9L0,c9L1,c9L2,c9L3,c9L4,a0,p0,q0,a1,p1,q1,a2,p2,q2,a3,p3,q3,a4,p4,q4,hi,hso,hn,hp]
def Z3j(a0 a1 a2 a3:AObj)(b:Bool):trimB 4 [a0,a1,a2,a3] b=[a0,a1,a2,a3]:=by cases b<;>rfl
def Z3k(a0 a1 a2 a3 a4:AObj)(b:Bool):trimB 5 [a0,a1,a2,a3,a4] b=[a0,a1,a2,a3,a4]:=by cases b<;>rfl
def Z3l(a0 a1 a2 a3 a4 a5:AObj)(b:Bool):trimB 6 [a0,a1,a2,a3,a4,a5] b=[a0,a1,a2,a3,a4,a5]:=by cases b<;>rfl
def Z3m(a0 a1 a2 a3 a4 a5 a6:AObj)(b:Bool):trimB 7 [a0,a1,a2,a3,a4,a5,a6] b=[a0,a1,a2,a3,a4,a5,a6]:=by cases b<;>rfl
def Z3n(a0 a1 a2 a3 a4 a5 a6 a7:AObj)(b:Bool):trimB 8 [a0,a1,a2,a3,a4,a5,a6,a7] b=[a0,a1,a2,a3,a4,a5,a6,a7]:=by cases b<;>rfl
attribute [go_sem] Z3j Z3k Z3l Z3m Z3n
structure Wk where
 s:Sta
 owner:Int
 e:Gt
 kn:List Str
structure WkS(w:Wk):Prop where
 s:StS w.s
 e:EvS w.e
 kn:w.kn.length<=100000
def Z3o(b i off g:Nat):Zy (.ptr b i off g)=false:=(rfl)
def Z3p(b g off len:Nat)(ex:Bool):Zy (.sl b g off len ex)=false:=(rfl)
def Z3q(b:Nat):Zy (.mp b)=false:=(rfl)
attribute [go_sem] Z3o Z3p Z3q
structure StF(s:Sta):Prop where
 e:StE s
 regions:s.Fa.length<=500
 streets:s.Gm.length<=500
 buildings:s.Bt.length<=500
 doors:s.Bc.length<=500
 units:s.Nk.length<=500
 merged:s.Gc.length<=500
 rulings:s.ba.length<=500
def Gr(s s':Sta):Prop:=s'.Fa.length<=s.Fa.length+200/\s'.Gm.length<=s.Gm.length+200/\s'.Bt.length<=s.Bt.length+200/\s'.Bc.length<=s.Bc.length+200/\s'.Nk.length<=s.Nk.length+200/\s'.Gc.length<=s.Gc.length+200/\s'.ba.length<=s.ba.length+200
structure Same(s s':Sta):Prop where
 regions:s'.Fa.length=s.Fa.length
 streets:s'.Gm.length=s.Gm.length
 buildings:s'.Bt.length=s.Bt.length
 doors:s'.Bc.length=s.Bc.length
 units:s'.Nk.length=s.Nk.length
 merged:s'.Gc.length=s.Gc.length
 rulings:s'.ba.length=s.ba.length
def Same.refl(s:Sta):Same s s:=⟨rfl,rfl,rfl,rfl,rfl,rfl,rfl⟩
def Same.trans{a b c:Sta}(h:Same a b)(k:Same b c):Same a c:=⟨k.1.trans h.1,k.2.trans h.2,k.3.trans h.3,k.4.trans h.4,k.5.trans h.5,k.6.trans h.6,k.7.trans h.7⟩
def Gr.same{a b c:Sta}(h:Gr a b)(k:Same b c):Gr a c:=by
 obtain⟨h1,h2,h3,h4,h5,h6,h7⟩:=h;exact⟨by rw[k.1];exact h1,by rw[k.2];exact h2,by rw[k.3];exact h3,by rw[k.4];exact h4,by rw[k.5];exact h5,by rw[k.6];exact h6,by rw[k.7];exact h7⟩
def ZU(s:Str):Bool:=!decide ((s.size:Int)>100)
def Vv(bw ex:Bool)(l:List Str)(hl:l.length<9223372036854775807):pfn rE 92 [.isl bw ex 1<|l.map encS]=some (.bool<|l.all ZU):=by
 have L:=Uf (E:=rE) (live:=[0,3]) (b:=c92L0b) (h:=[]) l (λ_ x=>ZU x) (λi=>[(0,.isl bw ex 1<|l.map encS),(3,I i)]) 0 (λfr=>get fr 2=.bool false) (λi=>rfl)
  (λi x hx hP=>by
   have hg:=Z6 (f:=encS) hx;have hi:=Zh<|Z7 hx;have hw:=Zx (n:=i) (by have:=Z7 hx;omega)
   have hP':decide ((x.size:Int)>100)=false:=by simpa[ZU]using hP
   refine⟨_,by simp only[go_sem,c92L0b,hg,hi,hw,hP',encS];rfl,?_⟩
   simp only[go_sem])
  (λi x hx hP=>by
   have hg:=Z6 (f:=encS) hx;have hi:=Zh<|Z7 hx;have hP':decide ((x.size:Int)>100)=true:=by simpa[ZU]using hP
   refine⟨_,by simp only[go_sem,c92L0b,hg,hi,hP',encS];rfl,?_⟩
   simp only[go_sem])
  (⟨_,by simp only[go_sem,c92L0b,ZG];rfl⟩)
 rw[Z5 (f:=92) rfl rfl];rw[QE]at L;obtain⟨fr',h1,h2⟩:=L;have h1':Zg rE [0,3] c92L0b [(0,.isl bw ex 1<|l.map encS),(3,.int .i64 0)] []=_:=h1;cases hc:l.all ZU with
 |true=>rw[hc]at h1';simp only[go_sem,c92,c92L0,h1']
 |false=>
  rw[hc]at h1';have h2':=h2 hc;simp only[go_sem,c92,c92L0,h1',h2',ZVI]
def JK(a:Str):pfn rE 92 [.isl false false 1 [.str a]]=some (.bool<|[a].all ZU):=Vv false false [a]<|by simp
def HG(a b:Str):pfn rE 92 [.isl false false 1 [.str a,.str b]]=some (.bool<|[a,b].all ZU):=Vv false false [a,b]<|by simp
def FP(a b c:Str):pfn rE 92 [.isl false false 1 [.str a,.str b,.str c]]=some (.bool<|[a,b,c].all ZU):=Vv false false [a,b,c]<|by simp
def FQ(a b c d e:Str):pfn rE 92 [.isl false false 1 [.str a,.str b,.str c,.str d,.str e]]=some (.bool<|[a,b,c,d,e].all ZU):=Vv false false [a,b,c,d,e]<|by simp
def HH{α:Type}{l:List α}{n i:Nat}{x:α}(h:(l.take n)[i]?=some x):l[i]?=some x/\i<n:=by
 have hi:=Z7 h;rw[ZWA]at hi;rw[ZXk<|by omega]at h
 exact⟨h,by omega⟩
def FR{α:Type}(l:List α):(decide ((((l.take 10).length:Nat):Int)<(l.length:Int))=true->decide ((((l.take 10).length:Nat):Int)<10)=false):=by
 intro h;have:=of_decide_eq_true h;rw[ZWA]at*;exact decide_eq_false<|by omega
def M1(x:Nm):Bool:=[x.Lang,x.Text].all ZU
def XQ(l:List Nm):Bool:=(l.take 10).all M1&&decide ((l.length:Int)<=10)
def UQ(ex:Bool)(l:List Nm):pfn rE 93 [.isl false ex 3<|l.map Nm.enc]=some (.bool<|XQ l):=by
 have L:=QT (E:=rE) (live:=[0,3]) (b:=c93L0b) (h:=[]) (l.take 10) (λ_ x=>M1 x) (λi=>[(0,.isl false ex 3<|l.map Nm.enc),(3,I i)]) 0 (λfr=>get fr 0=.isl false ex 3 (l.map Nm.enc)/\get fr 2=.bot) (λfr=>get fr 2=.bool false) (λi=>rfl)
  (λi x hx hP=>by
   obtain⟨hx',hi10⟩:=HH hx;have hg:=Z6 (f:=Nm.enc) hx';have hi:=Zh<|Z7 hx';have hw:=Zx (n:=i)<|by omega
   have h10:decide ((i:Int)<10)=true:=decide_eq_true<|by omega
   have hS:=HG x.Lang x.Text;have hP':[x.Lang,x.Text].all ZU=true:=hP;rw[hP']at hS;refine⟨_,by simp only[go_sem,c93L0b,hg,hi,hw,h10,Nm.enc,hS];rfl,?_⟩
   simp only[go_sem])
  (λi x hx hP=>by
   obtain⟨hx',hi10⟩:=HH hx;have hg:=Z6 (f:=Nm.enc) hx';have hi:=Zh<|Z7 hx';have h10:decide ((i:Int)<10)=true:=decide_eq_true<|by omega
   have hS:=HG x.Lang x.Text;have hP':[x.Lang,x.Text].all ZU=false:=hP;rw[hP']at hS;refine⟨_,by simp only[go_sem,c93L0b,hg,hi,h10,Nm.enc,hS];rfl,?_⟩
   simp only[go_sem])
  (by
   cases c:decide ((((l.take 10).length:Nat):Int)<(l.length:Int))with
   |true=>
    have h10:=FR l c;exact⟨_,by simp only[go_sem,c93L0b,c,h10];rfl,by simp only[go_sem],by simp only[go_sem]⟩
   |false=>exact⟨_,by simp only[go_sem,c93L0b,c];rfl,by simp only[go_sem],by simp only[go_sem]⟩)
 rw[Z5 (f:=93) rfl rfl];rw[QE]at L;obtain⟨fr',h1,h3,h2⟩:=L;have h1':Zg rE [0,3] c93L0b [(0,.isl false ex 3<|l.map Nm.enc),(3,.int .i64 0)] []=_:=h1;unfold XQ;cases hc:(l.take 10).all M1 with
 |true=>
  rw[hc]at h1';obtain⟨q0,q2⟩:=h3 hc;simp only[go_sem,c93,c93L0,h1',q0,q2]
 |false=>
  rw[hc]at h1';have h2':=h2 hc;simp only[go_sem,c93,c93L0,h1',h2',ZVI]
abbrev evI(e:Gt):AV:=.iptr false [I e.bq,I e.Day,I e.A,I e.B,I e.bv,.str e.Id,.str e.br,.str e.Text,.isl false e.Ids.ex 1<|e.Ids.l.map encS,.isl false e.bk.ex 3<|e.bk.l.map Nm.enc,
 I e.An.N,.str e.An.bm,I e.An.Num,I e.An.Den,I e.bg.X,I e.bg.Y,.isl false e.Path.ex 2<|e.Path.l.map Pt.enc,.isl false e.Lst.ex 7<|e.Lst.l.map Ent.enc]
def pwD{α:Type}(eq:α->α->Bool):List α->List α->Bool
 |_,[]=>true
 |K,x::r=>!K.any (eq x)&&pwD eq (K++[x]) r
def ZPu{α:Type}(eq:α->α->Bool):∀(l K:List α),(l.foldl (Qi eq) K).length<=K.length+l.length/\((l.foldl (Qi eq) K).length=K.length+l.length↔pwD eq K l=true)
 |[],K=>⟨by simp,by simp[pwD]⟩
 |x::r,K=>by
  rw[ZWI];unfold pwD;have e:Qi eq K x=bif K.any (eq x)then K else K++[x]:=rfl;rw[e];cases hx:K.any (eq x)with
  |true=>
   obtain⟨h1,h2⟩:=ZPu eq r K;rw[cond_true,ZVU];refine⟨by omega,⟨λh=>by omega,λh=>by simp at h⟩⟩
  |false=>
   obtain⟨h1,h2⟩:=ZPu eq r<|K++[x];rw[cond_false,ZVU];rw[ZVQ,ZXd]at h1 h2;refine⟨by omega,?_⟩
   rw[show K.length+(r.length+1)=K.length+1+r.length by omega,h2]
   simp
def ZRa{α:Type}(eq:α->α->Bool):∀(r K:List α),Zu (λi x=>!((K++r).take i).any (eq x)) K.length r=pwD eq K r
 |[],K=>rfl
 |x::r,K=>by
  have h:=ZRa eq r<|K++[x];rw[ZVY,ZYh,ZVQ,ZXd]at h;show(!((K++x::r).take K.length).any (eq x)&&Zu _ (K.length+1) r)=_
  rw[h,List.take_left];rfl
def ZPv{α:Type}(eq:α->α->Bool)(l:List α):XH eq l=Zu (λi x=>!(l.take i).any (eq x)) 0 l:=by
 have h:=ZRa eq l [];rw[ZWb]at h;rw[show(0:Nat)=([]:List α).length from rfl,h]
 unfold XH;have h2:=(ZPu eq l []).2;rw[ZWs,ZVM]at h2;rw[ZW1,beq_iff_eq,<-h2];omega
def ZPb{α:Type}(P Q:Nat->α->Bool):∀(l:List α)(i:Nat),Zu (λi x=>P i x&&Q i x) i l=(Zu P i l&&Zu Q i l)
 |[],i=>rfl
 |x::r,i=>by
  show((P i x&&Q i x)&&Zu (λi x=>P i x&&Q i x) (i+1) r)=((P i x&&Zu P (i+1) r)&&(Q i x&&Zu Q (i+1) r))
  rw[ZPb P Q r<|i+1];generalize Zu P (i+1) r=a;generalize Zu Q (i+1) r=b;cases P i x<;>cases Q i x<;>cases a<;>cases b<;>rfl
def ZOS{α:Type}{P Q:Nat->α->Bool}(l:List α)(i:Nat)(h:∀i x,P i x=Q i x):Zu P i l=Zu Q i l:=by
 rw[show P=Q from funext λi=>funext λx=>h i x]
def ZOT(x y:Str):Z3 x y=Z3 y x:=by
 rw[ZW1,Ky,Ky];exact eq_comm
def ZOU{α:Type}(p:α->Bool)(l:List α):(!l.any p)=l.all (λb=>!p b):=(ZP0 p l).symm
def Vx(l:List Str)(i:Nat)(x:Str):Bool:=ZZ x&&(l.take i).all (λy=>!Z3 y x)
def ZRb(bw ex:Bool)(l:List Str)(hl:l.length<=1000000)(i:Nat)(x:Str)(hx:l[i]?=some x):∃fr',Zg rE [0,3,4] c138L0b [(0,.isl bw ex 1<|l.map encS),(3,I i),(4,.int .i64 0)] []=some (if(l.take i).all (λy=>!Z3 y x)=true then .exit 2 else .ret,fr',[])/\
 ((l.take i).all (λy=>!Z3 y x)=true->get fr' 0=.isl bw ex 1 (l.map encS)/\get fr' 3=I i)/\((l.take i).all (λy=>!Z3 y x)=false->get fr' 2=.bool false):=by
 have hgx:=Z6 (f:=encS) hx;have hli:=Z7 hx;have L:=QT (E:=rE) (live:=[0,3,4]) (b:=c138L0b) (h:=[]) (l.take i) (λ_ y=>!Z3 y x) (λk=>[(0,.isl bw ex 1<|l.map encS),(3,I i),(4,I k)]) 2
  (λfr=>get fr 0=.isl bw ex 1 (l.map encS)/\get fr 3=I i) (λfr=>get fr 2=.bool false) (λk=>rfl)
  (λk y hy hP=>by
   obtain⟨hy',hk⟩:=HH hy;have hgy:=Z6 (f:=encS) hy';have hlt:=Zh hk;have hw:=Zx (n:=k)<|by omega
   have hP':Z3 y x=false:=by simpa using hP
   cases bw<;>refine⟨_,by simp only[go_sem,c138L0b,hgx,hgy,hlt,hw,encS,hP'];rfl,?_⟩<;>simp only[go_sem])
  (λk y hy hP=>by
   obtain⟨hy',hk⟩:=HH hy;have hgy:=Z6 (f:=encS) hy';have hlt:=Zh hk;have hP':Z3 y x=true:=by simpa using hP
   cases bw<;>refine⟨_,by simp only[go_sem,c138L0b,hgx,hgy,hlt,encS,hP'];rfl,?_⟩<;>simp only[go_sem])
  (by
   have e:(l.take i).length=i:=by rw[ZWA];omega
   rw[e];exact⟨_,by simp only[go_sem,c138L0b,ZG];rfl,by simp only[go_sem],by simp only[go_sem]⟩)
 rw[QE]at L;exact L
def ZTg(bw ex:Bool)(l:List Str)(hl:l.length<=1000000)(hs:∀x∈l,x.size<=1000000):pfn rE 138 [.isl bw ex 1<|l.map encS]=some (.bool<|Zu (Vx l) 0 l):=by
 have L:=QT (E:=rE) (live:=[0,3]) (b:=c138L1b) (h:=[]) l (Vx l) (λi=>[(0,.isl bw ex 1<|l.map encS),(3,I i)]) 0
  (λfr=>True) (λfr=>get fr 2=.bool false) (λk=>rfl)
  (λi x hx hP=>by
   have hg:=Z6 (f:=encS) hx;have hlt:=Zh<|Z7 hx;have hw:=Zx (n:=i) (by have:=Z7 hx;omega)
   obtain⟨fr',h1,h2,_⟩:=ZRb bw ex l hl i x hx;have hn:=ZOi x<|hs x<|ZVN hx;unfold Vx at hP;rw[ZVB]at hP;rw[hP.2]at h1;obtain⟨g0,g3⟩:=h2 hP.2;refine⟨_,by simp only[go_sem,c138L1b,c138L0,hg,hlt,hw,encS,hn,hP.1,h1,g0,g3,ZVA,ZVC,if_true];rfl,?_⟩
   simp only[go_sem])
  (λi x hx hP=>by
   have hg:=Z6 (f:=encS) hx;have hlt:=Zh<|Z7 hx;obtain⟨fr',h1,_,h2⟩:=ZRb bw ex l hl i x hx;have hn:=ZOi x<|hs x<|ZVN hx;unfold Vx at hP;cases c:ZZ x with
   |false=>
    refine⟨_,by simp only[go_sem,c138L1b,hg,hlt,encS,hn,c,ZVA,ZVE];rfl,?_⟩
    simp only[go_sem]
   |true=>
    rw[c,ZVD]at hP;rw[hP]at h1;refine⟨_,by simp only[go_sem,c138L1b,c138L0,hg,hlt,encS,hn,c,h1,ZVA,ZVC,ZVI,if_false];rfl,?_⟩
    simp only[go_sem,h2 hP])
  (⟨_,by simp only[go_sem,c138L1b,ZG,ZVA];rfl,trivial⟩)
 obtain⟨fr',h1,_,h2⟩:=L;have h1':Zg rE [0,3] c138L1b [(0,.isl bw ex 1<|l.map encS),(3,.int .i64 0)] []=_:=h1;rw[Z5 (f:=138) rfl rfl];cases hc:Zu (Vx l) 0 l with
 |false=>rw[hc]at h1';simp only[go_sem,c138,c138L1,h1',h2 hc,ZVI]
 |true=>rw[hc]at h1';simp only[go_sem,c138,c138L1,h1']
def ZTh(l:List Str):Zu (Vx l) 0 l=Qv l:=by
 unfold Qv;have e:∀i x,Vx l i x=(ZZ x&&!(l.take i).any (Z3 x)):=λi x=>by
  unfold Vx;rw[ZOU];congr 1;apply ZOk;intro y _;rw[ZOT]
 rw[ZOS l 0 e,ZPb,<-ZPv,QE<|λx=>ZZ x,Bool.and_comm]
 congr 1;unfold Ha;rw[<-ZP0];simp
def ZRc(bw ex:Bool)(l:List Str)(hl:l.length<=1000000)(hs:∀x∈l,x.size<=1000000):pfn rE 138 [.isl bw ex 1<|l.map encS]=some (.bool<|Qv l):=by
 rw[ZTg bw ex l hl hs,ZTh]
def ZOl(x y:Nm):Bool:=Z3 y.Lang x.Lang&&(y.Script==x.Script)
def ZOJ(l:List Nm)(i:Nat)(x:Nm):Bool:=Uy x&&(l.take i).all (λy=>!ZOl x y)
def ZRd(ex:Bool)(l:List Nm)(hl:l.length<=1000000)(i:Nat)(x:Nm)(hx:l[i]?=some x):∃fr',Zg rE [0,3,4] c137L0b [(0,.isl false ex 3<|l.map Nm.enc),(3,I i),(4,.int .i64 0)] []=some (if(l.take i).all (λy=>!ZOl x y)=true then .exit 2 else .ret,fr',[])/\
 ((l.take i).all (λy=>!ZOl x y)=true->get fr' 0=.isl false ex 3 (l.map Nm.enc)/\get fr' 3=I i)/\((l.take i).all (λy=>!ZOl x y)=false->get fr' 2=.bool false):=by
 have hgx:=Z6 (f:=Nm.enc) hx;have hli:=Z7 hx;have L:=QT (E:=rE) (live:=[0,3,4]) (b:=c137L0b) (h:=[]) (l.take i) (λ_ y=>!ZOl x y) (λk=>[(0,.isl false ex 3<|l.map Nm.enc),(3,I i),(4,I k)]) 2
  (λfr=>get fr 0=.isl false ex 3 (l.map Nm.enc)/\get fr 3=I i) (λfr=>get fr 2=.bool false) (λk=>rfl)
  (λk y hy hP=>by
   obtain⟨hy',hk⟩:=HH hy;have hgy:=Z6 (f:=Nm.enc) hy';have hlt:=Zh hk;have hw:=Zx (n:=k)<|by omega
   have hP':ZOl x y=false:=by simpa using hP
   unfold ZOl at hP';cases c:Z3 y.Lang x.Lang with
   |false=>
    refine⟨_,by simp only[go_sem,c137L0b,hgx,hgy,hlt,hw,Nm.enc,c];rfl,?_⟩
    simp only[go_sem]
   |true=>
    rw[c,ZVD]at hP';refine⟨_,by simp only[go_sem,c137L0b,hgx,hgy,hlt,hw,Nm.enc,c,hP'];rfl,?_⟩
    simp only[go_sem])
  (λk y hy hP=>by
   obtain⟨hy',hk⟩:=HH hy;have hgy:=Z6 (f:=Nm.enc) hy';have hlt:=Zh hk;have hP':ZOl x y=true:=by simpa using hP
   unfold ZOl at hP';rw[ZVB]at hP';refine⟨_,by simp only[go_sem,c137L0b,hgx,hgy,hlt,Nm.enc,hP'.1,hP'.2];rfl,?_⟩
   simp only[go_sem])
  (by
   have e:(l.take i).length=i:=by rw[ZWA];omega
   rw[e];exact⟨_,by simp only[go_sem,c137L0b,ZG];rfl,by simp only[go_sem],by simp only[go_sem]⟩)
 rw[QE]at L;exact L
def ZTi(ex:Bool)(l:List Nm)(hl:l.length<=1000000)(hs:∀x∈l,x.Lang.size<=1000000/\x.Text.size<=1000000):
 pfn rE 137 [.isl false ex 3<|l.map Nm.enc]=some (.bool<|Zu (ZOJ l) 0 l&&(decide ((l.length:Int)>=1)&&decide ((l.length:Int)<=8))):=by
 have L:=QT (E:=rE) (live:=[0,3]) (b:=c137L1b) (h:=[]) l (ZOJ l) (λi=>[(0,.isl false ex 3<|l.map Nm.enc),(3,I i)]) 0
  (λfr=>get fr 0=.isl false ex 3 (l.map Nm.enc)) (λfr=>get fr 2=.bool false) (λk=>rfl)
  (λi x hx hP=>by
   have hg:=Z6 (f:=Nm.enc) hx;have hlt:=Zh<|Z7 hx;have hw:=Zx (n:=i) (by have:=Z7 hx;omega)
   obtain⟨fr',h1,h2,_⟩:=ZRd ex l hl i x hx;obtain⟨z1,z2⟩:=hs x<|ZVN hx;have hn:=ZOi x.Lang z1;have ht:=ZR9 x.Text z2;unfold ZOJ Uy ZD at hP;simp only[ZVB]at hP;obtain⟨⟨p1,⟨p2,p3⟩,p4⟩,p5⟩:=hP;have q2:decide (x.Script<0)=false:=by have:=of_decide_eq_true p2;exact decide_eq_false<|by omega
   have q3:decide (x.Script>7)=false:=by have:=of_decide_eq_true p3;exact decide_eq_false<|by omega
   rw[p5]at h1;obtain⟨g0,g3⟩:=h2 p5;refine⟨_,by simp only[go_sem,c137L1b,c137L0,hg,hlt,hw,Nm.enc,hn,ht,p1,q2,q3,p4,h1,g0,g3,ZVA,ZVC,if_true];rfl,?_⟩
   simp only[go_sem])
  (λi x hx hP=>by
   have hg:=Z6 (f:=Nm.enc) hx;have hlt:=Zh<|Z7 hx;obtain⟨fr',h1,_,h2⟩:=ZRd ex l hl i x hx;obtain⟨z1,z2⟩:=hs x<|ZVN hx;have hn:=ZOi x.Lang z1;have ht:=ZR9 x.Text z2;unfold ZOJ Uy ZD at hP;cases p1:ZZ x.Lang with
   |false=>
    refine⟨_,by simp only[go_sem,c137L1b,hg,hlt,Nm.enc,hn,p1,ZVA,ZVE];rfl,?_⟩
    simp only[go_sem]
   |true=>
    cases q2:decide (x.Script<0)with
    |true=>
     refine⟨_,by simp only[go_sem,c137L1b,hg,hlt,Nm.enc,hn,p1,q2,ZVA,ZVC];rfl,?_⟩
     simp only[go_sem]
    |false=>
     have p2:decide (x.Script>=0)=true:=by have:=of_decide_eq_false q2;exact decide_eq_true<|by omega
     cases q3:decide (x.Script>7)with
     |true=>
      refine⟨_,by simp only[go_sem,c137L1b,hg,hlt,Nm.enc,hn,p1,q2,q3,ZVA,ZVC];rfl,?_⟩
      simp only[go_sem]
     |false=>
      have p3:decide (x.Script<=7)=true:=by have:=of_decide_eq_false q3;exact decide_eq_true<|by omega
      cases p4:Uv x.Text with
      |false=>
       refine⟨_,by simp only[go_sem,c137L1b,hg,hlt,Nm.enc,hn,ht,p1,q2,q3,p4,ZVA,ZVC,ZVE];rfl,?_⟩
       simp only[go_sem]
      |true=>
       rw[p1,p2,p3,p4,ZVD,ZVD,ZVD,ZVD]at hP;rw[hP]at h1;refine⟨_,by simp only[go_sem,c137L1b,c137L0,hg,hlt,Nm.enc,hn,ht,p1,q2,q3,p4,h1,ZVA,ZVC,ZVI,if_false];rfl,?_⟩
       simp only[go_sem,h2 hP])
  (⟨_,by simp only[go_sem,c137L1b,ZG,ZVA];rfl,by simp only[go_sem]⟩)
 obtain⟨fr',h1,h3,h2⟩:=L;have h1':Zg rE [0,3] c137L1b [(0,.isl false ex 3<|l.map Nm.enc),(3,.int .i64 0)] []=_:=h1;rw[Z5 (f:=137) rfl rfl];cases hc:Zu (ZOJ l) 0 l with
 |false=>rw[hc]at h1';simp only[go_sem,c137,c137L1,h1',h2 hc,ZVI,ZVG]
 |true=>
  rw[hc]at h1';cases c1:decide ((l.length:Int)>=1)<;>simp only[go_sem,c137,c137L1,h1',h3 hc,c1,ZVA,ZVD,ZVG]
def ZRe{α β:Type}(f:α->β)(P:Nat->β->Bool):∀(l:List α)(i:Nat),Zu P i (l.map f)=Zu (λi x=>P i<|f x) i l
 |[],_=>rfl
 |x::r,i=>by
  show(P i (f x)&&Zu P (i+1) (r.map f))=(P i (f x)&&Zu (λi x=>P i<|f x) (i+1) r)
  rw[ZRe f P r<|i+1]
def ZTj(l:List Nm):(Zu (ZOJ l) 0 l&&(decide ((l.length:Int)>=1)&&decide ((l.length:Int)<=8)))=Uz l:=by
 unfold Uz ZD;have e:∀i x,ZOJ l i x=(Uy x&&!((l.map Xh).take i).any (Xg<|Xh x)):=λi x=>by
  unfold ZOJ;rw[ZOU,<-List.map_take,ZXU];congr 1;apply ZOk;intro y _;have:Z3 emp emp=true:=(Ky _ _).2 rfl;show(!ZOl x y) = !Xg (Xh x) (Xh y)
  unfold ZOl Xg Xh;rw[this,ZVJ,ZOT y.Lang,show(y.Script==x.Script)=(x.Script==y.Script)from Bool.beq_comm]
 rw[ZOS l 0 e,ZPb,ZPv,ZRe,QE Uy];generalize Zu (λi x=>!((l.map Xh).take i).any (Xg<|Xh x)) 0 l=a
 cases l.all Uy<;>cases a<;>simp
def ZTk(ex:Bool)(l:List Nm)(hl:l.length<=1000000)(hs:∀x∈l,x.Lang.size<=1000000/\x.Text.size<=1000000):pfn rE 137 [.isl false ex 3<|l.map Nm.enc]=some (.bool<|Uz l):=by
 rw[ZTi ex l hl hs,ZTj]
def ZO5{α:Type}(eq:α->α->Bool)(b:List α)(i:Nat)(x:α):Bool:=match b[i]? with|some y=>eq x y|none=>true
def ZOd{α:Type}(eq:α->α->Bool)(a b:List α):Bool:=((a.length:Int)==(b.length:Int))&&Zu (ZO5 eq b) 0 a
def ZOr{α:Type}{eq:α->α->Bool}{a b:List α}(h:a.length=b.length){i:Nat}{x:α}(hx:a[i]?=some x):∃y,b[i]?=some y/\ZO5 eq b i x=eq x y:=by
 have:=Z7 hx;have hy:b[i]?=some (b[i]'(by omega)):=ZVH _
 exact⟨_,hy,by unfold ZO5;rw[hy]⟩
def ZOz{m n:Nat}:((m:Int) != (n:Int)) = !((m:Int)==(n:Int)):=rfl
def ZTl(e1 e2:Bool)(a b:List Nm)(ha:a.length<=1000000):pfn rE 215 [.isl false e1 3<|a.map Nm.enc,.isl false e2 3<|b.map Nm.enc]=some (.bool<|ZOd Xg a b):=by
 rw[Z5 (f:=215) rfl rfl];unfold ZOd;cases hc:((a.length:Int)==(b.length:Int))with
 |false=>simp only[go_sem,c215,hc,ZVA,ZOz,ZVE,ZVG]
 |true=>
  have hl:a.length=b.length:=by have:=eq_of_beq hc;omega
  have L:=Uf (E:=rE) (live:=[0,1,5]) (b:=c215L0b) (h:=[]) a (ZO5 Xg b) (λi=>[(0,.isl false e1 3<|a.map Nm.enc),(1,.isl false e2 3<|b.map Nm.enc),(5,I i)]) 0 (λfr=>get fr 4=.bool false) (λk=>rfl)
   (λi x hx hP=>by
    obtain⟨y,hy,e⟩:=ZOr (eq:=Xg) hl hx;rw[e]at hP;have hgx:=Z6 (f:=Nm.enc) hx;have hgy:=Z6 (f:=Nm.enc) hy;have hlt:=Zh<|Z7 hx;have hw:=Zx (n:=i) (by have:=Z7 hx;omega)
    unfold Xg at hP;refine⟨_,by simp only[go_sem,c215L0b,hgx,hgy,hlt,hw,Nm.enc,hP,ZVA,ZVC];rfl,?_⟩
    simp only[go_sem])
   (λi x hx hP=>by
    obtain⟨y,hy,e⟩:=ZOr (eq:=Xg) hl hx;rw[e]at hP;have hgx:=Z6 (f:=Nm.enc) hx;have hgy:=Z6 (f:=Nm.enc) hy;have hlt:=Zh<|Z7 hx;unfold Xg at hP;refine⟨_,by simp only[go_sem,c215L0b,hgx,hgy,hlt,Nm.enc,hP,ZVA,ZVE];rfl,?_⟩
    simp only[go_sem])
   (⟨_,by simp only[go_sem,c215L0b,ZG,ZVA];rfl⟩)
  obtain⟨fr',h1,h2⟩:=L;have h1':Zg rE [0,1,5] c215L0b [(0,.isl false e1 3<|a.map Nm.enc),(1,.isl false e2 3<|b.map Nm.enc),(5,.int .i64 0)] []=_:=h1;cases hA:Zu (ZO5 Xg b) 0 a with
  |false=>rw[hA]at h1';simp only[go_sem,c215,c215L0,hc,h1',h2 hA,ZVA,ZOz,ZVC,ZVD,ZVI]
  |true=>rw[hA]at h1';simp only[go_sem,c215,c215L0,hc,h1',ZVA,ZOz,ZVC,ZVD]
def ZTm(e1 e2:Bool)(a b:List Pt)(ha:a.length<=1000000):pfn rE 216 [.isl false e1 2<|a.map Pt.enc,.isl false e2 2<|b.map Pt.enc]=some (.bool<|ZOd QK a b):=by
 rw[Z5 (f:=216) rfl rfl];unfold ZOd;cases hc:((a.length:Int)==(b.length:Int))with
 |false=>simp only[go_sem,c216,hc,ZVA,ZOz,ZVE,ZVG]
 |true=>
  have hl:a.length=b.length:=by have:=eq_of_beq hc;omega
  have L:=Uf (E:=rE) (live:=[0,1,5]) (b:=c216L0b) (h:=[]) a (ZO5 QK b) (λi=>[(0,.isl false e1 2<|a.map Pt.enc),(1,.isl false e2 2<|b.map Pt.enc),(5,I i)]) 0 (λfr=>get fr 4=.bool false) (λk=>rfl)
   (λi x hx hP=>by
    obtain⟨y,hy,e⟩:=ZOr (eq:=QK) hl hx;rw[e]at hP;have hgx:=Z6 (f:=Pt.enc) hx;have hgy:=Z6 (f:=Pt.enc) hy;have hlt:=Zh<|Z7 hx;have hw:=Zx (n:=i) (by have:=Z7 hx;omega)
    unfold QK at hP;refine⟨_,by simp only[go_sem,c216L0b,hgx,hgy,hlt,hw,Pt.enc,hP,ZVA,ZVC];rfl,?_⟩
    simp only[go_sem])
   (λi x hx hP=>by
    obtain⟨y,hy,e⟩:=ZOr (eq:=QK) hl hx;rw[e]at hP;have hgx:=Z6 (f:=Pt.enc) hx;have hgy:=Z6 (f:=Pt.enc) hy;have hlt:=Zh<|Z7 hx;unfold QK at hP;refine⟨_,by simp only[go_sem,c216L0b,hgx,hgy,hlt,Pt.enc,hP,ZVA,ZVE];rfl,?_⟩
    simp only[go_sem])
   (⟨_,by simp only[go_sem,c216L0b,ZG,ZVA];rfl⟩)
  obtain⟨fr',h1,h2⟩:=L;have h1':Zg rE [0,1,5] c216L0b [(0,.isl false e1 2<|a.map Pt.enc),(1,.isl false e2 2<|b.map Pt.enc),(5,.int .i64 0)] []=_:=h1;cases hA:Zu (ZO5 QK b) 0 a with
  |false=>rw[hA]at h1';simp only[go_sem,c216,c216L0,hc,h1',h2 hA,ZVA,ZOz,ZVC,ZVD,ZVI]
  |true=>rw[hA]at h1';simp only[go_sem,c216,c216L0,hc,h1',ZVA,ZOz,ZVC,ZVD]
def ZOf(a b:Ent):Bool:=Z3 a.Id b.Id&&(QL a.An b.An&&QK a.bg b.bg)
def ZPV(a b:Gt):Bool:=
 (a.bq==b.bq)&&((a.Day==b.Day)&&((a.A==b.A)&&((a.B==b.B)&&((a.bv==b.bv)&&(Z3 a.Id b.Id&&(Z3 a.br b.br&&(Z3 a.Text b.Text&&(QL a.An b.An&&QK a.bg b.bg))))))))
def ZOV(a b:Gt):Bool:=ZPV a b&&((((a.Ids.l.length:Int)==(b.Ids.l.length:Int))&&((a.Lst.l.length:Int)==(b.Lst.l.length:Int)))&&(Zu (ZO5 Z3 b.Ids.l) 0 a.Ids.l&&(Zu (ZO5 ZOf b.Lst.l) 0 a.Lst.l&&(ZOd Xg a.bk.l b.bk.l&&ZOd QK a.Path.l b.Path.l))))
def ZTn(a b:Gt)(hl:a.Ids.l.length=b.Ids.l.length)(ha:a.Ids.l.length<=1000000):∃fr',Zg rE [2,3,5] c132L0b [(2,evI a),(3,evI b),(5,.int .i64 0)] []=some (if Zu (ZO5 Z3 b.Ids.l) 0 a.Ids.l=true then .exit 0 else .ret,fr',[])/\
 (Zu (ZO5 Z3 b.Ids.l) 0 a.Ids.l=true->get fr' 2=evI a/\get fr' 3=evI b)/\(Zu (ZO5 Z3 b.Ids.l) 0 a.Ids.l=false->get fr' 4=.bool false):=by
 exact QT (E:=rE) (live:=[2,3,5]) (b:=c132L0b) (h:=[]) a.Ids.l (ZO5 Z3 b.Ids.l) (λi=>[(2,evI a),(3,evI b),(5,I i)]) 0 (λfr=>get fr 2=evI a/\get fr 3=evI b) (λfr=>get fr 4=.bool false) (λk=>rfl)
  (λi x hx hP=>by
   obtain⟨y,hy,e⟩:=ZOr (eq:=Z3) hl hx;rw[e]at hP;have hgx:=Z6 (f:=encS) hx;have hgy:=Z6 (f:=encS) hy;have hlt:=Zh<|Z7 hx;have hw:=Zx (n:=i) (by have:=Z7 hx;omega)
   refine⟨_,by simp only[go_sem,c132L0b,hgx,hgy,hlt,hw,encS,hP,ZVA,ZVC];rfl,?_⟩
   simp only[go_sem])
  (λi x hx hP=>by
   obtain⟨y,hy,e⟩:=ZOr (eq:=Z3) hl hx;rw[e]at hP;have hgx:=Z6 (f:=encS) hx;have hgy:=Z6 (f:=encS) hy;have hlt:=Zh<|Z7 hx;refine⟨_,by simp only[go_sem,c132L0b,hgx,hgy,hlt,encS,hP,ZVA,ZVE];rfl,?_⟩
   simp only[go_sem])
  (⟨_,by simp only[go_sem,c132L0b,ZG,ZVA];rfl,by simp only[go_sem],by simp only[go_sem]⟩)
def ZTo(a b:Gt)(hl:a.Lst.l.length=b.Lst.l.length)(ha:a.Lst.l.length<=1000000):∃fr',Zg rE [2,3,6] c132L1b [(2,evI a),(3,evI b),(6,.int .i64 0)] []=some (if Zu (ZO5 ZOf b.Lst.l) 0 a.Lst.l=true then .exit 2 else .ret,fr',[])/\
 (Zu (ZO5 ZOf b.Lst.l) 0 a.Lst.l=true->get fr' 2=evI a/\get fr' 3=evI b)/\(Zu (ZO5 ZOf b.Lst.l) 0 a.Lst.l=false->get fr' 4=.bool false):=by
 exact QT (E:=rE) (live:=[2,3,6]) (b:=c132L1b) (h:=[]) a.Lst.l (ZO5 ZOf b.Lst.l) (λi=>[(2,evI a),(3,evI b),(6,I i)]) 2 (λfr=>get fr 2=evI a/\get fr 3=evI b) (λfr=>get fr 4=.bool false) (λk=>rfl)
  (λi x hx hP=>by
   obtain⟨y,hy,e⟩:=ZOr (eq:=ZOf) hl hx;rw[e]at hP;have hgx:=Z6 (f:=Ent.enc) hx;have hgy:=Z6 (f:=Ent.enc) hy;have hlt:=Zh<|Z7 hx;have hw:=Zx (n:=i) (by have:=Z7 hx;omega)
   unfold ZOf QL QK at hP;simp only[ZVB]at hP;obtain⟨q1,⟨q2,q3,q4,q5⟩,q6,q7⟩:=hP;refine⟨_,by simp only[go_sem,c132L1b,hgx,hgy,hlt,hw,Ent.enc,q1,q2,q3,q4,q5,q6,q7,ZVA,ZVC,ZVJ];rfl,?_⟩
   simp only[go_sem])
  (λi x hx hP=>by
   obtain⟨y,hy,e⟩:=ZOr (eq:=ZOf) hl hx;rw[e]at hP;have hgx:=Z6 (f:=Ent.enc) hx;have hgy:=Z6 (f:=Ent.enc) hy;have hlt:=Zh<|Z7 hx;have hP':(Z3 x.Id y.Id&&(x.An.N==y.An.N&&(Z3 x.An.bm y.An.bm&&(x.An.Num==y.An.Num&&(x.An.Den==y.An.Den&&(x.bg.X==y.bg.X&&x.bg.Y==y.bg.Y))))))=false:=by
    rw[<-hP];unfold ZOf QL QK;simp only[ZWV]
   refine⟨_,by simp only[go_sem,c132L1b,hgx,hgy,hlt,Ent.enc,hP',ZVA,ZVE];rfl,?_⟩
   simp only[go_sem])
  (⟨_,by simp only[go_sem,c132L1b,ZG,ZVA];rfl,by simp only[go_sem],by simp only[go_sem]⟩)
def ZOb(x y:Int):(x != y) = !(x==y):=rfl
set_option maxRecDepth 4000 in
set_option maxHeartbeats 2000000 in
def ZTp(a b:Gt)(h1:a.Ids.l.length<=1000000)(h2:a.Lst.l.length<=1000000)(h3:a.bk.l.length<=1000000)(h4:a.Path.l.length<=1000000):pfn rE 132 [evA a,evA b]=some (.bool<|ZOV a b):=by
 have hh:(a.An.N==b.An.N&&(Z3 a.An.bm b.An.bm&&(a.An.Num==b.An.Num&&a.An.Den==b.An.Den)))=QL a.An b.An:=rfl;have hp:(a.bg.X==b.bg.X&&a.bg.Y==b.bg.Y)=QK a.bg b.bg:=rfl;rw[Z5 (f:=132) rfl rfl];unfold ZOV ZPV;cases d0:(a.bq==b.bq)with
 |false=>simp only[go_sem,c132,ZOb,hh,hp,d0,ZVE,ZVC,ZVG,ZVD,ZVL,ZVJ,ZVA]
 |true=>
 cases d1:(a.Day==b.Day)with
 |false=>simp only[go_sem,c132,ZOb,hh,hp,d0,d1,ZVE,ZVC,ZVG,ZVD,ZVL,ZVJ,ZVA]
 |true=>
 cases d2:(a.A==b.A)with
 |false=>simp only[go_sem,c132,ZOb,hh,hp,d0,d1,d2,ZVE,ZVC,ZVG,ZVD,ZVL,ZVJ,ZVA]
 |true=>
 cases d3:(a.B==b.B)with
 |false=>simp only[go_sem,c132,ZOb,hh,hp,d0,d1,d2,d3,ZVE,ZVC,ZVG,ZVD,ZVL,ZVJ,ZVA]
 |true=>
 cases d4:(a.bv==b.bv)with
 |false=>simp only[go_sem,c132,ZOb,hh,hp,d0,d1,d2,d3,d4,ZVE,ZVC,ZVG,ZVD,ZVL,ZVJ,ZVA]
 |true=>
 cases d5:Z3 a.Id b.Id with
 |false=>simp only[go_sem,c132,ZOb,hh,hp,d0,d1,d2,d3,d4,d5,ZVE,ZVC,ZVG,ZVD,ZVL,ZVJ,ZVA]
 |true=>
 cases d6:Z3 a.br b.br with
 |false=>simp only[go_sem,c132,ZOb,hh,hp,d0,d1,d2,d3,d4,d5,d6,ZVE,ZVC,ZVG,ZVD,ZVL,ZVJ,ZVA]
 |true=>
 cases d7:Z3 a.Text b.Text with
 |false=>simp only[go_sem,c132,ZOb,hh,hp,d0,d1,d2,d3,d4,d5,d6,d7,ZVE,ZVC,ZVG,ZVD,ZVL,ZVJ,ZVA]
 |true=>
 cases d8:QL a.An b.An with
 |false=>simp only[go_sem,c132,ZOb,hh,hp,d0,d1,d2,d3,d4,d5,d6,d7,d8,ZVE,ZVC,ZVG,ZVD,ZVL,ZVJ,ZVA]
 |true=>
 cases d9:QK a.bg b.bg with
 |false=>simp only[go_sem,c132,ZOb,hh,hp,d0,d1,d2,d3,d4,d5,d6,d7,d8,d9,ZVE,ZVC,ZVG,ZVD,ZVL,ZVJ,ZVA]
 |true=>
 cases d10:((a.Ids.l.length:Int)==(b.Ids.l.length:Int))with
 |false=>simp only[go_sem,c132,ZOb,hh,hp,d0,d1,d2,d3,d4,d5,d6,d7,d8,d9,d10,ZVE,ZVC,ZVG,ZVD,ZVL,ZVJ,ZVA]
 |true=>
 cases d11:((a.Lst.l.length:Int)==(b.Lst.l.length:Int))with
 |false=>simp only[go_sem,c132,ZOb,hh,hp,d0,d1,d2,d3,d4,d5,d6,d7,d8,d9,d10,d11,ZVE,ZVC,ZVG,ZVD,ZVL,ZVJ,ZVA]
 |true=>
 have l0:a.Ids.l.length=b.Ids.l.length:=by have:=eq_of_beq d10;omega
 have l1:a.Lst.l.length=b.Lst.l.length:=by have:=eq_of_beq d11;omega
 obtain⟨f0,L0,L1,L2⟩:=ZTn a b l0 h1;cases g0:Zu (ZO5 Z3 b.Ids.l) 0 a.Ids.l with
 |false=>rw[g0]at L0;simp only[go_sem,c132,c132L0,ZOb,hh,hp,d0,d1,d2,d3,d4,d5,d6,d7,d8,d9,d10,d11,ZVE,ZVC,ZVG,ZVD,ZVL,ZVJ,ZVA,L0,L2 g0,ZVI]
 |true=>
 rw[g0]at L0;obtain⟨e2,e3⟩:=L1 g0;obtain⟨f1,ZO6,M1,M2⟩:=ZTo a b l1 h2;cases g1:Zu (ZO5 ZOf b.Lst.l) 0 a.Lst.l with
 |false=>rw[g1]at ZO6;simp only[go_sem,c132,c132L0,c132L1,ZOb,hh,hp,d0,d1,d2,d3,d4,d5,d6,d7,d8,d9,d10,d11,ZVE,ZVC,ZVG,ZVD,ZVL,ZVJ,ZVA,L0,e2,e3,ZO6,M2 g1,ZVI]
 |true=>
 rw[g1]at ZO6;obtain⟨k2,k3⟩:=M1 g1;have hN:=ZTl a.bk.ex b.bk.ex a.bk.l b.bk.l h3;have hP:=ZTm a.Path.ex b.Path.ex a.Path.l b.Path.l h4;cases g2:ZOd Xg a.bk.l b.bk.l<;>rw[g2]at hN<;>simp only[go_sem,c132,c132L0,c132L1,ZOb,hh,hp,d0,d1,d2,d3,d4,d5,d6,d7,d8,d9,d10,d11,ZVE,ZVC,ZVG,ZVD,ZVL,ZVJ,ZVA,L0,e2,e3,ZO6,k2,k3,hN,hP]
def ZO2(e:Gt):Gt:=
 {bq:=e.bq,Day:=e.Day,
  A:=bif kIn e [1,13,14]then e.A else 0,
  B:=bif kIn e [13,14]then e.B else 0,
  bv:=bif kIn e [15]then e.bv else 0,
  Id:=bif kIn e [13,14]then emp else e.Id,
  br:=bif kIn e [4,6,7]then e.br else emp,
  Text:=bif kIn e [6,7,15]then e.Text else emp,
  Ids:=bif kIn e [10]then e.Ids else⟨false,[]⟩,
  bk:=bif kIn e [3]then e.bk else⟨false,[]⟩,
  An:=bif kIn e [6,10]then e.An else⟨0,emp,0,0⟩,
  bg:=bif kIn e [6,10]then e.bg else⟨0,0⟩,
  Path:=bif kIn e [1,2,5]then e.Path else⟨false,[]⟩,
  Lst:=bif kIn e [8,9]then e.Lst else⟨false,[]⟩}
def ZTq(e:Gt)(hk:e.bq=1):pfn rE 133 [evA e]=some (evA<|ZO2 e):=by
 have q1:(e.bq==1)=true:=by rw[hk];rfl
 have q2:(e.bq==2)=false:=by rw[hk];rfl
 have q5:(e.bq==5)=false:=by rw[hk];rfl
 have q3:(e.bq==3)=false:=by rw[hk];rfl
 have q4:(e.bq==4)=false:=by rw[hk];rfl
 have q6:(e.bq==6)=false:=by rw[hk];rfl
 have q7:(e.bq==7)=false:=by rw[hk];rfl
 have q8:(e.bq==8)=false:=by rw[hk];rfl
 have q9:(e.bq==9)=false:=by rw[hk];rfl
 have q10:(e.bq==10)=false:=by rw[hk];rfl
 have q13:(e.bq==13)=false:=by rw[hk];rfl
 have q14:(e.bq==14)=false:=by rw[hk];rfl
 have q15:(e.bq==15)=false:=by rw[hk];rfl
 have b0:kIn e [1,13,14]=true:=by unfold kIn;rw[hk];rfl
 have b1:kIn e [13,14]=false:=by unfold kIn;rw[hk];rfl
 have b2:kIn e [15]=false:=by unfold kIn;rw[hk];rfl
 have b3:kIn e [4,6,7]=false:=by unfold kIn;rw[hk];rfl
 have b4:kIn e [6,7,15]=false:=by unfold kIn;rw[hk];rfl
 have b5:kIn e [10]=false:=by unfold kIn;rw[hk];rfl
 have b6:kIn e [3]=false:=by unfold kIn;rw[hk];rfl
 have b7:kIn e [6,10]=false:=by unfold kIn;rw[hk];rfl
 have b8:kIn e [1,2,5]=true:=by unfold kIn;rw[hk];rfl
 have b9:kIn e [8,9]=false:=by unfold kIn;rw[hk];rfl
 rw[Z5 (f:=133) rfl rfl];unfold ZO2;simp only[go_sem,c133,q1,q2,q5,q3,q4,q6,q7,q8,q9,q10,q13,q14,q15,b0,b1,b2,b3,b4,b5,b6,b7,b8,b9]
 try rfl
def ZTr(e:Gt)(hk:e.bq=2):pfn rE 133 [evA e]=some (evA<|ZO2 e):=by
 have q1:(e.bq==1)=false:=by rw[hk];rfl
 have q2:(e.bq==2)=true:=by rw[hk];rfl
 have q5:(e.bq==5)=false:=by rw[hk];rfl
 have q3:(e.bq==3)=false:=by rw[hk];rfl
 have q4:(e.bq==4)=false:=by rw[hk];rfl
 have q6:(e.bq==6)=false:=by rw[hk];rfl
 have q7:(e.bq==7)=false:=by rw[hk];rfl
 have q8:(e.bq==8)=false:=by rw[hk];rfl
 have q9:(e.bq==9)=false:=by rw[hk];rfl
 have q10:(e.bq==10)=false:=by rw[hk];rfl
 have q13:(e.bq==13)=false:=by rw[hk];rfl
 have q14:(e.bq==14)=false:=by rw[hk];rfl
 have q15:(e.bq==15)=false:=by rw[hk];rfl
 have b0:kIn e [1,13,14]=false:=by unfold kIn;rw[hk];rfl
 have b1:kIn e [13,14]=false:=by unfold kIn;rw[hk];rfl
 have b2:kIn e [15]=false:=by unfold kIn;rw[hk];rfl
 have b3:kIn e [4,6,7]=false:=by unfold kIn;rw[hk];rfl
 have b4:kIn e [6,7,15]=false:=by unfold kIn;rw[hk];rfl
 have b5:kIn e [10]=false:=by unfold kIn;rw[hk];rfl
 have b6:kIn e [3]=false:=by unfold kIn;rw[hk];rfl
 have b7:kIn e [6,10]=false:=by unfold kIn;rw[hk];rfl
 have b8:kIn e [1,2,5]=true:=by unfold kIn;rw[hk];rfl
 have b9:kIn e [8,9]=false:=by unfold kIn;rw[hk];rfl
 rw[Z5 (f:=133) rfl rfl];unfold ZO2;simp only[go_sem,c133,q1,q2,q5,q3,q4,q6,q7,q8,q9,q10,q13,q14,q15,b0,b1,b2,b3,b4,b5,b6,b7,b8,b9]
 try rfl
def ZTs(e:Gt)(hk:e.bq=3):pfn rE 133 [evA e]=some (evA<|ZO2 e):=by
 have q1:(e.bq==1)=false:=by rw[hk];rfl
 have q2:(e.bq==2)=false:=by rw[hk];rfl
 have q5:(e.bq==5)=false:=by rw[hk];rfl
 have q3:(e.bq==3)=true:=by rw[hk];rfl
 have q4:(e.bq==4)=false:=by rw[hk];rfl
 have q6:(e.bq==6)=false:=by rw[hk];rfl
 have q7:(e.bq==7)=false:=by rw[hk];rfl
 have q8:(e.bq==8)=false:=by rw[hk];rfl
 have q9:(e.bq==9)=false:=by rw[hk];rfl
 have q10:(e.bq==10)=false:=by rw[hk];rfl
 have q13:(e.bq==13)=false:=by rw[hk];rfl
 have q14:(e.bq==14)=false:=by rw[hk];rfl
 have q15:(e.bq==15)=false:=by rw[hk];rfl
 have b0:kIn e [1,13,14]=false:=by unfold kIn;rw[hk];rfl
 have b1:kIn e [13,14]=false:=by unfold kIn;rw[hk];rfl
 have b2:kIn e [15]=false:=by unfold kIn;rw[hk];rfl
 have b3:kIn e [4,6,7]=false:=by unfold kIn;rw[hk];rfl
 have b4:kIn e [6,7,15]=false:=by unfold kIn;rw[hk];rfl
 have b5:kIn e [10]=false:=by unfold kIn;rw[hk];rfl
 have b6:kIn e [3]=true:=by unfold kIn;rw[hk];rfl
 have b7:kIn e [6,10]=false:=by unfold kIn;rw[hk];rfl
 have b8:kIn e [1,2,5]=false:=by unfold kIn;rw[hk];rfl
 have b9:kIn e [8,9]=false:=by unfold kIn;rw[hk];rfl
 rw[Z5 (f:=133) rfl rfl];unfold ZO2;simp only[go_sem,c133,q1,q2,q5,q3,q4,q6,q7,q8,q9,q10,q13,q14,q15,b0,b1,b2,b3,b4,b5,b6,b7,b8,b9]
 try rfl
def ZTt(e:Gt)(hk:e.bq=4):pfn rE 133 [evA e]=some (evA<|ZO2 e):=by
 have q1:(e.bq==1)=false:=by rw[hk];rfl
 have q2:(e.bq==2)=false:=by rw[hk];rfl
 have q5:(e.bq==5)=false:=by rw[hk];rfl
 have q3:(e.bq==3)=false:=by rw[hk];rfl
 have q4:(e.bq==4)=true:=by rw[hk];rfl
 have q6:(e.bq==6)=false:=by rw[hk];rfl
 have q7:(e.bq==7)=false:=by rw[hk];rfl
 have q8:(e.bq==8)=false:=by rw[hk];rfl
 have q9:(e.bq==9)=false:=by rw[hk];rfl
 have q10:(e.bq==10)=false:=by rw[hk];rfl
 have q13:(e.bq==13)=false:=by rw[hk];rfl
 have q14:(e.bq==14)=false:=by rw[hk];rfl
 have q15:(e.bq==15)=false:=by rw[hk];rfl
 have b0:kIn e [1,13,14]=false:=by unfold kIn;rw[hk];rfl
 have b1:kIn e [13,14]=false:=by unfold kIn;rw[hk];rfl
 have b2:kIn e [15]=false:=by unfold kIn;rw[hk];rfl
 have b3:kIn e [4,6,7]=true:=by unfold kIn;rw[hk];rfl
 have b4:kIn e [6,7,15]=false:=by unfold kIn;rw[hk];rfl
 have b5:kIn e [10]=false:=by unfold kIn;rw[hk];rfl
 have b6:kIn e [3]=false:=by unfold kIn;rw[hk];rfl
 have b7:kIn e [6,10]=false:=by unfold kIn;rw[hk];rfl
 have b8:kIn e [1,2,5]=false:=by unfold kIn;rw[hk];rfl
 have b9:kIn e [8,9]=false:=by unfold kIn;rw[hk];rfl
 rw[Z5 (f:=133) rfl rfl];unfold ZO2;simp only[go_sem,c133,q1,q2,q5,q3,q4,q6,q7,q8,q9,q10,q13,q14,q15,b0,b1,b2,b3,b4,b5,b6,b7,b8,b9]
 try rfl
def ZTu(e:Gt)(hk:e.bq=5):pfn rE 133 [evA e]=some (evA<|ZO2 e):=by
 have q1:(e.bq==1)=false:=by rw[hk];rfl
 have q2:(e.bq==2)=false:=by rw[hk];rfl
 have q5:(e.bq==5)=true:=by rw[hk];rfl
 have q3:(e.bq==3)=false:=by rw[hk];rfl
 have q4:(e.bq==4)=false:=by rw[hk];rfl
 have q6:(e.bq==6)=false:=by rw[hk];rfl
 have q7:(e.bq==7)=false:=by rw[hk];rfl
 have q8:(e.bq==8)=false:=by rw[hk];rfl
 have q9:(e.bq==9)=false:=by rw[hk];rfl
 have q10:(e.bq==10)=false:=by rw[hk];rfl
 have q13:(e.bq==13)=false:=by rw[hk];rfl
 have q14:(e.bq==14)=false:=by rw[hk];rfl
 have q15:(e.bq==15)=false:=by rw[hk];rfl
 have b0:kIn e [1,13,14]=false:=by unfold kIn;rw[hk];rfl
 have b1:kIn e [13,14]=false:=by unfold kIn;rw[hk];rfl
 have b2:kIn e [15]=false:=by unfold kIn;rw[hk];rfl
 have b3:kIn e [4,6,7]=false:=by unfold kIn;rw[hk];rfl
 have b4:kIn e [6,7,15]=false:=by unfold kIn;rw[hk];rfl
 have b5:kIn e [10]=false:=by unfold kIn;rw[hk];rfl
 have b6:kIn e [3]=false:=by unfold kIn;rw[hk];rfl
 have b7:kIn e [6,10]=false:=by unfold kIn;rw[hk];rfl
 have b8:kIn e [1,2,5]=true:=by unfold kIn;rw[hk];rfl
 have b9:kIn e [8,9]=false:=by unfold kIn;rw[hk];rfl
 rw[Z5 (f:=133) rfl rfl];unfold ZO2;simp only[go_sem,c133,q1,q2,q5,q3,q4,q6,q7,q8,q9,q10,q13,q14,q15,b0,b1,b2,b3,b4,b5,b6,b7,b8,b9]
 try rfl
def ZTv(e:Gt)(hk:e.bq=6):pfn rE 133 [evA e]=some (evA<|ZO2 e):=by
 have q1:(e.bq==1)=false:=by rw[hk];rfl
 have q2:(e.bq==2)=false:=by rw[hk];rfl
 have q5:(e.bq==5)=false:=by rw[hk];rfl
 have q3:(e.bq==3)=false:=by rw[hk];rfl
 have q4:(e.bq==4)=false:=by rw[hk];rfl
 have q6:(e.bq==6)=true:=by rw[hk];rfl
 have q7:(e.bq==7)=false:=by rw[hk];rfl
 have q8:(e.bq==8)=false:=by rw[hk];rfl
 have q9:(e.bq==9)=false:=by rw[hk];rfl
 have q10:(e.bq==10)=false:=by rw[hk];rfl
 have q13:(e.bq==13)=false:=by rw[hk];rfl
 have q14:(e.bq==14)=false:=by rw[hk];rfl
 have q15:(e.bq==15)=false:=by rw[hk];rfl
 have b0:kIn e [1,13,14]=false:=by unfold kIn;rw[hk];rfl
 have b1:kIn e [13,14]=false:=by unfold kIn;rw[hk];rfl
 have b2:kIn e [15]=false:=by unfold kIn;rw[hk];rfl
 have b3:kIn e [4,6,7]=true:=by unfold kIn;rw[hk];rfl
 have b4:kIn e [6,7,15]=true:=by unfold kIn;rw[hk];rfl
 have b5:kIn e [10]=false:=by unfold kIn;rw[hk];rfl
 have b6:kIn e [3]=false:=by unfold kIn;rw[hk];rfl
 have b7:kIn e [6,10]=true:=by unfold kIn;rw[hk];rfl
 have b8:kIn e [1,2,5]=false:=by unfold kIn;rw[hk];rfl
 have b9:kIn e [8,9]=false:=by unfold kIn;rw[hk];rfl
 rw[Z5 (f:=133) rfl rfl];unfold ZO2;simp only[go_sem,c133,q1,q2,q5,q3,q4,q6,q7,q8,q9,q10,q13,q14,q15,b0,b1,b2,b3,b4,b5,b6,b7,b8,b9]
 try rfl
def ZTw(e:Gt)(hk:e.bq=7):pfn rE 133 [evA e]=some (evA<|ZO2 e):=by
 have q1:(e.bq==1)=false:=by rw[hk];rfl
 have q2:(e.bq==2)=false:=by rw[hk];rfl
 have q5:(e.bq==5)=false:=by rw[hk];rfl
 have q3:(e.bq==3)=false:=by rw[hk];rfl
 have q4:(e.bq==4)=false:=by rw[hk];rfl
 have q6:(e.bq==6)=false:=by rw[hk];rfl
 have q7:(e.bq==7)=true:=by rw[hk];rfl
 have q8:(e.bq==8)=false:=by rw[hk];rfl
 have q9:(e.bq==9)=false:=by rw[hk];rfl
 have q10:(e.bq==10)=false:=by rw[hk];rfl
 have q13:(e.bq==13)=false:=by rw[hk];rfl
 have q14:(e.bq==14)=false:=by rw[hk];rfl
 have q15:(e.bq==15)=false:=by rw[hk];rfl
 have b0:kIn e [1,13,14]=false:=by unfold kIn;rw[hk];rfl
 have b1:kIn e [13,14]=false:=by unfold kIn;rw[hk];rfl
 have b2:kIn e [15]=false:=by unfold kIn;rw[hk];rfl
 have b3:kIn e [4,6,7]=true:=by unfold kIn;rw[hk];rfl
 have b4:kIn e [6,7,15]=true:=by unfold kIn;rw[hk];rfl
 have b5:kIn e [10]=false:=by unfold kIn;rw[hk];rfl
 have b6:kIn e [3]=false:=by unfold kIn;rw[hk];rfl
 have b7:kIn e [6,10]=false:=by unfold kIn;rw[hk];rfl
 have b8:kIn e [1,2,5]=false:=by unfold kIn;rw[hk];rfl
 have b9:kIn e [8,9]=false:=by unfold kIn;rw[hk];rfl
 rw[Z5 (f:=133) rfl rfl];unfold ZO2;simp only[go_sem,c133,q1,q2,q5,q3,q4,q6,q7,q8,q9,q10,q13,q14,q15,b0,b1,b2,b3,b4,b5,b6,b7,b8,b9]
 try rfl
def ZTx(e:Gt)(hk:e.bq=8):pfn rE 133 [evA e]=some (evA<|ZO2 e):=by
 have q1:(e.bq==1)=false:=by rw[hk];rfl
 have q2:(e.bq==2)=false:=by rw[hk];rfl
 have q5:(e.bq==5)=false:=by rw[hk];rfl
 have q3:(e.bq==3)=false:=by rw[hk];rfl
 have q4:(e.bq==4)=false:=by rw[hk];rfl
 have q6:(e.bq==6)=false:=by rw[hk];rfl
 have q7:(e.bq==7)=false:=by rw[hk];rfl
 have q8:(e.bq==8)=true:=by rw[hk];rfl
 have q9:(e.bq==9)=false:=by rw[hk];rfl
 have q10:(e.bq==10)=false:=by rw[hk];rfl
 have q13:(e.bq==13)=false:=by rw[hk];rfl
 have q14:(e.bq==14)=false:=by rw[hk];rfl
 have q15:(e.bq==15)=false:=by rw[hk];rfl
 have b0:kIn e [1,13,14]=false:=by unfold kIn;rw[hk];rfl
 have b1:kIn e [13,14]=false:=by unfold kIn;rw[hk];rfl
 have b2:kIn e [15]=false:=by unfold kIn;rw[hk];rfl
 have b3:kIn e [4,6,7]=false:=by unfold kIn;rw[hk];rfl
 have b4:kIn e [6,7,15]=false:=by unfold kIn;rw[hk];rfl
 have b5:kIn e [10]=false:=by unfold kIn;rw[hk];rfl
 have b6:kIn e [3]=false:=by unfold kIn;rw[hk];rfl
 have b7:kIn e [6,10]=false:=by unfold kIn;rw[hk];rfl
 have b8:kIn e [1,2,5]=false:=by unfold kIn;rw[hk];rfl
 have b9:kIn e [8,9]=true:=by unfold kIn;rw[hk];rfl
 rw[Z5 (f:=133) rfl rfl];unfold ZO2;simp only[go_sem,c133,q1,q2,q5,q3,q4,q6,q7,q8,q9,q10,q13,q14,q15,b0,b1,b2,b3,b4,b5,b6,b7,b8,b9]
 try rfl
def ZTy(e:Gt)(hk:e.bq=9):pfn rE 133 [evA e]=some (evA<|ZO2 e):=by
 have q1:(e.bq==1)=false:=by rw[hk];rfl
 have q2:(e.bq==2)=false:=by rw[hk];rfl
 have q5:(e.bq==5)=false:=by rw[hk];rfl
 have q3:(e.bq==3)=false:=by rw[hk];rfl
 have q4:(e.bq==4)=false:=by rw[hk];rfl
 have q6:(e.bq==6)=false:=by rw[hk];rfl
 have q7:(e.bq==7)=false:=by rw[hk];rfl
 have q8:(e.bq==8)=false:=by rw[hk];rfl
 have q9:(e.bq==9)=true:=by rw[hk];rfl
 have q10:(e.bq==10)=false:=by rw[hk];rfl
 have q13:(e.bq==13)=false:=by rw[hk];rfl
 have q14:(e.bq==14)=false:=by rw[hk];rfl
 have q15:(e.bq==15)=false:=by rw[hk];rfl
 have b0:kIn e [1,13,14]=false:=by unfold kIn;rw[hk];rfl
 have b1:kIn e [13,14]=false:=by unfold kIn;rw[hk];rfl
 have b2:kIn e [15]=false:=by unfold kIn;rw[hk];rfl
 have b3:kIn e [4,6,7]=false:=by unfold kIn;rw[hk];rfl
 have b4:kIn e [6,7,15]=false:=by unfold kIn;rw[hk];rfl
 have b5:kIn e [10]=false:=by unfold kIn;rw[hk];rfl
 have b6:kIn e [3]=false:=by unfold kIn;rw[hk];rfl
 have b7:kIn e [6,10]=false:=by unfold kIn;rw[hk];rfl
 have b8:kIn e [1,2,5]=false:=by unfold kIn;rw[hk];rfl
 have b9:kIn e [8,9]=true:=by unfold kIn;rw[hk];rfl
 rw[Z5 (f:=133) rfl rfl];unfold ZO2;simp only[go_sem,c133,q1,q2,q5,q3,q4,q6,q7,q8,q9,q10,q13,q14,q15,b0,b1,b2,b3,b4,b5,b6,b7,b8,b9]
 try rfl
def ZTz(e:Gt)(hk:e.bq=10):pfn rE 133 [evA e]=some (evA<|ZO2 e):=by
 have q1:(e.bq==1)=false:=by rw[hk];rfl
 have q2:(e.bq==2)=false:=by rw[hk];rfl
 have q5:(e.bq==5)=false:=by rw[hk];rfl
 have q3:(e.bq==3)=false:=by rw[hk];rfl
 have q4:(e.bq==4)=false:=by rw[hk];rfl
 have q6:(e.bq==6)=false:=by rw[hk];rfl
 have q7:(e.bq==7)=false:=by rw[hk];rfl
 have q8:(e.bq==8)=false:=by rw[hk];rfl
 have q9:(e.bq==9)=false:=by rw[hk];rfl
 have q10:(e.bq==10)=true:=by rw[hk];rfl
 have q13:(e.bq==13)=false:=by rw[hk];rfl
 have q14:(e.bq==14)=false:=by rw[hk];rfl
 have q15:(e.bq==15)=false:=by rw[hk];rfl
 have b0:kIn e [1,13,14]=false:=by unfold kIn;rw[hk];rfl
 have b1:kIn e [13,14]=false:=by unfold kIn;rw[hk];rfl
 have b2:kIn e [15]=false:=by unfold kIn;rw[hk];rfl
 have b3:kIn e [4,6,7]=false:=by unfold kIn;rw[hk];rfl
 have b4:kIn e [6,7,15]=false:=by unfold kIn;rw[hk];rfl
 have b5:kIn e [10]=true:=by unfold kIn;rw[hk];rfl
 have b6:kIn e [3]=false:=by unfold kIn;rw[hk];rfl
 have b7:kIn e [6,10]=true:=by unfold kIn;rw[hk];rfl
 have b8:kIn e [1,2,5]=false:=by unfold kIn;rw[hk];rfl
 have b9:kIn e [8,9]=false:=by unfold kIn;rw[hk];rfl
 rw[Z5 (f:=133) rfl rfl];unfold ZO2;simp only[go_sem,c133,q1,q2,q5,q3,q4,q6,q7,q8,q9,q10,q13,q14,q15,b0,b1,b2,b3,b4,b5,b6,b7,b8,b9]
 try rfl
def ZTA(e:Gt)(hk:e.bq=11):pfn rE 133 [evA e]=some (evA<|ZO2 e):=by
 have q1:(e.bq==1)=false:=by rw[hk];rfl
 have q2:(e.bq==2)=false:=by rw[hk];rfl
 have q5:(e.bq==5)=false:=by rw[hk];rfl
 have q3:(e.bq==3)=false:=by rw[hk];rfl
 have q4:(e.bq==4)=false:=by rw[hk];rfl
 have q6:(e.bq==6)=false:=by rw[hk];rfl
 have q7:(e.bq==7)=false:=by rw[hk];rfl
 have q8:(e.bq==8)=false:=by rw[hk];rfl
 have q9:(e.bq==9)=false:=by rw[hk];rfl
 have q10:(e.bq==10)=false:=by rw[hk];rfl
 have q13:(e.bq==13)=false:=by rw[hk];rfl
 have q14:(e.bq==14)=false:=by rw[hk];rfl
 have q15:(e.bq==15)=false:=by rw[hk];rfl
 have b0:kIn e [1,13,14]=false:=by unfold kIn;rw[hk];rfl
 have b1:kIn e [13,14]=false:=by unfold kIn;rw[hk];rfl
 have b2:kIn e [15]=false:=by unfold kIn;rw[hk];rfl
 have b3:kIn e [4,6,7]=false:=by unfold kIn;rw[hk];rfl
 have b4:kIn e [6,7,15]=false:=by unfold kIn;rw[hk];rfl
 have b5:kIn e [10]=false:=by unfold kIn;rw[hk];rfl
 have b6:kIn e [3]=false:=by unfold kIn;rw[hk];rfl
 have b7:kIn e [6,10]=false:=by unfold kIn;rw[hk];rfl
 have b8:kIn e [1,2,5]=false:=by unfold kIn;rw[hk];rfl
 have b9:kIn e [8,9]=false:=by unfold kIn;rw[hk];rfl
 rw[Z5 (f:=133) rfl rfl];unfold ZO2;simp only[go_sem,c133,q1,q2,q5,q3,q4,q6,q7,q8,q9,q10,q13,q14,q15,b0,b1,b2,b3,b4,b5,b6,b7,b8,b9]
 try rfl
def ZTB(e:Gt)(hk:e.bq=12):pfn rE 133 [evA e]=some (evA<|ZO2 e):=by
 have q1:(e.bq==1)=false:=by rw[hk];rfl
 have q2:(e.bq==2)=false:=by rw[hk];rfl
 have q5:(e.bq==5)=false:=by rw[hk];rfl
 have q3:(e.bq==3)=false:=by rw[hk];rfl
 have q4:(e.bq==4)=false:=by rw[hk];rfl
 have q6:(e.bq==6)=false:=by rw[hk];rfl
 have q7:(e.bq==7)=false:=by rw[hk];rfl
 have q8:(e.bq==8)=false:=by rw[hk];rfl
 have q9:(e.bq==9)=false:=by rw[hk];rfl
 have q10:(e.bq==10)=false:=by rw[hk];rfl
 have q13:(e.bq==13)=false:=by rw[hk];rfl
 have q14:(e.bq==14)=false:=by rw[hk];rfl
 have q15:(e.bq==15)=false:=by rw[hk];rfl
 have b0:kIn e [1,13,14]=false:=by unfold kIn;rw[hk];rfl
 have b1:kIn e [13,14]=false:=by unfold kIn;rw[hk];rfl
 have b2:kIn e [15]=false:=by unfold kIn;rw[hk];rfl
 have b3:kIn e [4,6,7]=false:=by unfold kIn;rw[hk];rfl
 have b4:kIn e [6,7,15]=false:=by unfold kIn;rw[hk];rfl
 have b5:kIn e [10]=false:=by unfold kIn;rw[hk];rfl
 have b6:kIn e [3]=false:=by unfold kIn;rw[hk];rfl
 have b7:kIn e [6,10]=false:=by unfold kIn;rw[hk];rfl
 have b8:kIn e [1,2,5]=false:=by unfold kIn;rw[hk];rfl
 have b9:kIn e [8,9]=false:=by unfold kIn;rw[hk];rfl
 rw[Z5 (f:=133) rfl rfl];unfold ZO2;simp only[go_sem,c133,q1,q2,q5,q3,q4,q6,q7,q8,q9,q10,q13,q14,q15,b0,b1,b2,b3,b4,b5,b6,b7,b8,b9]
 try rfl
def ZTC(e:Gt)(hk:e.bq=13):pfn rE 133 [evA e]=some (evA<|ZO2 e):=by
 have q1:(e.bq==1)=false:=by rw[hk];rfl
 have q2:(e.bq==2)=false:=by rw[hk];rfl
 have q5:(e.bq==5)=false:=by rw[hk];rfl
 have q3:(e.bq==3)=false:=by rw[hk];rfl
 have q4:(e.bq==4)=false:=by rw[hk];rfl
 have q6:(e.bq==6)=false:=by rw[hk];rfl
 have q7:(e.bq==7)=false:=by rw[hk];rfl
 have q8:(e.bq==8)=false:=by rw[hk];rfl
 have q9:(e.bq==9)=false:=by rw[hk];rfl
 have q10:(e.bq==10)=false:=by rw[hk];rfl
 have q13:(e.bq==13)=true:=by rw[hk];rfl
 have q14:(e.bq==14)=false:=by rw[hk];rfl
 have q15:(e.bq==15)=false:=by rw[hk];rfl
 have b0:kIn e [1,13,14]=true:=by unfold kIn;rw[hk];rfl
 have b1:kIn e [13,14]=true:=by unfold kIn;rw[hk];rfl
 have b2:kIn e [15]=false:=by unfold kIn;rw[hk];rfl
 have b3:kIn e [4,6,7]=false:=by unfold kIn;rw[hk];rfl
 have b4:kIn e [6,7,15]=false:=by unfold kIn;rw[hk];rfl
 have b5:kIn e [10]=false:=by unfold kIn;rw[hk];rfl
 have b6:kIn e [3]=false:=by unfold kIn;rw[hk];rfl
 have b7:kIn e [6,10]=false:=by unfold kIn;rw[hk];rfl
 have b8:kIn e [1,2,5]=false:=by unfold kIn;rw[hk];rfl
 have b9:kIn e [8,9]=false:=by unfold kIn;rw[hk];rfl
 rw[Z5 (f:=133) rfl rfl];unfold ZO2;simp only[go_sem,c133,q1,q2,q5,q3,q4,q6,q7,q8,q9,q10,q13,q14,q15,b0,b1,b2,b3,b4,b5,b6,b7,b8,b9]
 try rfl
def ZTD(e:Gt)(hk:e.bq=14):pfn rE 133 [evA e]=some (evA<|ZO2 e):=by
 have q1:(e.bq==1)=false:=by rw[hk];rfl
 have q2:(e.bq==2)=false:=by rw[hk];rfl
 have q5:(e.bq==5)=false:=by rw[hk];rfl
 have q3:(e.bq==3)=false:=by rw[hk];rfl
 have q4:(e.bq==4)=false:=by rw[hk];rfl
 have q6:(e.bq==6)=false:=by rw[hk];rfl
 have q7:(e.bq==7)=false:=by rw[hk];rfl
 have q8:(e.bq==8)=false:=by rw[hk];rfl
 have q9:(e.bq==9)=false:=by rw[hk];rfl
 have q10:(e.bq==10)=false:=by rw[hk];rfl
 have q13:(e.bq==13)=false:=by rw[hk];rfl
 have q14:(e.bq==14)=true:=by rw[hk];rfl
 have q15:(e.bq==15)=false:=by rw[hk];rfl
 have b0:kIn e [1,13,14]=true:=by unfold kIn;rw[hk];rfl
 have b1:kIn e [13,14]=true:=by unfold kIn;rw[hk];rfl
 have b2:kIn e [15]=false:=by unfold kIn;rw[hk];rfl
 have b3:kIn e [4,6,7]=false:=by unfold kIn;rw[hk];rfl
 have b4:kIn e [6,7,15]=false:=by unfold kIn;rw[hk];rfl
 have b5:kIn e [10]=false:=by unfold kIn;rw[hk];rfl
 have b6:kIn e [3]=false:=by unfold kIn;rw[hk];rfl
 have b7:kIn e [6,10]=false:=by unfold kIn;rw[hk];rfl
 have b8:kIn e [1,2,5]=false:=by unfold kIn;rw[hk];rfl
 have b9:kIn e [8,9]=false:=by unfold kIn;rw[hk];rfl
 rw[Z5 (f:=133) rfl rfl];unfold ZO2;simp only[go_sem,c133,q1,q2,q5,q3,q4,q6,q7,q8,q9,q10,q13,q14,q15,b0,b1,b2,b3,b4,b5,b6,b7,b8,b9]
 try rfl
def ZTE(e:Gt)(hk:e.bq=15):pfn rE 133 [evA e]=some (evA<|ZO2 e):=by
 have q1:(e.bq==1)=false:=by rw[hk];rfl
 have q2:(e.bq==2)=false:=by rw[hk];rfl
 have q5:(e.bq==5)=false:=by rw[hk];rfl
 have q3:(e.bq==3)=false:=by rw[hk];rfl
 have q4:(e.bq==4)=false:=by rw[hk];rfl
 have q6:(e.bq==6)=false:=by rw[hk];rfl
 have q7:(e.bq==7)=false:=by rw[hk];rfl
 have q8:(e.bq==8)=false:=by rw[hk];rfl
 have q9:(e.bq==9)=false:=by rw[hk];rfl
 have q10:(e.bq==10)=false:=by rw[hk];rfl
 have q13:(e.bq==13)=false:=by rw[hk];rfl
 have q14:(e.bq==14)=false:=by rw[hk];rfl
 have q15:(e.bq==15)=true:=by rw[hk];rfl
 have b0:kIn e [1,13,14]=false:=by unfold kIn;rw[hk];rfl
 have b1:kIn e [13,14]=false:=by unfold kIn;rw[hk];rfl
 have b2:kIn e [15]=true:=by unfold kIn;rw[hk];rfl
 have b3:kIn e [4,6,7]=false:=by unfold kIn;rw[hk];rfl
 have b4:kIn e [6,7,15]=true:=by unfold kIn;rw[hk];rfl
 have b5:kIn e [10]=false:=by unfold kIn;rw[hk];rfl
 have b6:kIn e [3]=false:=by unfold kIn;rw[hk];rfl
 have b7:kIn e [6,10]=false:=by unfold kIn;rw[hk];rfl
 have b8:kIn e [1,2,5]=false:=by unfold kIn;rw[hk];rfl
 have b9:kIn e [8,9]=false:=by unfold kIn;rw[hk];rfl
 rw[Z5 (f:=133) rfl rfl];unfold ZO2;simp only[go_sem,c133,q1,q2,q5,q3,q4,q6,q7,q8,q9,q10,q13,q14,q15,b0,b1,b2,b3,b4,b5,b6,b7,b8,b9]
 try rfl
def ZTF(e:Gt)(hk:ZD e.bq 1 15=false):pfn rE 133 [evA e]=some (evA<|ZO2 e):=by
 have hk2:e.bq<1\/15<e.bq:=by by_cases h:e.bq<1;exact Or.inl h;by_cases h2:15<e.bq;exact Or.inr h2;exfalso;simp[ZD]at hk;omega
 have q1:(e.bq==1)=false:=by rw[beq_eq_false_iff_ne];omega
 have q2:(e.bq==2)=false:=by rw[beq_eq_false_iff_ne];omega
 have q5:(e.bq==5)=false:=by rw[beq_eq_false_iff_ne];omega
 have q3:(e.bq==3)=false:=by rw[beq_eq_false_iff_ne];omega
 have q4:(e.bq==4)=false:=by rw[beq_eq_false_iff_ne];omega
 have q6:(e.bq==6)=false:=by rw[beq_eq_false_iff_ne];omega
 have q7:(e.bq==7)=false:=by rw[beq_eq_false_iff_ne];omega
 have q8:(e.bq==8)=false:=by rw[beq_eq_false_iff_ne];omega
 have q9:(e.bq==9)=false:=by rw[beq_eq_false_iff_ne];omega
 have q10:(e.bq==10)=false:=by rw[beq_eq_false_iff_ne];omega
 have q13:(e.bq==13)=false:=by rw[beq_eq_false_iff_ne];omega
 have q14:(e.bq==14)=false:=by rw[beq_eq_false_iff_ne];omega
 have q15:(e.bq==15)=false:=by rw[beq_eq_false_iff_ne];omega
 have b0:kIn e [1,13,14]=false:=by unfold kIn;simp only[ZWF,ZWU,q1,q13,q14,ZWt]
 have b1:kIn e [13,14]=false:=by unfold kIn;simp only[ZWF,ZWU,q13,q14,ZWt]
 have b2:kIn e [15]=false:=by unfold kIn;simp only[ZWF,ZWU,q15,ZWt]
 have b3:kIn e [4,6,7]=false:=by unfold kIn;simp only[ZWF,ZWU,q4,q6,q7,ZWt]
 have b4:kIn e [6,7,15]=false:=by unfold kIn;simp only[ZWF,ZWU,q6,q7,q15,ZWt]
 have b5:kIn e [10]=false:=by unfold kIn;simp only[ZWF,ZWU,q10,ZWt]
 have b6:kIn e [3]=false:=by unfold kIn;simp only[ZWF,ZWU,q3,ZWt]
 have b7:kIn e [6,10]=false:=by unfold kIn;simp only[ZWF,ZWU,q6,q10,ZWt]
 have b8:kIn e [1,2,5]=false:=by unfold kIn;simp only[ZWF,ZWU,q1,q2,q5,ZWt]
 have b9:kIn e [8,9]=false:=by unfold kIn;simp only[ZWF,ZWU,q8,q9,ZWt]
 rw[Z5 (f:=133) rfl rfl];unfold ZO2;simp only[go_sem,c133,q1,q2,q5,q3,q4,q6,q7,q8,q9,q10,q13,q14,q15,b0,b1,b2,b3,b4,b5,b6,b7,b8,b9]
 try rfl
def ZOK(e:Gt):pfn rE 133 [evA e]=some (evA<|ZO2 e):=by
 cases h:ZD e.bq 1 15 with
 |false=>exact ZTF e h
 |true=>
  have hk:1<=e.bq/\e.bq<=15:=by simpa[ZD]using h
  have:e.bq=1\/e.bq=2\/e.bq=3\/e.bq=4\/e.bq=5\/e.bq=6\/e.bq=7\/e.bq=8\/e.bq=9\/e.bq=10\/e.bq=11\/e.bq=12\/e.bq=13\/e.bq=14\/e.bq=15:=by omega
  rcases this with h|h|h|h|h|h|h|h|h|h|h|h|h|h|h
  .exact ZTq e h
  .exact ZTr e h
  .exact ZTs e h
  .exact ZTt e h
  .exact ZTu e h
  .exact ZTv e h
  .exact ZTw e h
  .exact ZTx e h
  .exact ZTy e h
  .exact ZTz e h
  .exact ZTA e h
  .exact ZTB e h
  .exact ZTC e h
  .exact ZTD e h
  .exact ZTE e h
def ZPw{α:Type}{eq:α->α->Bool}(hr:∀x,eq x x=true)(l:List α):∀(r:List α)(i:Nat),l.drop i=r->Zu (ZO5 eq l) i r=true
 |[],i,h=>rfl
 |x::r,i,h=>by
  have hx:l[i]?=some x:=by
   have:=ZX9 (xs:=l) (i:=i) (j:=0);rw[h]at this;simpa using this.symm
  have hr':l.drop (i+1)=r:=by rw[<-ZWN,h];rfl
  show(ZO5 eq l i x&&Zu (ZO5 eq l) (i+1) r)=true
  rw[ZPw hr l r (i+1) hr'];unfold ZO5;rw[hx];simp[hr]
def ZPx{α:Type}{eq:α->α->Bool}(hr:∀x,eq x x=true)(l:List α):ZOd eq l l=true:=by
 unfold ZOd;rw[ZPw hr l l 0 rfl];simp
def ZRf{α:Type}(eq:α->α->Bool)(l:List α):ZOd eq [] l=((l.length:Int)==0):=by
 unfold ZOd;show((((0:Nat):Int)==(l.length:Int))&&true)=_
 rw[ZVJ,ZW1,beq_iff_eq,beq_iff_eq];omega
def ZOg(x:Str):Z3 x x=true:=(Ky _ _).2 rfl
def ZRg(x:HN):QL x x=true:=by unfold QL;simp[ZOg]
def ZPW(x:Pt):QK x x=true:=by unfold QK;simp
def ZTG(x:Nm):Xg x x=true:=by unfold Xg;simp[ZOg]
def ZTH(x:Ent):ZOf x x=true:=by unfold ZOf;simp[ZOg,ZRg,ZPW]
def ZOm(x y:Int):(x==y)=(y==x):=Bool.beq_comm
def ZTI(x y:HN):QL x y=QL y x:=by
 unfold QL;rw[ZOm x.N,ZOT,ZOm x.Num,ZOm x.Den]
def ZTJ(x y:Pt):QK x y=QK y x:=by
 unfold QK;rw[ZOm x.X,ZOm x.Y]
def ZPy{s:Str}:Z3 s emp=true↔s.size=0:=by
 rw[Ky];constructor
 .rintro rfl;rfl
 .intro e;exact ByteArray.ext<|ZXy e
def ZTK(x:Gt):Z3 (NF x) emp=(Z3 x.Id emp&&(Z3 x.br emp&&Z3 x.Text emp)):=by
 unfold NF;rw[ZW1,ZVB,ZVB,ZPy,ZPy,ZPy,ZPy,ByteArray.size_append,ByteArray.size_append];omega
def ZTL(x:Gt)(h1:x.Ids.l.length<=100)(h2:x.bk.l.length<=100)(h3:x.Path.l.length<=100)(h4:x.Lst.l.length<=100):
 NG x=(((x.Ids.l.length:Int)==0)&&(((x.bk.l.length:Int)==0)&&(((x.Path.l.length:Int)==0)&&((x.Lst.l.length:Int)==0)))):=by
 unfold NG;have w1:W ((x.Ids.l.length:Int)+(x.bk.l.length:Int))=(x.Ids.l.length:Int)+(x.bk.l.length:Int):=YM (by omega)<|by omega
 rw[w1];have w2:W ((x.Ids.l.length:Int)+(x.bk.l.length:Int)+(x.Path.l.length:Int))=(x.Ids.l.length:Int)+(x.bk.l.length:Int)+(x.Path.l.length:Int):=YM (by omega)<|by omega
 rw[w2];have w3:W ((x.Ids.l.length:Int)+(x.bk.l.length:Int)+(x.Path.l.length:Int)+(x.Lst.l.length:Int))=(x.Ids.l.length:Int)+(x.bk.l.length:Int)+(x.Path.l.length:Int)+(x.Lst.l.length:Int):=YM (by omega)<|by omega
 rw[w3,ZW1,ZVB,ZVB,ZVB,beq_iff_eq,beq_iff_eq,beq_iff_eq,beq_iff_eq,beq_iff_eq];omega
def ZTM(e:Gt)(hs:EvS e):(!Fb (Zq e)&&NG (Zq e))=ZOV (ZO2 e) e:=by
 have hz:∀n:Nat,n=0->((n:Int)==0)=true:=λn h=>by rw[h];rfl
 have k1:kIn e [1,13,14]=(kIn e [1]||kIn e [13,14]):=by unfold kIn;simp[Bool.or_assoc]
 have k15:(e.bq==15)=kIn e [15]:=by unfold kIn;simp
 have k10:(e.bq==10)=kIn e [10]:=by unfold kIn;simp
 have k3:(e.bq==3)=kIn e [3]:=by unfold kIn;simp
 have hA:((ZO2 e).A==e.A)=((Zq e).A==0):=by
  unfold ZO2 Zq;dsimp only;rw[k1];cases kIn e [1]<;>cases kIn e [13,14]<;>simp[ZOm 0 e.A]
 have hB:((ZO2 e).B==e.B)=((Zq e).B==0):=by
  unfold ZO2 Zq;dsimp only;cases kIn e [13,14]<;>simp[ZOm 0 e.B]
 have hO:((ZO2 e).bv==e.bv)=((Zq e).bv==0):=by
  unfold ZO2 Zq;dsimp only;rw[k15];cases kIn e [15]<;>simp[ZOm 0 e.bv]
 have hI:Z3 (ZO2 e).Id e.Id=Z3 (Zq e).Id emp:=by
  unfold ZO2 Zq;dsimp only;cases kIn e [13,14]<;>simp[ZOg,ZOT emp e.Id]
 have hT:Z3 (ZO2 e).br e.br=Z3 (Zq e).br emp:=by
  unfold ZO2 Zq;dsimp only;cases kIn e [4,6,7]<;>simp[ZOg,ZOT emp e.br]
 have hX:Z3 (ZO2 e).Text e.Text=Z3 (Zq e).Text emp:=by
  unfold ZO2 Zq;dsimp only;cases kIn e [6,7,15]<;>simp[ZOg,ZOT emp e.Text]
 have hN:QL (ZO2 e).An e.An=QL (Zq e).An ⟨0,emp,0,0⟩:=by
  unfold ZO2 Zq;dsimp only;cases kIn e [6,10]<;>simp[ZRg,ZTI ⟨0,emp,0,0⟩ e.An]
 have hP:QK (ZO2 e).bg e.bg=QK (Zq e).bg ⟨0,0⟩:=by
  unfold ZO2 Zq;dsimp only;cases kIn e [6,10]<;>simp[ZPW,ZTJ ⟨0,0⟩ e.bg]
 have l1:(((ZO2 e).Ids.l.length:Int)==(e.Ids.l.length:Int))=(((Zq e).Ids.l.length:Int)==0):=by
  unfold ZO2 Zq;dsimp only;rw[k10];cases kIn e [10]<;>simp[ZOm 0 (e.Ids.l.length:Int)]
 have l2:(((ZO2 e).Lst.l.length:Int)==(e.Lst.l.length:Int))=(((Zq e).Lst.l.length:Int)==0):=by
  unfold ZO2 Zq;dsimp only;cases kIn e [8,9]<;>simp[ZOm 0 (e.Lst.l.length:Int)]
 have l3:Zu (ZO5 Z3 e.Ids.l) 0 (ZO2 e).Ids.l=true:=by
  unfold ZO2;dsimp only;cases kIn e [10]with
  |true=>exact ZPw ZOg _ _ 0 rfl
  |false=>rfl
 have l4:Zu (ZO5 ZOf e.Lst.l) 0 (ZO2 e).Lst.l=true:=by
  unfold ZO2;dsimp only;cases kIn e [8,9]with
  |true=>exact ZPw ZTH _ _ 0 rfl
  |false=>rfl
 have l5:ZOd Xg (ZO2 e).bk.l e.bk.l=(((Zq e).bk.l.length:Int)==0):=by
  unfold ZO2 Zq;dsimp only;rw[k3];cases kIn e [3]with
  |true=>exact ZPx ZTG _
  |false=>exact ZRf _ _
 have l6:ZOd QK (ZO2 e).Path.l e.Path.l=(((Zq e).Path.l.length:Int)==0):=by
  unfold ZO2 Zq;dsimp only;cases kIn e [1,2,5]with
  |true=>exact ZPx ZPW _
  |false=>exact ZRf _ _
 have s1:(Zq e).Ids.l.length<=100:=by
  unfold Zq;dsimp only;cases e.bq==10<;>simp[hs.ids]
 have s2:(Zq e).bk.l.length<=100:=by
  unfold Zq;dsimp only;cases e.bq==3<;>simp[hs.names]
 have s3:(Zq e).Path.l.length<=100:=by
  unfold Zq;dsimp only;cases kIn e [1,2,5]<;>simp[hs.path]
 have s4:(Zq e).Lst.l.length<=100:=by
  unfold Zq;dsimp only;cases kIn e [8,9]<;>simp[hs.lst]
 have hk:((ZO2 e).bq==e.bq)=true:=by unfold ZO2;simp
 have hd:((ZO2 e).Day==e.Day)=true:=by unfold ZO2;simp
 rw[ZTL _ s1 s2 s3 s4];unfold ZOV ZPV Fb;rw[ZTK,hA,hB,hO,hI,hT,hX,hN,hP,l1,l2,l3,l4,l5,l6,hk,hd];simp only[ZOb];generalize Zq e=x;rw[ZW1];simp only[ZVB,ZVW,ZXc,ZX5];constructor
 .rintro⟨⟨⟨⟨⟨⟨a,b⟩,c⟩,d1,d2,d3⟩,f⟩,g⟩,i1,i2,i3,i4⟩;exact⟨⟨trivial,trivial,a,b,c,d1,d2,d3,f,g⟩,⟨i1,i4⟩,trivial,trivial,i2,i3⟩
 .rintro⟨⟨_,_,a,b,c,d1,d2,d3,f,g⟩,⟨i1,i4⟩,_,_,i2,i3⟩;exact⟨⟨⟨⟨⟨⟨a,b⟩,c⟩,d1,d2,d3⟩,f⟩,g⟩,i1,i2,i3,i4⟩
def okU(e:Gt):Bool:=ZD e.Day 0 100000&&ZOV (ZO2 e) e
def ZTN(e:Gt)(hs:EvS e):Q9 e=(ZD e.bq 1 15&&(okU e&&Q8 e)):=by
 unfold Q9 okU;rw[<-ZTM e hs];cases ZD e.bq 1 15<;>cases ZD e.Day 0 100000<;>simp[ZWV]
structure EvR(e:Gt):Prop extends EvS e where
 nms:∀x∈e.bk.l,x.Lang.size<=1000000/\x.Text.size<=1000000
def ZTO(e:Gt)(hs:EvS e):(ZO2 e).Ids.l.length<=1000000/\(ZO2 e).Lst.l.length<=1000000/\(ZO2 e).bk.l.length<=1000000/\(ZO2 e).Path.l.length<=1000000:=by
 have h1:=hs.ids;have h2:=hs.lst;have h3:=hs.names;have h4:=hs.path;unfold ZO2;dsimp only;cases kIn e [10]<;>cases kIn e [8,9]<;>cases kIn e [3]<;>cases kIn e [1,2,5]<;>simp only[cond_true,cond_false,ZWs]<;>omega
def ZOL(e:Gt)(hs:EvS e):pfn rE 132 [evA<|ZO2 e,evA e]=some (.bool<|ZOV (ZO2 e) e):=by
 obtain⟨h1,h2,h3,h4⟩:=ZTO e hs;exact ZTp (ZO2 e) e h1 h2 h3 h4
def ZTP(e:Gt)(hs:EvS e)(h:okU e=false):pfn rE 52 [evA e]=some (.bool false):=by
 have hu:=ZOK e;have hS:=ZOL e hs;unfold okU ZD at h;generalize ZO2 e=u at h hu hS;rw[Z5 (f:=52) rfl rfl];cases d1:decide (e.Day<0)with
 |true=>simp only[go_sem,c52,d1]
 |false=>
 have p1:decide (e.Day>=0)=true:=by have:=of_decide_eq_false d1;exact decide_eq_true<|by omega
 cases d2:decide (e.Day>100000)with
 |true=>simp only[go_sem,c52,d1,d2]
 |false=>
 have p2:decide (e.Day<=100000)=true:=by have:=of_decide_eq_false d2;exact decide_eq_true<|by omega
 rw[p1,p2,ZVD,ZVD]at h;simp only[go_sem,c52,d1,d2,hu,hS,h,ZVE]
def ZOW(e:Gt)(h:okU e=true):decide (e.Day<0)=false/\decide (e.Day>100000)=false/\ZOV (ZO2 e) e=true:=by
 unfold okU ZD at h;simp only[ZVB,decide_eq_true_eq]at h;exact⟨decide_eq_false (by omega),decide_eq_false (by omega),h.2⟩
def ZTQ(e:Gt)(hs:EvR e)(hu0:okU e=true)(hk:e.bq=1):pfn rE 52 [evA e]=some (.bool<|Q8 e):=by
 have hu:=ZOK e;have hS:=ZOL e hs.toEvS;obtain⟨d1,d2,d3⟩:=ZOW e hu0;rw[d3]at hS;generalize ZO2 e=u at hu hS;have hn:=ZOi e.Id (by have:=hs.id;omega)
 have q1:(e.bq==1)=true:=by rw[hk];rfl
 rw[Z5 (f:=52) rfl rfl];unfold Q8;have hv:=ZQU e.Path.l e.Path.ex (by have:=hs.path;omega)
 unfold ZD;cases c1:ZZ e.Id with
 |false=>simp only[go_sem,c52,d1,d2,hu,hS,hn,ZVC,q1,c1,cond_true,cond_false,ZVD,ZVG,ZVJ,ZVL]
 |true=>
 cases c2:decide (e.A>=1)with
 |false=>simp only[go_sem,c52,d1,d2,hu,hS,hn,ZVC,q1,c1,c2,cond_true,cond_false,ZVD,ZVG,ZVJ,ZVL]
 |true=>
 cases c3:decide (e.A<=3)with
 |false=>simp only[go_sem,c52,d1,d2,hu,hS,hn,ZVC,q1,c1,c2,c3,cond_true,cond_false,ZVD,ZVG,ZVJ,ZVL]
 |true=>simp only[go_sem,c52,d1,d2,hu,hS,hn,ZVC,q1,c1,c2,c3,hv,cond_true,cond_false,ZVD,ZVG,ZVJ,ZVL]
def ZTR(e:Gt)(hs:EvR e)(hu0:okU e=true)(hk:e.bq=2):pfn rE 52 [evA e]=some (.bool<|Q8 e):=by
 have hu:=ZOK e;have hS:=ZOL e hs.toEvS;obtain⟨d1,d2,d3⟩:=ZOW e hu0;rw[d3]at hS;generalize ZO2 e=u at hu hS;have hn:=ZOi e.Id (by have:=hs.id;omega)
 have q1:(e.bq==1)=false:=by rw[hk];rfl
 have q2:(e.bq==2)=true:=by rw[hk];rfl
 rw[Z5 (f:=52) rfl rfl];unfold Q8;have hv:=ZSL e.Path.l e.Path.ex (by have:=hs.path;omega)
 cases c1:ZZ e.Id<;>simp only[go_sem,c52,d1,d2,hu,hS,hn,ZVC,q1,q2,c1,hv,cond_true,cond_false,ZVD,ZVG,ZVJ,ZVL]
def ZTS(e:Gt)(hs:EvR e)(hu0:okU e=true)(hk:e.bq=3):pfn rE 52 [evA e]=some (.bool<|Q8 e):=by
 have hu:=ZOK e;have hS:=ZOL e hs.toEvS;obtain⟨d1,d2,d3⟩:=ZOW e hu0;rw[d3]at hS;generalize ZO2 e=u at hu hS;have hn:=ZOi e.Id (by have:=hs.id;omega)
 have q1:(e.bq==1)=false:=by rw[hk];rfl
 have q2:(e.bq==2)=false:=by rw[hk];rfl
 have q3:(e.bq==3)=true:=by rw[hk];rfl
 rw[Z5 (f:=52) rfl rfl];unfold Q8;have hv:=ZTk e.bk.ex e.bk.l (by have:=hs.names;omega) hs.nms
 cases c1:ZZ e.Id<;>simp only[go_sem,c52,d1,d2,hu,hS,hn,ZVC,q1,q2,q3,c1,hv,cond_true,cond_false,ZVD,ZVG,ZVJ,ZVL]
def ZTT(e:Gt)(hs:EvR e)(hu0:okU e=true)(hk:e.bq=5):pfn rE 52 [evA e]=some (.bool<|Q8 e):=by
 have hu:=ZOK e;have hS:=ZOL e hs.toEvS;obtain⟨d1,d2,d3⟩:=ZOW e hu0;rw[d3]at hS;generalize ZO2 e=u at hu hS;have hn:=ZOi e.Id (by have:=hs.id;omega)
 have q1:(e.bq==1)=false:=by rw[hk];rfl
 have q2:(e.bq==2)=false:=by rw[hk];rfl
 have q3:(e.bq==3)=false:=by rw[hk];rfl
 have q4:(e.bq==4)=false:=by rw[hk];rfl
 have q5:(e.bq==5)=true:=by rw[hk];rfl
 rw[Z5 (f:=52) rfl rfl];unfold Q8;have hv:=ZQU e.Path.l e.Path.ex (by have:=hs.path;omega)
 cases c1:ZZ e.Id<;>simp only[go_sem,c52,d1,d2,hu,hS,hn,ZVC,q1,q2,q3,q4,q5,c1,hv,cond_true,cond_false,ZVD,ZVG,ZVJ,ZVL]
def ZTU(e:Gt)(hs:EvR e)(hu0:okU e=true)(hk:e.bq=6):pfn rE 52 [evA e]=some (.bool<|Q8 e):=by
 have hu:=ZOK e;have hS:=ZOL e hs.toEvS;obtain⟨d1,d2,d3⟩:=ZOW e hu0;rw[d3]at hS;generalize ZO2 e=u at hu hS;have hn:=ZOi e.Id (by have:=hs.id;omega)
 have q1:(e.bq==1)=false:=by rw[hk];rfl
 have q2:(e.bq==2)=false:=by rw[hk];rfl
 have q3:(e.bq==3)=false:=by rw[hk];rfl
 have q4:(e.bq==4)=false:=by rw[hk];rfl
 have q5:(e.bq==5)=false:=by rw[hk];rfl
 have q6:(e.bq==6)=true:=by rw[hk];rfl
 rw[Z5 (f:=52) rfl rfl];unfold Q8;have hv:=ZRc false false [e.Id,e.br,e.Text] (by simp) (by
  have:=hs.id;have:=hs.other;have:=hs.text;intro x hx;simp only[ZVX,ZXB,or_false]at hx;rcases hx with rfl|rfl|rfl<;>omega)
 have hv':pfn rE 138 [.isl false false 1 [.str e.Id,.str e.br,.str e.Text]]=_:=hv;have hm:=ZSS e.An;have ho:=ZO4 e.bg;cases c1:Qv [e.Id,e.br,e.Text]with
 |false=>simp only[go_sem,c52,d1,d2,hu,hS,hn,ZVC,q1,q2,q3,q4,q5,q6,hv',c1,cond_true,cond_false,ZVD,ZVG,ZVJ,ZVL]
 |true=>
 cases c2:YO e.An<;>simp only[go_sem,c52,d1,d2,hu,hS,hn,ZVC,q1,q2,q3,q4,q5,q6,hv',c1,hm,c2,ho,cond_true,cond_false,ZVD,ZVG,ZVJ,ZVL]
def ZTV(e:Gt)(hs:EvR e)(hu0:okU e=true)(hk:e.bq=7):pfn rE 52 [evA e]=some (.bool<|Q8 e):=by
 have hu:=ZOK e;have hS:=ZOL e hs.toEvS;obtain⟨d1,d2,d3⟩:=ZOW e hu0;rw[d3]at hS;generalize ZO2 e=u at hu hS;have hn:=ZOi e.Id (by have:=hs.id;omega)
 have q1:(e.bq==1)=false:=by rw[hk];rfl
 have q2:(e.bq==2)=false:=by rw[hk];rfl
 have q3:(e.bq==3)=false:=by rw[hk];rfl
 have q4:(e.bq==4)=false:=by rw[hk];rfl
 have q5:(e.bq==5)=false:=by rw[hk];rfl
 have q6:(e.bq==6)=false:=by rw[hk];rfl
 have q7:(e.bq==7)=true:=by rw[hk];rfl
 rw[Z5 (f:=52) rfl rfl];unfold Q8;have hv:=ZRc false false [e.Id,e.br] (by simp) (by
  have:=hs.id;have:=hs.other;intro x hx;simp only[ZVX,ZXB,or_false]at hx;rcases hx with rfl|rfl<;>omega)
 have hv':pfn rE 138 [.isl false false 1 [.str e.Id,.str e.br]]=_:=hv;have hd:=ZTf e.Text 24 (by have:=hs.text;omega)
 cases c1:Qv [e.Id,e.br]<;>simp only[go_sem,c52,d1,d2,hu,hS,hn,ZVC,q1,q2,q3,q4,q5,q6,q7,hv',c1,hd,cond_true,cond_false,ZVD,ZVG,ZVJ,ZVL]
def ZTW(e:Gt)(hs:EvR e)(hu0:okU e=true)(hk:e.bq=15):pfn rE 52 [evA e]=some (.bool<|Q8 e):=by
 have hu:=ZOK e;have hS:=ZOL e hs.toEvS;obtain⟨d1,d2,d3⟩:=ZOW e hu0;rw[d3]at hS;generalize ZO2 e=u at hu hS;have hn:=ZOi e.Id (by have:=hs.id;omega)
 have q1:(e.bq==1)=false:=by rw[hk];rfl
 have q2:(e.bq==2)=false:=by rw[hk];rfl
 have q3:(e.bq==3)=false:=by rw[hk];rfl
 have q4:(e.bq==4)=false:=by rw[hk];rfl
 have q5:(e.bq==5)=false:=by rw[hk];rfl
 have q6:(e.bq==6)=false:=by rw[hk];rfl
 have q7:(e.bq==7)=false:=by rw[hk];rfl
 have q8:(e.bq==8)=false:=by rw[hk];rfl
 have q9:(e.bq==9)=false:=by rw[hk];rfl
 have q10:(e.bq==10)=false:=by rw[hk];rfl
 have q11:(e.bq==11)=false:=by rw[hk];rfl
 have q12:(e.bq==12)=false:=by rw[hk];rfl
 have q13:(e.bq==13)=false:=by rw[hk];rfl
 have q14:(e.bq==14)=false:=by rw[hk];rfl
 have q15:(e.bq==15)=true:=by rw[hk];rfl
 rw[Z5 (f:=52) rfl rfl];unfold Q8;have hv:=ZT9 e.Text (by have:=hs.text;omega)
 unfold ZD;cases c1:ZZ e.Id with
 |false=>simp only[go_sem,c52,d1,d2,hu,hS,hn,ZVC,q1,q2,q3,q4,q5,q6,q7,q8,q9,q10,q11,q12,q13,q14,q15,c1,cond_true,cond_false,ZVD,ZVG,ZVJ,ZVL]
 |true=>
 cases c2:decide (e.bv>=0)with
 |false=>simp only[go_sem,c52,d1,d2,hu,hS,hn,ZVC,q1,q2,q3,q4,q5,q6,q7,q8,q9,q10,q11,q12,q13,q14,q15,c1,c2,cond_true,cond_false,ZVD,ZVG,ZVJ,ZVL]
 |true=>
 cases c3:decide (e.bv<=63)with
 |false=>simp only[go_sem,c52,d1,d2,hu,hS,hn,ZVC,q1,q2,q3,q4,q5,q6,q7,q8,q9,q10,q11,q12,q13,q14,q15,c1,c2,c3,cond_true,cond_false,ZVD,ZVG,ZVJ,ZVL]
 |true=>simp only[go_sem,c52,d1,d2,hu,hS,hn,ZVC,q1,q2,q3,q4,q5,q6,q7,q8,q9,q10,q11,q12,q13,q14,q15,c1,c2,c3,hv,cond_true,cond_false,ZVD,ZVG,ZVJ,ZVL]
def ZOc(n:Int):pfn rE 51 [I n]=some (.bool<|ZD n 0 63):=by
 rw[Z5 (f:=51) rfl rfl];unfold ZD;cases c:decide (n>=0)<;>simp only[go_sem,c51,c,ZVD,ZVG]
def ZOe(n a:Int):pfn rE 63 [I n,I a]=some (.bool<|ZD n a 100000):=by
 rw[Z5 (f:=63) rfl rfl];unfold ZD;cases c:decide (n>=a)<;>simp only[go_sem,c63,c,ZVD,ZVG]
def ZTX(s:Sta)(hs:StS s)(id:Str):pfn rE 147 [stA s,.str id]=some (I<|ZL s id):=by
 have L:=ZDU (E:=rE) (live:=[1,2,5]) (b:=c147L0b) (h:=[]) s.Gm (λx=>Z3 x.Id id) (λi=>[(1,.str id),(2,stI s),(5,I i)]) 0 (λi fr=>get fr 4=I i) (λk=>rfl)
  (λi x hx hP=>by
   have hg:=Z6 (f:=By.enc) hx;have hlt:=Zh<|Z7 hx;have hw:=Zx (n:=i) (by have:=Z7 hx;have:=hs.streets;omega)
   have hP':Z3 x.Id id=false:=hP;refine⟨_,by simp only[go_sem,c147L0b,hg,hlt,hw,By.enc,hP',ZVA];rfl,?_⟩
   simp only[go_sem])
  (λi x hx hP=>by
   have hg:=Z6 (f:=By.enc) hx;have hlt:=Zh<|Z7 hx;have hP':Z3 x.Id id=true:=hP;refine⟨_,by simp only[go_sem,c147L0b,hg,hlt,By.enc,hP',ZVA];rfl,?_⟩
   simp only[go_sem])
  (⟨_,by simp only[go_sem,c147L0b,ZG,ZVA];rfl⟩)
 obtain⟨fr',h1,h2⟩:=L;have h1':Zg rE [1,2,5] c147L0b [(1,.str id),(2,stI s),(5,.int .i64 0)] []=_:=h1;rw[Z5 (f:=147) rfl rfl];unfold ZL;by_cases hc:Zp (λx:By=>Z3 x.Id id) s.Gm 0=-1
 .rw[if_pos hc]at h1';rw[hc];simp only[go_sem,c147,c147L0,h1']
 .rw[if_neg hc]at h1';obtain⟨i,e,g4⟩:=h2 hc;rw[e];simp only[go_sem,c147,c147L0,h1',g4]
def ZTY(s:Sta)(hs:StS s)(id:Str):pfn rE 148 [stA s,.str id]=some (I<|Y1 s id):=by
 have L:=ZDU (E:=rE) (live:=[1,2,5]) (b:=c148L0b) (h:=[]) s.Bt (λx=>Z3 x.Id id) (λi=>[(1,.str id),(2,stI s),(5,I i)]) 0 (λi fr=>get fr 4=I i) (λk=>rfl)
  (λi x hx hP=>by
   have hg:=Z6 (f:=Ev.enc) hx;have hlt:=Zh<|Z7 hx;have hw:=Zx (n:=i) (by have:=Z7 hx;have:=hs.buildings;omega)
   have hP':Z3 x.Id id=false:=hP;refine⟨_,by simp only[go_sem,c148L0b,hg,hlt,hw,Ev.enc,hP',ZVA];rfl,?_⟩
   simp only[go_sem])
  (λi x hx hP=>by
   have hg:=Z6 (f:=Ev.enc) hx;have hlt:=Zh<|Z7 hx;have hP':Z3 x.Id id=true:=hP;refine⟨_,by simp only[go_sem,c148L0b,hg,hlt,Ev.enc,hP',ZVA];rfl,?_⟩
   simp only[go_sem])
  (⟨_,by simp only[go_sem,c148L0b,ZG,ZVA];rfl⟩)
 obtain⟨fr',h1,h2⟩:=L;have h1':Zg rE [1,2,5] c148L0b [(1,.str id),(2,stI s),(5,.int .i64 0)] []=_:=h1;rw[Z5 (f:=148) rfl rfl];unfold Y1;by_cases hc:Zp (λx:Ev=>Z3 x.Id id) s.Bt 0=-1
 .rw[if_pos hc]at h1';rw[hc];simp only[go_sem,c148,c148L0,h1']
 .rw[if_neg hc]at h1';obtain⟨i,e,g4⟩:=h2 hc;rw[e];simp only[go_sem,c148,c148L0,h1',g4]
def ZOs(s:Sta)(hs:StS s)(id:Str):pfn rE 13 [stA s,.str id]=some (I<|Zn s id):=by
 have L:=ZDU (E:=rE) (live:=[1,2,5]) (b:=c13L0b) (h:=[]) s.Bc (λx=>Z3 x.Id id) (λi=>[(1,.str id),(2,stI s),(5,I i)]) 0 (λi fr=>get fr 4=I i) (λk=>rfl)
  (λi x hx hP=>by
   have hg:=Z6 (f:=Ga.enc) hx;have hlt:=Zh<|Z7 hx;have hw:=Zx (n:=i) (by have:=Z7 hx;have:=hs.doors;omega)
   have hP':Z3 x.Id id=false:=hP;refine⟨_,by simp only[go_sem,c13L0b,hg,hlt,hw,Ga.enc,hP',ZVA];rfl,?_⟩
   simp only[go_sem])
  (λi x hx hP=>by
   have hg:=Z6 (f:=Ga.enc) hx;have hlt:=Zh<|Z7 hx;have hP':Z3 x.Id id=true:=hP;refine⟨_,by simp only[go_sem,c13L0b,hg,hlt,Ga.enc,hP',ZVA];rfl,?_⟩
   simp only[go_sem])
  (⟨_,by simp only[go_sem,c13L0b,ZG,ZVA];rfl⟩)
 obtain⟨fr',h1,h2⟩:=L;have h1':Zg rE [1,2,5] c13L0b [(1,.str id),(2,stI s),(5,.int .i64 0)] []=_:=h1;rw[Z5 (f:=13) rfl rfl];unfold Zn;by_cases hc:Zp (λx:Ga=>Z3 x.Id id) s.Bc 0=-1
 .rw[if_pos hc]at h1';rw[hc];simp only[go_sem,c13,c13L0,h1']
 .rw[if_neg hc]at h1';obtain⟨i,e,g4⟩:=h2 hc;rw[e];simp only[go_sem,c13,c13L0,h1',g4]
def ZPX(s:Sta)(hs:StS s)(id:Str):pfn rE 90 [stA s,.str id]=some (I<|Wf s id):=by
 have L:=ZDU (E:=rE) (live:=[1,2,5]) (b:=c90L0b) (h:=[]) s.Nk (λx=>Z3 x.Id id) (λi=>[(1,.str id),(2,stI s),(5,I i)]) 0 (λi fr=>get fr 4=I i) (λk=>rfl)
  (λi x hx hP=>by
   have hg:=Z6 (f:=be.enc) hx;have hlt:=Zh<|Z7 hx;have hw:=Zx (n:=i) (by have:=Z7 hx;have:=hs.units;omega)
   have hP':Z3 x.Id id=false:=hP;refine⟨_,by simp only[go_sem,c90L0b,hg,hlt,hw,be.enc,hP',ZVA];rfl,?_⟩
   simp only[go_sem])
  (λi x hx hP=>by
   have hg:=Z6 (f:=be.enc) hx;have hlt:=Zh<|Z7 hx;have hP':Z3 x.Id id=true:=hP;refine⟨_,by simp only[go_sem,c90L0b,hg,hlt,be.enc,hP',ZVA];rfl,?_⟩
   simp only[go_sem])
  (⟨_,by simp only[go_sem,c90L0b,ZG,ZVA];rfl⟩)
 obtain⟨fr',h1,h2⟩:=L;have h1':Zg rE [1,2,5] c90L0b [(1,.str id),(2,stI s),(5,.int .i64 0)] []=_:=h1;rw[Z5 (f:=90) rfl rfl];unfold Wf;by_cases hc:Zp (λx:be=>Z3 x.Id id) s.Nk 0=-1
 .rw[if_pos hc]at h1';rw[hc];simp only[go_sem,c90,c90L0,h1']
 .rw[if_neg hc]at h1';obtain⟨i,e,g4⟩:=h2 hc;rw[e];simp only[go_sem,c90,c90L0,h1',g4]
def ZTZ(s:Sta)(hs:StS s)(a:Int):pfn rE 155 [stA s,I a]=some (I<|XJ s a):=by
 have n1:((1:Int)).toNat=1:=rfl;have n0:((0:Int)).toNat=0:=rfl;have L:=ZDU (E:=rE) (live:=[1,2,5]) (b:=c155L0b) (h:=[]) s.Gc (λp=>p.b==a) (λi=>[(1,I a),(2,stI s),(5,I i)]) 0 (λi fr=>∃p,s.Gc[i]?=some p/\get fr 4=I p.a) (λk=>rfl)
  (λi x hx hP=>by
   have hg:=Z6 (f:=bf.enc) hx;have hlt:=Zh<|Z7 hx;have hw:=Zx (n:=i) (by have:=Z7 hx;have:=hs.merged;omega)
   have hP':(x.b==a)=false:=hP;refine⟨_,by simp only[go_sem,c155L0b,hg,hlt,hw,bf.enc,XL,n1,if_true,hP',ZVA];rfl,?_⟩
   simp only[go_sem])
  (λi x hx hP=>by
   have hg:=Z6 (f:=bf.enc) hx;have hlt:=Zh<|Z7 hx;have hP':(x.b==a)=true:=hP;refine⟨_,by simp only[go_sem,c155L0b,hg,hlt,bf.enc,WJ,XL,n0,n1,if_true,hP',ZVA];rfl,x,hx,?_⟩
   simp only[go_sem])
  (⟨_,by simp only[go_sem,c155L0b,ZG,ZVA];rfl⟩)
 obtain⟨fr',h1,h2⟩:=L;have h1':Zg rE [1,2,5] c155L0b [(1,I a),(2,stI s),(5,.int .i64 0)] []=_:=h1;rw[Z5 (f:=155) rfl rfl];unfold XJ;rcases UA (λp:bf=>p.b==a) s.Gc 0 with⟨hc,hf⟩|⟨j,x,hc,hx,hf⟩
 .rw[if_pos hc]at h1';rw[hf];simp only[go_sem,c155,c155L0,h1']
 .have hn:Zp (λp:bf=>p.b==a) s.Gc 0≠-1:=by rw[hc];omega
  rw[if_neg hn]at h1';obtain⟨i,e,p,hp,g4⟩:=h2 hn;have:i=j:=by rw[hc]at e;omega
  subst this;rw[hx]at hp;cases hp;rw[hf];simp only[go_sem,c155,c155L0,h1',g4]
def ZOn(e:Gt)(hs:EvR e)(hk:e.bq=1\/e.bq=2\/e.bq=3\/e.bq=5\/e.bq=6\/e.bq=7\/e.bq=15):pfn rE 52 [evA e]=some (.bool<|Q9 e):=by
 have hw:ZD e.bq 1 15=true:=by unfold ZD;rw[ZVB,decide_eq_true_eq,decide_eq_true_eq];omega
 rw[ZTN e hs.toEvS,hw,ZVD];cases hu:okU e with
 |false=>exact ZTP e hs.toEvS hu
 |true=>
  rw[ZVD];rcases hk with h|h|h|h|h|h|h
  .exact ZTQ e hs hu h
  .exact ZTR e hs hu h
  .exact ZTS e hs hu h
  .exact ZTT e hs hu h
  .exact ZTU e hs hu h
  .exact ZTV e hs hu h
  .exact ZTW e hs hu h
def ZPz(l:List Nm)(ex:Bool)(hl:l.length<=100)(hs:∀x∈l,x.Lang.size<=1000000/\x.Text.size<=1000000):pfn rE 64 [.isl false ex 3<|l.map Nm.enc]=some (.bool<|Jp l ex):=by
 have h:=ZOn (Jo l ex) ⟨⟨by simp[Jo],hl,by simp[Jo],by simp[Jo],ZW3 rfl,ZW3 rfl,ZW3 rfl⟩,hs⟩<|Or.inr<|Or.inr<|Or.inl rfl
 have h':pfn rE 52 [.agg [I 3,I 0,I 0,I 0,I 0,.str<|B [120],.str emp,.str emp,.isl false false 1 [],.isl false ex 3<|l.map Nm.enc,I 0,.str emp,I 0,I 0,I 0,I 0,.isl false false 2 [],.isl false false 7 []]]=some (.bool<|Q9<|Jo l ex):=h;rw[Z5 (f:=64) rfl rfl];unfold Jp;cases c:(l.length:Int)==0<;>simp only[go_sem,c64,c,h',ZVA,ZVR,ZVS]
def ZOt(e:Gt)(h:e.bk.l=[]):∀x∈e.bk.l,x.Lang.size<=1000000/\x.Text.size<=1000000:=by
 rw[h];intro x hx;cases hx
def ZOA(d:Ga):Bool:=Q9 {NM d with bq:=15}&&(Z3 d.Ev emp&&(Z3 d.By emp&&(QL d.An ⟨0,emp,0,0⟩&&QK d.bg ⟨0,0⟩)))
def ZRh(d:Ga)(hd:DoS d):pfn rE 67 [Zo d]=some (.bool<|ZOA d):=by
 have h:=ZOn {NM d with bq:=15} ⟨⟨by simp[NM],by simp[NM],by simp[NM],by simp[NM],hd.id,ZW3 rfl,hd.veil⟩,ZOt _ rfl⟩<|by simp
 have h':pfn rE 52 [.agg [I 15,I 0,I 0,I 0,I d.bv,.str d.Id,.str emp,.str d.Veil,.isl false false 1 [],.isl false false 3 [],I 0,.str emp,I 0,I 0,I 0,I 0,.isl false false 2 [],.isl false false 7 []]]=some (.bool<|Q9 {NM d with bq:=15}):=h
 have hn:(d.An.N==0&&(Z3 d.An.bm emp&&(d.An.Num==0&&d.An.Den==0)))=QL d.An ⟨0,emp,0,0⟩:=rfl;have hp:(d.bg.X==0&&d.bg.Y==0)=QK d.bg ⟨0,0⟩:=rfl;rw[Z5 (f:=67) rfl rfl];unfold ZOA;cases c1:Q9 {NM d with bq:=15}with
 |false=>simp only[go_sem,c67,Zo,h',c1,ZVE,ZVG]
 |true=>
 cases c2:Z3 d.Ev emp with
 |false=>simp only[go_sem,c67,Zo,h',c1,c2,ZVC,ZVD,ZVG]
 |true=>
 cases c3:Z3 d.By emp with
 |false=>simp only[go_sem,c67,Zo,h',c1,c2,c3,ZVC,ZVD,ZVG]
 |true=>
 cases c4:QL d.An ⟨0,emp,0,0⟩<;>simp only[go_sem,c67,Zo,h',c1,c2,c3,hn,hp,c4,ZVC,ZVD,ZVG]
def ZU0(d:Ga):ZOA d=NN d:=by
 unfold ZOA NN;cases Z3 d.Ev emp<;>cases Z3 d.By emp<;>cases QL d.An ⟨0,emp,0,0⟩<;>cases QK d.bg ⟨0,0⟩<;>simp
def ZOM(s:Sta)(d:Ga):Bool:=Q9 {Hf d with bq:=6}&&!NO s d
def ZPc{α:Type}(P:α->Bool)(l:List α)(h:decide (Zp P l 0>=0)=true):∃(j:Nat)(x:α),Zp P l 0=(j:Int)/\l[j]?=some x:=by
 rcases UA P l 0 with⟨hc,_⟩|⟨j,x,hc,hx,_⟩
 .rw[hc]at h;cases h
 .exact⟨j,x,by omega,hx⟩
def ZRi(s:Sta)(hs:StS s)(d:Ga)(hd:DoS d):pfn rE 66 [stA s,Zo d]=some (.bool<|ZOM s d):=by
 have h:=ZOn {Hf d with bq:=6} ⟨⟨by simp[Hf],by simp[Hf],by simp[Hf],by simp[Hf],hd.id,hd.building,hd.street⟩,ZOt _ rfl⟩<|by simp
 have h':pfn rE 52 [.agg [I 6,I 0,I 0,I 0,I 0,.str d.Id,.str d.Ev,.str d.By,.isl false false 1 [],.isl false false 3 [],I d.An.N,.str d.An.bm,I d.An.Num,I d.An.Den,I d.bg.X,I d.bg.Y,.isl false false 2 [],.isl false false 7 []]]=some (.bool<|Q9 {Hf d with bq:=6}):=h
 have hb:=ZTY s hs d.Ev;have ht:=ZTX s hs d.By;rw[Z5 (f:=66) rfl rfl];unfold ZOM NO;have neg:∀n:Int,decide (n<0) = !decide (n>=0):=λn=>by rw[<-decide_not,decide_eq_decide];omega
 rw[neg,neg];cases c1:Q9 {Hf d with bq:=6}with
 |false=>simp only[go_sem,c66,Zo,h',c1,ZVE,ZVG]
 |true=>
 cases c2:(d.bv != 0)with
 |true=>simp only[go_sem,c66,Zo,h',c1,c2,ZVC,ZVD,ZVR,ZWe]
 |false=>
 cases c3:decide (Y1 s d.Ev>=0)with
 |false=>simp only[go_sem,c66,Zo,h',c1,c2,hb,ht,c3,ZVC,ZVE,ZVD,ZVR,ZWe]
 |true=>
 cases c4:decide (ZL s d.By>=0)with
 |false=>simp only[go_sem,c66,Zo,h',c1,c2,hb,ht,c3,c4,ZVC,ZVE,ZVD,ZVR,ZWe]
 |true=>
 unfold exD;cases c5:(d.Ld==-1)with
 |false=>
  have c5':(d.Ld != -1)=true:=by rw[bne,c5];rfl
  simp only[go_sem,c66,Zo,h',c1,c2,hb,ht,c3,c4,c5',ZVC,ZVE,ZVD,ZVG,ZWt]
 |true=>
  have c5':(d.Ld != -1)=false:=by rw[bne,c5];rfl
  obtain⟨j,x,hj,hx⟩:=ZPc _ s.Bt c3;obtain⟨k,y,hk,hy⟩:=ZPc _ s.Gm c4;have hjb:Y1 s d.Ev=(j:Int):=hj;have hks:ZL s d.By=(k:Int):=hk;have e1:WL s (j:Int)=x.Ld:=by unfold WL;rw[ZWJ,hx]
  have e2:QF s (k:Int)=y.Ld:=by unfold QF;rw[ZWJ,hy]
  have g1:=Z6 (f:=Ev.enc) hx;have g2:=Z6 (f:=By.enc) hy;rw[hjb]at hb c3;rw[hks]at ht c4;rw[hjb,hks,e1,e2];have q1:(x.Ld != -1) = !(x.Ld==-1):=rfl;have q2:(y.Ld != -1) = !(y.Ld==-1):=rfl;cases c6:(x.Ld==-1)with
  |false=>simp only[go_sem,c66,Zo,h',c1,c2,hb,ht,c3,c4,c5',g1,Ev.enc,q1,q2,c6,ZVC,ZVE,ZVD,ZVG,ZVR,ZWe]
  |true=>cases c7:(y.Ld==-1)<;>simp only[go_sem,c66,Zo,h',c1,c2,hb,ht,c3,c4,c5',g1,g2,Ev.enc,By.enc,q1,q2,c6,c7,ZVC,ZVE,ZVD,ZVG,ZVR,ZWe,ZWt]
def prS(l:List Str)(k:Nat)(x:Str):Bool:=(l.take k).all (λy=>!Z3 y x)
def afS(s:Sta)(i:Int)(l:List Str)(k:Nat)(x:Str):Bool:=!decide (Zn s x<=i)&&prS l k x
def ZRj(v:AV)(hv:∀n,bel n v=true)(i:Int)(d:Ga)(hd:DoS d)(k:Nat)(x:Str)(hx:d.After.l[k]?=some x):∃fr',Zg rE [1,2,5,6,7,8] c65L0b [(1,I i),(2,v),(5,.ptr 0 0 0 1),(6,I d.After.l.length),(7,I k),(8,.int .i64 0)] [.row 16 [Zo d]] =
 some (if prS d.After.l k x=true then .exit 2 else .ret,fr',[.row 16 [Zo d]])/\
 (prS d.After.l k x=true->get fr' 1=I i/\get fr' 2=v/\get fr' 5=.ptr 0 0 0 1/\get fr' 6=I d.After.l.length/\get fr' 7=I k)/\(prS d.After.l k x=false->get fr' 4=.bool false):=by
 have hgx:=Z6 (f:=encS) hx;have hli:=Z7 hx;have hl:=hd.after;have L:=QT (E:=rE) (live:=[1,2,5,6,7,8]) (b:=c65L0b) (h:=[.row 16 [Zo d]]) (d.After.l.take k) (λ_ y=>!Z3 y x) (λj=>[(1,I i),(2,v),(5,.ptr 0 0 0 1),(6,I d.After.l.length),(7,I k),(8,I j)]) 2
  (λfr=>get fr 1=I i/\get fr 2=v/\get fr 5=.ptr 0 0 0 1/\get fr 6=I d.After.l.length/\get fr 7=I k) (λfr=>get fr 4=.bool false) (λk=>rfl)
  (λj y hy hP=>by
   obtain⟨hy',hk⟩:=HH hy;have hgy:=Z6 (f:=encS) hy';have hlt:=Zh hk;have hw:=Zx (n:=j)<|by omega
   have hP':Z3 y x=false:=by simpa using hP
   refine⟨_,by simp only[go_sem,c65L0b,Zo,hv,hgx,hgy,hlt,hw,encS,hP'];rfl,?_⟩
   simp only[go_sem])
  (λj y hy hP=>by
   obtain⟨hy',hk⟩:=HH hy;have hgy:=Z6 (f:=encS) hy';have hlt:=Zh hk;have hP':Z3 y x=true:=by simpa using hP
   refine⟨_,by simp only[go_sem,c65L0b,Zo,hv,hgx,hgy,hlt,encS,hP'];rfl,?_⟩
   simp only[go_sem])
  (by
   have e:(d.After.l.take k).length=k:=by rw[ZWA];omega
   rw[e];exact⟨_,by simp only[go_sem,c65L0b,hv,ZG];rfl,by simp only[go_sem],by simp only[go_sem],by simp only[go_sem],by simp only[go_sem],by simp only[go_sem]⟩)
 rw[QE]at L;exact L
def ZU1(s:Sta)(hs:StS s)(i:Int)(d:Ga)(hd:DoS d):∃fr',Zg rE [1,2,5,6,7] c65L1b [(1,I i),(2,stI s),(5,.ptr 0 0 0 1),(6,I d.After.l.length),(7,.int .i64 0)] [.row 16 [Zo d]] =
 some (if Zu (afS s i d.After.l) 0 d.After.l=true then .exit 0 else .ret,fr',[.row 16 [Zo d]])/\
 (Zu (afS s i d.After.l) 0 d.After.l=true->get fr' 5=.ptr 0 0 0 1/\get fr' 6=I d.After.l.length)/\(Zu (afS s i d.After.l) 0 d.After.l=false->get fr' 4=.bool false):=by
 have hl:=hd.after;exact QT (E:=rE) (live:=[1,2,5,6,7]) (b:=c65L1b) (h:=[.row 16 [Zo d]]) d.After.l (afS s i d.After.l) (λj=>[(1,I i),(2,stI s),(5,.ptr 0 0 0 1),(6,I d.After.l.length),(7,I j)]) 0
  (λfr=>get fr 5=.ptr 0 0 0 1/\get fr 6=I d.After.l.length) (λfr=>get fr 4=.bool false) (λk=>rfl)
  (λk x hx hP=>by
   have hg:=Z6 (f:=encS) hx;have hlt:=Zh<|Z7 hx;have hw:=Zx (n:=k) (by have:=Z7 hx;omega)
   obtain⟨fr',h1,h2,_⟩:=ZRj (stI s) (λn=>rfl) i d hd k x hx
   have hf:=ZOs s hs x;unfold afS at hP;rw[ZVB,ZVW]at hP;rw[hP.2]at h1;obtain⟨g1,g2,g5,g6,g7⟩:=h2 hP.2;refine⟨_,by simp only[go_sem,c65L1b,c65L0,Zo,hg,hlt,hw,encS,hf,hP.1,if_true];rw[show(AV.agg [.str d.Id,.str d.Ev,.str d.By,I d.bh,I d.An.N,.str d.An.bm,I d.An.Num,I d.An.Den,I d.bg.X,I d.bg.Y,I d.From,I d.Ld,.isl false d.After.ex 1<|d.After.l.map encS,I d.Why,I d.bv,.str d.Veil])=Zo d from rfl,h1];simp only[go_sem,hw,g1,g2,g5,g6,g7,if_true];rfl,?_⟩
   simp only[go_sem])
  (λk x hx hP=>by
   have hg:=Z6 (f:=encS) hx;have hlt:=Zh<|Z7 hx;obtain⟨fr',h1,_,h2⟩:=ZRj (stI s) (λn=>rfl) i d hd k x hx
   have hf:=ZOs s hs x;unfold afS at hP;cases c:decide (Zn s x<=i)with
   |true=>
    refine⟨_,by simp only[go_sem,c65L1b,Zo,hg,hlt,encS,hf,c];rfl,?_⟩
    simp only[go_sem]
   |false=>
    rw[c,ZVE,ZVD]at hP;rw[hP]at h1;refine⟨_,by simp only[go_sem,c65L1b,c65L0,Zo,hg,hlt,encS,hf,c,if_true];rw[show(AV.agg [.str d.Id,.str d.Ev,.str d.By,I d.bh,I d.An.N,.str d.An.bm,I d.An.Num,I d.An.Den,I d.bg.X,I d.bg.Y,I d.From,I d.Ld,.isl false d.After.ex 1<|d.After.l.map encS,I d.Why,I d.bv,.str d.Veil])=Zo d from rfl,h1];simp only[go_sem,ZVI,if_false];rfl,?_⟩
    simp only[go_sem,h2 hP])
  (⟨_,by simp only[go_sem,c65L1b,ZG];rfl,by simp only[go_sem],by simp only[go_sem]⟩)
def ZP1(d:Ga):Bool:=
 bif d.Ld==-1 then(Yf d==0&&d.Why==0)else bif d.Why==12 then Yf d==0 else bif !Z3 d.Veil emp then false else
  ((d.Why==11&&Yf d==0)||((d.Why==9&&decide (Yf d>=2))&&decide (Yf d<=8)))||(d.Why==10&&Yf d==1)
def ZRk(s:Sta)(hs:StS s)(i:Nat)(d:Ga)(hx:s.Bc[i]?=some d)(hd:DoS d):pfn rE 65 [stA s,I i]=some (.bool<|Zu (afS s i d.After.l) 0 d.After.l&&ZP1 d):=by
 obtain⟨fr',h1,h2,h3⟩:=ZU1 s hs i d hd;have hg:=Z6 (f:=Ga.enc) hx;have hda:Ga.enc d=Zo d:=rfl;rw[hda]at hg;rw[Z5 (f:=65) rfl rfl];cases hc:Zu (afS s i d.After.l) 0 d.After.l with
 |false=>
  rw[hc]at h1;have g4:=h3 hc;unfold Zo at h1 hg;simp only[go_sem,c65,c65L1,hg,ZVA,h1,g4,ZVG,ZVI]
 |true=>
  rw[hc]at h1;obtain⟨g5,g6⟩:=h2 hc;unfold Zo at h1 hg;unfold ZP1;have en:(d.After.l.length:Int)=Yf d:=rfl;rw[en]at h1 g6;cases c1:(d.Ld==-1)with
  |true=>cases c2:(Yf d==0)<;>simp only[go_sem,c65,c65L1,hg,ZVA,en,h1,g5,g6,c1,c2,ZVG,ZVD]
  |false=>
  cases c3:(d.Why==12)with
  |true=>simp only[go_sem,c65,c65L1,hg,ZVA,en,h1,g5,g6,c1,c3,ZVD]
  |false=>
  have nv:∀x:Str,(!Z3 x emp) = !Z3 x emp:=λ_=>rfl
  cases c4:Z3 d.Veil emp with
  |false=>simp only[go_sem,c65,c65L1,hg,ZVA,en,h1,g5,g6,c1,c3,c4,ZVE,ZVL]
  |true=>
  cases c5:(d.Why==11)with
  |true=>
   have e:=eq_of_beq c5;have c7:(d.Why==9)=false:=by rw[e];rfl
   have c10:(d.Why==10)=false:=by rw[e];rfl
   cases c6:(Yf d==0)<;>simp only[go_sem,c65,c65L1,hg,ZVA,en,h1,g5,g6,c1,c3,c4,c5,c6,c7,c10,ZVC,ZVD,ZVG,ZVJ,ZVL,ZVR,ZWe,ZVS,ZW9]
  |false=>
  cases c7:(d.Why==9)with
  |true=>
   have e:=eq_of_beq c7;have c10:(d.Why==10)=false:=by rw[e];rfl
   cases c8:decide (Yf d>=2)with
   |false=>simp only[go_sem,c65,c65L1,hg,ZVA,en,h1,g5,g6,c1,c3,c4,c5,c7,c8,c10,ZVC,ZVD,ZVG,ZVJ,ZVL,ZVR,ZWe,ZVS,ZW9]
   |true=>cases c9:decide (Yf d<=8)<;>simp only[go_sem,c65,c65L1,hg,ZVA,en,h1,g5,g6,c1,c3,c4,c5,c7,c8,c9,c10,ZVC,ZVD,ZVG,ZVJ,ZVL,ZVR,ZWe,ZVS,ZW9]
  |false=>
  cases c10:(d.Why==10)with
  |false=>simp only[go_sem,c65,c65L1,hg,ZVA,en,h1,g5,g6,c1,c3,c4,c5,c7,c10,ZVC,ZVD,ZVG,ZVJ,ZVL,ZVR,ZWe,ZVS,ZW9]
  |true=>cases c11:(Yf d==1)<;>simp only[go_sem,c65,c65L1,hg,ZVA,en,h1,g5,g6,c1,c3,c4,c5,c7,c10,c11,ZVC,ZVD,ZVG,ZVJ,ZVL,ZVR,ZWe,ZVS,ZW9]
def ZcX:List (List UInt8)->List (List UInt8)
 |[]=>[]
 |a::r=>match ZcX r with
  |[]=>[a]
  |b::s=>if a=b then b::s else a::b::s
def ZdC:∀l:List<|List UInt8,Ys (l.map Qd)=(ZcX l).map Qd
 |[]=>rfl
 |a::r=>by
  rw[ZVV];unfold Ys ZcX;rw[ZdC r];cases ZcX r with
  |nil=>rfl
  |cons b s=>
   have e:sameKey (Qd a) (Qd b)=decide (a=b):=by
    show Z3 _ _=_
    unfold Z3;have e1:(⟨a.toArray⟩:ByteArray).data.toList=a:=by simp
    have e2:(⟨b.toArray⟩:ByteArray).data.toList=b:=by simp
    rw[e1,e2];by_cases h:a=b
    .subst h;simp
    .rw[decide_eq_false h];simpa using h
   show(bif sameKey (Qd a) (Qd b)then _ else _)=_
   rw[e];by_cases h:a=b
   .simp[h]
   .simp[h]
def Ze5(a:List UInt8)(r:List<|List UInt8):∃t,ZcX (a::r)=a::t/\t.length<=r.length:=by
 induction r generalizing a with
 |nil=>exact⟨[],rfl,ZVF _⟩
 |cons b s ih=>
  obtain⟨t,h1,h2⟩:=ih b;unfold ZcX;rw[h1];by_cases h:a=b
  .subst h;exact⟨t,by simp,by simp;omega⟩
  .exact⟨b::t,by simp[h],by simp;omega⟩
def Adj:List (List UInt8)->Prop
 |[]=>True
 |[_]=>True
 |a::b::r=>a≠b/\Adj (b::r)
def ZdD:∀l:List<|List UInt8,(ZcX l).length=l.length↔Adj l
 |[]=>⟨λ_=>trivial,λ_=>rfl⟩
 |[a]=>⟨λ_=>trivial,λ_=>rfl⟩
 |a::b::r=>by
  have ih:=ZdD<|b::r;obtain⟨t,h1,h2⟩:=Ze5 b r;rw[h1]at ih;unfold Adj;rw[<-ih];unfold ZcX;rw[h1];by_cases h:a=b
  .subst h;simp;omega
  .simp[h]
def ZdE:∀l:List<|List UInt8,l.Pairwise (λa b=>leB a b=true)->Adj l->l.Nodup
 |[],_,_=>.nil
 |[a],_,_=>by simp
 |a::b::r,hs,h=>by
  unfold Adj at h;rw[ZWp]at hs;have ih:=ZdE (b::r) hs.2 h.2;rw[ZWW];refine⟨λhm=>?_,ih⟩
  rcases ZVX.1 hm with e|hm
  .exact h.1 e
  .have hb:=(ZWp.1 hs.2).1 a hm;exact h.1<|ET _ _ (hs.1 b<|ZWl ..) hb
def ZdF:∀l:List<|List UInt8,l.Nodup->Adj l
 |[],_=>trivial
 |[a],_=>trivial
 |a::b::r,h=>by
  rw[ZWW]at h;exact⟨λe=>h.1 (by rw[e];exact ZWl ..),ZdF (b::r) h.2⟩
def bytes_inj{a b:Str}(h:a.data.toList=b.data.toList):a=b:=by
 obtain⟨⟨a⟩⟩:=a;obtain⟨⟨b⟩⟩:=b;have:a=b:=h;rw[this]
def ZdG{α β:Type}{f:α->β}(hf:∀a b,f a=f b->a=b):∀{l:List α},(l.map f).Nodup↔l.Nodup
 |[]=>by simp
 |a::r=>by
  rw[ZVV,ZWW,ZWW,ZdG hf];refine and_congr_left λ_=>not_congr ⟨λh=>?_,λh=>ZX0 h⟩
  obtain⟨b,hb,e⟩:=ZWf.1 h;rw[<-hf _ _ e];exact hb
def Ze6(l:List Str):l.map encS=(l.map (λx:Str=>x.data.toList)).map Qd:=by
 rw[ZWY];apply ZXP;intro x _;obtain⟨⟨x⟩⟩:=x;rfl
def Zdk(l:List Str):Jq l=true↔l.Nodup:=by
 have e:(Ys<|Yk<|l.map encS).length=(ZcX<|WD<|l.map (λx:Str=>x.data.toList)).length:=by
  rw[Ze6,D4,ZdC,ZVA]
 have hl:(WD<|l.map (λx:Str=>x.data.toList)).length=l.length:=by
  rw[(RS _).length_eq,ZVA]
 unfold Jq;rw[beq_iff_eq,e];rw[show((ZcX<|WD<|l.map (λx:Str=>x.data.toList)).length:Int)=(l.length:Int)↔(ZcX<|WD<|l.map (λx:Str=>x.data.toList)).length=(WD<|l.map (λx:Str=>x.data.toList)).length from by rw[hl];omega]
 rw[ZdD];have h1:Adj (WD<|l.map (λx:Str=>x.data.toList))↔(WD<|l.map (λx:Str=>x.data.toList)).Nodup:=⟨ZdE _<|D8 _,ZdF _⟩
 rw[h1,(RS _).nodup_iff,ZdG<|λa b h=>bytes_inj h]
def ZRl:∀(l K:List Str),pwD Z3 K l=true↔l.Nodup/\∀x∈l,x ∉ K
 |[],K=>by simp[pwD]
 |x::r,K=>by
  have ha:K.any (Z3 x)=true↔x∈K:=by
   rw[List.any_eq_true];exact⟨λ⟨y,h1,h2⟩=>by rw[(Ky _ _).1 h2];exact h1,λh=>⟨x,h,ZOg x⟩⟩
  unfold pwD;rw[ZVB,ZVW,ZRl r<|K++[x],ZWW];have hb:K.any (Z3 x)=false↔x ∉ K:=by rw[<-ha];simp
  rw[hb];constructor
  .rintro⟨h1,h2,h3⟩;refine⟨⟨λh=>h3 x h (by simp),h2⟩,?_⟩
   intro y hy;rcases ZVX.1 hy with rfl|hy
   .exact h1
   .exact λh=>h3 y hy<|ZWR _ h
  .rintro⟨⟨h1,h2⟩,h3⟩;refine⟨h3 x (by simp),h2,?_⟩
   intro y hy h;rcases ZW8.1 h with h|h
   .exact h3 y (by simp[hy]) h
   .rw[ZW2]at h;subst h;exact h1 hy
def ZU2(l:List Str):XH Z3 l=true↔l.Nodup:=by
 unfold XH;have h:=(ZPu Z3 l []).2;rw[ZWs,ZVM,ZRl]at h;rw[beq_iff_eq];rw[show(((l.foldl (Qi Z3) []).length:Nat):Int)=(l.length:Int)↔(l.foldl (Qi Z3) []).length=l.length from by omega,h]
 simp
def ZRm(l:List Str):XH Z3 l=Jq l:=by
 rw[ZW1,ZU2,Zdk]
def ZU3(s:Sta)(i:Int)(d:Ga):Zu (afS s i d.After.l) 0 d.After.l=(K8 s i d&&Jq d.After.l):=by
 have e:∀k x,afS s i d.After.l k x=(!decide (Zn s x<=i)&&!(d.After.l.take k).any (Z3 x)):=λk x=>by
  unfold afS prS;rw[ZOU];congr 1;apply ZOk;intro y _;rw[ZOT]
 rw[ZOS d.After.l 0 e,ZPb,<-ZPv,ZRm,QE<|λx=>!decide (Zn s x<=i)]
 rfl
def ZU4(d:Ga):ZP1 d = !((((!(exD d==(d.Why==0)))||(exD d&&decide (Yf d>0)))||(!exD d&&!He d))):=by
 have hn:0<=Yf d:=by unfold Yf;omega
 have hp:decide (Yf d>0) = !(Yf d==0):=by
  rw[ZW1,decide_eq_true_eq,ZVW,beq_eq_false_iff_ne];omega
 unfold ZP1 He exD ZD;rw[hp];cases c1:(d.Ld==-1)with
 |true=>cases(Yf d==0)<;>cases(d.Why==0)<;>rfl
 |false=>
 by_cases e12:d.Why=12
 .rw[e12];cases(Yf d==0)<;>rfl
 by_cases e11:d.Why=11
 .rw[e11];cases(Yf d==0)<;>cases Z3 d.Veil emp<;>rfl
 by_cases e9:d.Why=9
 .rw[e9];cases decide (Yf d>=2)<;>cases decide (Yf d<=8)<;>cases Z3 d.Veil emp<;>rfl
 by_cases e10:d.Why=10
 .rw[e10];cases(Yf d==1)<;>cases Z3 d.Veil emp<;>rfl
 have q12:(d.Why==12)=false:=beq_eq_false_iff_ne.2 e12;have q11:(d.Why==11)=false:=beq_eq_false_iff_ne.2 e11;have q9:(d.Why==9)=false:=beq_eq_false_iff_ne.2 e9;have q10:(d.Why==10)=false:=beq_eq_false_iff_ne.2 e10;rw[q12,q11,q9,q10];cases(d.Why==0)<;>cases Z3 d.Veil emp<;>simp
def ZOB(s:Sta)(i:Nat)(d:Ga):Bool:=ZD d.bh 0 63&&(ZD d.Ld (-1) 100000&&(ZD d.From 0 100000&&((Zu (afS s i d.After.l) 0 d.After.l&&ZP1 d)&&(bif Z3 d.Veil emp then ZOM s d else ZOA d))))
def ZU5(s:Sta)(i:Nat)(d:Ga):ZOB s i d=Vr s i d:=by
 unfold ZOB Vr Hg QM UC;rw[ZU3,ZU4,ZU0];unfold ZOM;generalize(((!(exD d==(d.Why==0)))||(exD d&&decide (Yf d>0)))||(!exD d&&!He d))=b;cases ZD d.bh 0 63<;>cases ZD d.Ld (-1) 100000<;>cases ZD d.From 0 100000<;>cases K8 s i d<;>cases Jq d.After.l<;>cases b<;>cases Z3 d.Veil emp<;>simp[Bool.and_comm]
def twD(a b:Ga):Bool:=Z3 a.Veil emp&&(Z3 b.Veil emp&&((a.Ld==-1)&&((b.Ld==-1)&&(Z3 a.By b.By&&QL a.An b.An))))
def ZON(l:List Ga)(i:Nat)(x:Ga):Bool:=(l.take i).all (λy=>!twD x y)
def ZRn(s:Sta)(hs:StS s)(i:Nat)(x:Ga)(hx:s.Bc[i]?=some x):∃fr',Zg rE [1,3,4] c55L0b [(1,stI s),(3,I i),(4,.int .i64 0)] [] =
 some (if ZON s.Bc i x=true then .exit 2 else .ret,fr',[])/\
 (ZON s.Bc i x=true->get fr' 1=stI s/\get fr' 3=I i)/\(ZON s.Bc i x=false->get fr' 2=.bool false):=by
 have hgx:=Z6 (f:=Ga.enc) hx;have hli:=Z7 hx;have hl:=hs.doors;rw[show Ga.enc x=Zo x from rfl]at hgx
 have L:=QT (E:=rE) (live:=[1,3,4]) (b:=c55L0b) (h:=[]) (s.Bc.take i) (λ_ y=>!twD x y) (λj=>[(1,stI s),(3,I i),(4,I j)]) 2
  (λfr=>get fr 1=stI s/\get fr 3=I i) (λfr=>get fr 2=.bool false) (λk=>rfl)
  (λj y hy hP=>by
   obtain⟨hy',hk⟩:=HH hy;have hgy:=Z6 (f:=Ga.enc) hy';rw[show Ga.enc y=Zo y from rfl]at hgy
   have hlt:=Zh hk;have hw:=Zx (n:=j)<|by omega
   have hP':twD x y=false:=by simpa using hP
   unfold twD at hP';have hh:(x.An.N==y.An.N&&(Z3 x.An.bm y.An.bm&&(x.An.Num==y.An.Num&&x.An.Den==y.An.Den)))=QL x.An y.An:=rfl;unfold Zo at hgx hgy;cases c1:Z3 x.Veil emp with
   |false=>
    refine⟨_,by simp only[go_sem,c55L0b,hgx,hgy,hlt,hw,c1];rfl,?_⟩
    simp only[go_sem]
   |true=>
   cases c2:Z3 y.Veil emp with
   |false=>
    refine⟨_,by simp only[go_sem,c55L0b,hgx,hgy,hlt,hw,c1,c2];rfl,?_⟩
    simp only[go_sem]
   |true=>
   cases c3:(x.Ld==-1)with
   |false=>
    refine⟨_,by simp only[go_sem,c55L0b,hgx,hgy,hlt,hw,c1,c2,c3];rfl,?_⟩
    simp only[go_sem]
   |true=>
   cases c4:(y.Ld==-1)with
   |false=>
    refine⟨_,by simp only[go_sem,c55L0b,hgx,hgy,hlt,hw,c1,c2,c3,c4];rfl,?_⟩
    simp only[go_sem]
   |true=>
   cases c5:Z3 x.By y.By with
   |false=>
    refine⟨_,by simp only[go_sem,c55L0b,hgx,hgy,hlt,hw,c1,c2,c3,c4,c5];rfl,?_⟩
    simp only[go_sem]
   |true=>
    rw[c1,c2,c3,c4,c5,ZVD,ZVD,ZVD,ZVD,ZVD]at hP';refine⟨_,by simp only[go_sem,c55L0b,hgx,hgy,hlt,hw,c1,c2,c3,c4,c5,hh,hP'];rfl,?_⟩
    simp only[go_sem])
  (λj y hy hP=>by
   obtain⟨hy',hk⟩:=HH hy;have hgy:=Z6 (f:=Ga.enc) hy';rw[show Ga.enc y=Zo y from rfl]at hgy
   have hlt:=Zh hk;have hP':twD x y=true:=by simpa using hP
   unfold twD at hP';simp only[ZVB]at hP';obtain⟨c1,c2,c3,c4,c5,c6⟩:=hP';have hh:(x.An.N==y.An.N&&(Z3 x.An.bm y.An.bm&&(x.An.Num==y.An.Num&&x.An.Den==y.An.Den)))=QL x.An y.An:=rfl;unfold Zo at hgx hgy;refine⟨_,by simp only[go_sem,c55L0b,hgx,hgy,hlt,c1,c2,c3,c4,c5,hh,c6];rfl,?_⟩
   simp only[go_sem])
  (by
   have e:(s.Bc.take i).length=i:=by rw[ZWA];omega
   rw[e];exact⟨_,by simp only[go_sem,c55L0b,ZG];rfl,by simp only[go_sem],by simp only[go_sem]⟩)
 rw[QE]at L;exact L
def ZU6(s:Sta)(hs:StS s):pfn rE 55 [stA s]=some (.bool<|Zu (ZON s.Bc) 0 s.Bc):=by
 have hl:=hs.doors;have L:=Uf (E:=rE) (live:=[1,3]) (b:=c55L1b) (h:=[]) s.Bc (ZON s.Bc) (λi=>[(1,stI s),(3,I i)]) 0 (λfr=>get fr 2=.bool false) (λk=>rfl)
  (λi x hx hP=>by
   have hlt:=Zh<|Z7 hx;have hw:=Zx (n:=i) (by have:=Z7 hx;omega)
   obtain⟨fr',h1,h2,_⟩:=ZRn s hs i x hx;rw[hP]at h1;obtain⟨g1,g3⟩:=h2 hP;refine⟨_,by simp only[go_sem,c55L1b,c55L0,hlt,hw,h1,g1,g3,ZVA,if_true];rfl,?_⟩
   simp only[go_sem])
  (λi x hx hP=>by
   have hlt:=Zh<|Z7 hx;obtain⟨fr',h1,_,h2⟩:=ZRn s hs i x hx;rw[hP]at h1;refine⟨_,by simp only[go_sem,c55L1b,c55L0,hlt,h1,ZVA,ZVI,if_false];rfl,?_⟩
   simp only[go_sem,h2 hP])
  (⟨_,by simp only[go_sem,c55L1b,ZG,ZVA];rfl⟩)
 obtain⟨fr',h1,h2⟩:=L;have h1':Zg rE [1,3] c55L1b [(1,stI s),(3,.int .i64 0)] []=_:=h1;rw[Z5 (f:=55) rfl rfl];cases hc:Zu (ZON s.Bc) 0 s.Bc with
 |false=>rw[hc]at h1';simp only[go_sem,c55,c55L1,h1',h2 hc,ZVI]
 |true=>rw[hc]at h1';simp only[go_sem,c55,c55L1,h1']
def ZU7(l:List Ga)(a:Adr)(hr:∀x y,XK x y=true↔x=y):∀K:List Adr,(l.foldl Hd K).any (XK a)=(K.any (XK a)||l.any (λy=>!Jr y&&XK a (WI y))):=by
 induction l with
 |nil=>intro K;simp
 |cons x r ih=>
  intro K;rw[ZWI,ih,ZWF,<-Bool.or_assoc];congr 1;unfold Hd;cases hs:Jr x with
  |true=>simp
  |false=>
   rw[cond_false];unfold Qi;cases hk:K.any (XK<|WI x)with
   |true=>
    rw[cond_true];cases he:XK a (WI x)with
    |false=>simp
    |true=>rw[(hr _ _).1 he,hk];simp
   |false=>rw[cond_false,List.any_append];simp
def Zil(x y:Adr):XK x y=true↔x=y:=by
 unfold XK;cases x with|mk s n=>cases n with|mk a b c d=>cases y with|mk s' n'=>cases n' with|mk a' b' c' d'=>
 simp only[ZVB,beq_iff_eq,Ky,Adr.mk.injEq,HN.mk.injEq]
def ZU8(l:List Ga):Zu (ZON l) 0 l=Wh l:=by
 unfold Wh;apply ZOS;intro i x;unfold ZON Y9;rw[ZU7 _ _ Zil,ZWU,ZVS,<-ZOU];have e:∀y,twD x y=(!Jr x&&(!Jr y&&XK (WI x) (WI y))):=λy=>by
  unfold twD Jr XK WI QL;simp only[bne,Bool.not_or,ZXT];cases Z3 x.Veil emp<;>cases Z3 y.Veil emp<;>cases(x.Ld==-1)<;>cases(y.Ld==-1)<;>rfl
 have e2:(l.take i).any (twD x)=(l.take i).any (λy=>!Jr x&&(!Jr y&&XK (WI x) (WI y))):=by
  congr 1;funext y;exact e y
 rw[e2];cases Jr x with
 |true=>simp
 |false=>simp
def ZU9(s:Sta)(K:List Str)(hl:s.Fa.length<=1000)(hK:K.length<=10000):∃fr',Zg rE [1,3,4] c61L0b [(1,stI s),(3,.sl 0 K.length 0 K.length false),(4,.int .i64 0)] [.row 1<|K.map encS] =
 some (.exit 0,fr',[.row 1 ((K++s.Fa.map (·.Id)).map encS)])/\get fr' 1=stI s/\get fr' 3=.sl 0 (K.length+s.Fa.length) 0 (K.length+s.Fa.length) false:=by
 have hbS:∀n(K:List Str),Zd n (K.map encS)=true:=λn K=>ZN _<|Zw (λt=>rfl) K
 have L:=Y8 (E:=rE) (live:=[1,3,4]) (b:=c61L0b) s.Fa.length (λi=>[(1,stI s),(3,.sl 0 (K.length+i) 0 (K.length+i) false),(4,I i)])
  (λi=>[.row 1 ((K++(s.Fa.take i).map (·.Id)).map encS)]) (λi=>rfl)
  (λi hi=>by
   obtain⟨x,hx⟩:∃x,s.Fa[i]?=some x:=⟨_,ZVH hi⟩;have hg:=Z6 (f:=Gk.enc) hx;have hi':=Zh hi;have hw:=Zx (n:=i)<|by omega
   have ht:=YW (λx:Gk=>x.Id) hx
   have hn:(K++(s.Fa.take i).map (·.Id)).length=K.length+i:=by rw[ZVQ,ZVA,take_len hx]
   have e1:(K++(s.Fa.take<|i+1).map (·.Id)).map encS=(K++(s.Fa.take i).map (·.Id)).map encS++[.str x.Id]:=by
    rw[ht,<-ZVY,ZW7];rfl
   rw[e1];generalize K++(s.Fa.take i).map (·.Id)=KS at hn⊢;rw[<-hn,<-ZWv,<-hn];have ha:=λq=>XC (h:=[.row 1<|KS.map encS,q]) (fz:=false) (b:=0) (g:=KS.length) (sz:=1) (es:=KS.map encS) (bw:=false) (ex:=false) (ys:=[.str x.Id]) (bytes:=16) (by simp[rowAt]) rfl (by rfl) (by omega) (by omega) (by simp;omega)
   have hb:=XC (h:=[.row 1<|KS.map encS]) (fz:=false) (b:=0) (g:=KS.length) (sz:=1) (es:=KS.map encS) (bw:=false) (ex:=false) (ys:=[.str x.Id]) (bytes:=16) (by simp[rowAt]) rfl (by rfl) (by omega) (by omega) (by simp;omega)
   refine⟨_,by simp only[go_sem,c61L0b,hg,hi',hw,Gk.enc,NL.enc,ha,hb,beq_self_eq_true,hbS,ZVA];rfl,?_⟩
   simp only[go_sem])
  (e:=.exit 0) (by simp only[go_sem,c61L0b,ZG,ZWj,ZVA];rfl) (by simp)
 have e0:K++(s.Fa.take 0).map (λx:Gk=>x.Id)=K:=by simp
 rw[e0]at L;refine⟨_,L,?_,?_⟩<;>simp only[go_sem]
def ZUa(s:Sta)(K:List Str)(hl:s.Gm.length<=1000)(hK:K.length<=10000):∃fr',Zg rE [1,3,5] c61L1b [(1,stI s),(3,.sl 0 K.length 0 K.length false),(5,.int .i64 0)] [.row 1<|K.map encS] =
 some (.exit 2,fr',[.row 1 ((K++s.Gm.map (·.Id)).map encS)])/\get fr' 1=stI s/\get fr' 3=.sl 0 (K.length+s.Gm.length) 0 (K.length+s.Gm.length) false:=by
 have hbS:∀n(K:List Str),Zd n (K.map encS)=true:=λn K=>ZN _<|Zw (λt=>rfl) K
 have L:=Y8 (E:=rE) (live:=[1,3,5]) (b:=c61L1b) s.Gm.length (λi=>[(1,stI s),(3,.sl 0 (K.length+i) 0 (K.length+i) false),(5,I i)])
  (λi=>[.row 1 ((K++(s.Gm.take i).map (·.Id)).map encS)]) (λi=>rfl)
  (λi hi=>by
   obtain⟨x,hx⟩:∃x,s.Gm[i]?=some x:=⟨_,ZVH hi⟩;have hg:=Z6 (f:=By.enc) hx;have hi':=Zh hi;have hw:=Zx (n:=i)<|by omega
   have ht:=YW (λx:By=>x.Id) hx
   have hn:(K++(s.Gm.take i).map (·.Id)).length=K.length+i:=by rw[ZVQ,ZVA,take_len hx]
   have e1:(K++(s.Gm.take<|i+1).map (·.Id)).map encS=(K++(s.Gm.take i).map (·.Id)).map encS++[.str x.Id]:=by
    rw[ht,<-ZVY,ZW7];rfl
   rw[e1];generalize K++(s.Gm.take i).map (·.Id)=KS at hn⊢;rw[<-hn,<-ZWv,<-hn];have ha:=λq=>XC (h:=[.row 1<|KS.map encS,q]) (fz:=false) (b:=0) (g:=KS.length) (sz:=1) (es:=KS.map encS) (bw:=false) (ex:=false) (ys:=[.str x.Id]) (bytes:=16) (by simp[rowAt]) rfl (by rfl) (by omega) (by omega) (by simp;omega)
   have hb:=XC (h:=[.row 1<|KS.map encS]) (fz:=false) (b:=0) (g:=KS.length) (sz:=1) (es:=KS.map encS) (bw:=false) (ex:=false) (ys:=[.str x.Id]) (bytes:=16) (by simp[rowAt]) rfl (by rfl) (by omega) (by omega) (by simp;omega)
   refine⟨_,by simp only[go_sem,c61L1b,hg,hi',hw,By.enc,NL.enc,ha,hb,beq_self_eq_true,hbS,ZVA];rfl,?_⟩
   simp only[go_sem])
  (e:=.exit 2) (by simp only[go_sem,c61L1b,ZG,ZWj,ZVA];rfl) (by simp)
 have e0:K++(s.Gm.take 0).map (λx:By=>x.Id)=K:=by simp
 rw[e0]at L;refine⟨_,L,?_,?_⟩<;>simp only[go_sem]
def ZUb(s:Sta)(K:List Str)(hl:s.Bt.length<=1000)(hK:K.length<=10000):∃fr',Zg rE [1,3,6] c61L2b [(1,stI s),(3,.sl 0 K.length 0 K.length false),(6,.int .i64 0)] [.row 1<|K.map encS] =
 some (.exit 4,fr',[.row 1 ((K++s.Bt.map (·.Id)).map encS)])/\get fr' 1=stI s/\get fr' 3=.sl 0 (K.length+s.Bt.length) 0 (K.length+s.Bt.length) false:=by
 have hbS:∀n(K:List Str),Zd n (K.map encS)=true:=λn K=>ZN _<|Zw (λt=>rfl) K
 have L:=Y8 (E:=rE) (live:=[1,3,6]) (b:=c61L2b) s.Bt.length (λi=>[(1,stI s),(3,.sl 0 (K.length+i) 0 (K.length+i) false),(6,I i)])
  (λi=>[.row 1 ((K++(s.Bt.take i).map (·.Id)).map encS)]) (λi=>rfl)
  (λi hi=>by
   obtain⟨x,hx⟩:∃x,s.Bt[i]?=some x:=⟨_,ZVH hi⟩;have hg:=Z6 (f:=Ev.enc) hx;have hi':=Zh hi;have hw:=Zx (n:=i)<|by omega
   have ht:=YW (λx:Ev=>x.Id) hx
   have hn:(K++(s.Bt.take i).map (·.Id)).length=K.length+i:=by rw[ZVQ,ZVA,take_len hx]
   have e1:(K++(s.Bt.take<|i+1).map (·.Id)).map encS=(K++(s.Bt.take i).map (·.Id)).map encS++[.str x.Id]:=by
    rw[ht,<-ZVY,ZW7];rfl
   rw[e1];generalize K++(s.Bt.take i).map (·.Id)=KS at hn⊢;rw[<-hn,<-ZWv,<-hn];have ha:=λq=>XC (h:=[.row 1<|KS.map encS,q]) (fz:=false) (b:=0) (g:=KS.length) (sz:=1) (es:=KS.map encS) (bw:=false) (ex:=false) (ys:=[.str x.Id]) (bytes:=16) (by simp[rowAt]) rfl (by rfl) (by omega) (by omega) (by simp;omega)
   have hb:=XC (h:=[.row 1<|KS.map encS]) (fz:=false) (b:=0) (g:=KS.length) (sz:=1) (es:=KS.map encS) (bw:=false) (ex:=false) (ys:=[.str x.Id]) (bytes:=16) (by simp[rowAt]) rfl (by rfl) (by omega) (by omega) (by simp;omega)
   refine⟨_,by simp only[go_sem,c61L2b,hg,hi',hw,Ev.enc,NL.enc,ha,hb,beq_self_eq_true,hbS,ZVA];rfl,?_⟩
   simp only[go_sem])
  (e:=.exit 4) (by simp only[go_sem,c61L2b,ZG,ZWj,ZVA];rfl) (by simp)
 have e0:K++(s.Bt.take 0).map (λx:Ev=>x.Id)=K:=by simp
 rw[e0]at L;refine⟨_,L,?_,?_⟩<;>simp only[go_sem]
def ZUc(s:Sta)(K:List Str)(hl:s.Bc.length<=1000)(hK:K.length<=10000):∃fr',Zg rE [1,3,7] c61L3b [(1,stI s),(3,.sl 0 K.length 0 K.length false),(7,.int .i64 0)] [.row 1<|K.map encS] =
 some (.exit 6,fr',[.row 1 ((K++s.Bc.map (·.Id)).map encS)])/\get fr' 1=stI s/\get fr' 3=.sl 0 (K.length+s.Bc.length) 0 (K.length+s.Bc.length) false:=by
 have hbS:∀n(K:List Str),Zd n (K.map encS)=true:=λn K=>ZN _<|Zw (λt=>rfl) K
 have L:=Y8 (E:=rE) (live:=[1,3,7]) (b:=c61L3b) s.Bc.length (λi=>[(1,stI s),(3,.sl 0 (K.length+i) 0 (K.length+i) false),(7,I i)])
  (λi=>[.row 1 ((K++(s.Bc.take i).map (·.Id)).map encS)]) (λi=>rfl)
  (λi hi=>by
   obtain⟨x,hx⟩:∃x,s.Bc[i]?=some x:=⟨_,ZVH hi⟩;have hg:=Z6 (f:=Ga.enc) hx;have hi':=Zh hi;have hw:=Zx (n:=i)<|by omega
   have ht:=YW (λx:Ga=>x.Id) hx
   have hn:(K++(s.Bc.take i).map (·.Id)).length=K.length+i:=by rw[ZVQ,ZVA,take_len hx]
   have e1:(K++(s.Bc.take<|i+1).map (·.Id)).map encS=(K++(s.Bc.take i).map (·.Id)).map encS++[.str x.Id]:=by
    rw[ht,<-ZVY,ZW7];rfl
   rw[e1];generalize K++(s.Bc.take i).map (·.Id)=KS at hn⊢;rw[<-hn,<-ZWv,<-hn];have ha:=λq=>XC (h:=[.row 1<|KS.map encS,q]) (fz:=false) (b:=0) (g:=KS.length) (sz:=1) (es:=KS.map encS) (bw:=false) (ex:=false) (ys:=[.str x.Id]) (bytes:=16) (by simp[rowAt]) rfl (by rfl) (by omega) (by omega) (by simp;omega)
   have hb:=XC (h:=[.row 1<|KS.map encS]) (fz:=false) (b:=0) (g:=KS.length) (sz:=1) (es:=KS.map encS) (bw:=false) (ex:=false) (ys:=[.str x.Id]) (bytes:=16) (by simp[rowAt]) rfl (by rfl) (by omega) (by omega) (by simp;omega)
   refine⟨_,by simp only[go_sem,c61L3b,hg,hi',hw,Ga.enc,NL.enc,ha,hb,beq_self_eq_true,hbS,ZVA];rfl,?_⟩
   simp only[go_sem])
  (e:=.exit 6) (by simp only[go_sem,c61L3b,ZG,ZWj,ZVA];rfl) (by simp)
 have e0:K++(s.Bc.take 0).map (λx:Ga=>x.Id)=K:=by simp
 rw[e0]at L;refine⟨_,L,?_,?_⟩<;>simp only[go_sem]
def ZUd(s:Sta)(K:List Str)(hl:s.Nk.length<=1000)(hK:K.length<=10000):∃fr',Zg rE [1,3,8] c61L4b [(1,stI s),(3,.sl 0 K.length 0 K.length false),(8,.int .i64 0)] [.row 1<|K.map encS] =
 some (.exit 8,fr',[.row 1 ((K++s.Nk.map (·.Id)).map encS)])/\get fr' 1=stI s/\get fr' 3=.sl 0 (K.length+s.Nk.length) 0 (K.length+s.Nk.length) false:=by
 have hbS:∀n(K:List Str),Zd n (K.map encS)=true:=λn K=>ZN _<|Zw (λt=>rfl) K
 have L:=Y8 (E:=rE) (live:=[1,3,8]) (b:=c61L4b) s.Nk.length (λi=>[(1,stI s),(3,.sl 0 (K.length+i) 0 (K.length+i) false),(8,I i)])
  (λi=>[.row 1 ((K++(s.Nk.take i).map (·.Id)).map encS)]) (λi=>rfl)
  (λi hi=>by
   obtain⟨x,hx⟩:∃x,s.Nk[i]?=some x:=⟨_,ZVH hi⟩;have hg:=Z6 (f:=be.enc) hx;have hi':=Zh hi;have hw:=Zx (n:=i)<|by omega
   have ht:=YW (λx:be=>x.Id) hx
   have hn:(K++(s.Nk.take i).map (·.Id)).length=K.length+i:=by rw[ZVQ,ZVA,take_len hx]
   have e1:(K++(s.Nk.take<|i+1).map (·.Id)).map encS=(K++(s.Nk.take i).map (·.Id)).map encS++[.str x.Id]:=by
    rw[ht,<-ZVY,ZW7];rfl
   rw[e1];generalize K++(s.Nk.take i).map (·.Id)=KS at hn⊢;rw[<-hn,<-ZWv,<-hn];have ha:=λq=>XC (h:=[.row 1<|KS.map encS,q]) (fz:=false) (b:=0) (g:=KS.length) (sz:=1) (es:=KS.map encS) (bw:=false) (ex:=false) (ys:=[.str x.Id]) (bytes:=16) (by simp[rowAt]) rfl (by rfl) (by omega) (by omega) (by simp;omega)
   have hb:=XC (h:=[.row 1<|KS.map encS]) (fz:=false) (b:=0) (g:=KS.length) (sz:=1) (es:=KS.map encS) (bw:=false) (ex:=false) (ys:=[.str x.Id]) (bytes:=16) (by simp[rowAt]) rfl (by rfl) (by omega) (by omega) (by simp;omega)
   refine⟨_,by simp only[go_sem,c61L4b,hg,hi',hw,be.enc,NL.enc,ha,hb,beq_self_eq_true,hbS,ZVA];rfl,?_⟩
   simp only[go_sem])
  (e:=.exit 8) (by simp only[go_sem,c61L4b,ZG,ZWj,ZVA];rfl) (by simp)
 have e0:K++(s.Nk.take 0).map (λx:be=>x.Id)=K:=by simp
 rw[e0]at L;refine⟨_,L,?_,?_⟩<;>simp only[go_sem]
def uqB(l:List Str)(i:Nat)(x:Str):Bool:=(l.take i).all (λy=>!Z3 x y)
def ZRo(l:List Str)(hl:l.length<=100000)(i:Nat)(x:Str)(hx:l[i]?=some x):∃fr',Zg rE [3,9,10] c61L5b [(3,.sl 0 l.length 0 l.length false),(9,I i),(10,.int .i64 0)] [.row 1<|l.map encS] =
 some (if uqB l i x=true then .exit 12 else .ret,fr',[.row 1<|l.map encS])/\
 (uqB l i x=true->get fr' 3=.sl 0 l.length 0 l.length false/\get fr' 9=I i)/\(uqB l i x=false->get fr' 2=.bool false):=by
 have hgx:=Z6 (f:=encS) hx;have hli:=Z7 hx;have hb1:=Zh hli;have hbS:∀n(K:List Str),Zd n (K.map encS)=true:=λn K=>ZN _<|Zw (λt=>rfl) K
 have L:=QT (E:=rE) (live:=[3,9,10]) (b:=c61L5b) (h:=[.row 1<|l.map encS]) (l.take i) (λ_ y=>!Z3 x y) (λk=>[(3,.sl 0 l.length 0 l.length false),(9,I i),(10,I k)]) 12
  (λfr=>get fr 3=.sl 0 l.length 0 l.length false/\get fr 9=I i) (λfr=>get fr 2=.bool false) (λk=>rfl)
  (λk y hy hP=>by
   obtain⟨hy',hk⟩:=HH hy;have hgy:=Z6 (f:=encS) hy';have hlt:=Zh hk;have hlk:=Zh<|Z7 hy';have hw:=Zx (n:=k)<|by omega
   have hP':Z3 x y=false:=by simpa using hP
   have hkl:=Z7 hy';have z1:=λes=>VT 0 l.length 0 1 (i:Int) l.length es ⟨by omega,by omega⟩
   have z2:=λes=>VT 0 l.length 0 1 (k:Int) l.length es ⟨by omega,by omega⟩
   have n1:((i:Int)).toNat=i:=rfl;have n2:((k:Int)).toNat=k:=rfl;refine⟨_,by simp only[go_sem,c61L5b,hgx,hgy,hlt,hw,z1,z2,n1,n2,if_true,hbS,beq_self_eq_true,encS,hP',ZVM,ZW6];rfl,?_⟩
   simp only[go_sem])
  (λk y hy hP=>by
   obtain⟨hy',hk⟩:=HH hy;have hgy:=Z6 (f:=encS) hy';have hlt:=Zh hk;have hP':Z3 x y=true:=by simpa using hP
   have hkl:=Z7 hy';have z1:=λes=>VT 0 l.length 0 1 (i:Int) l.length es ⟨by omega,by omega⟩
   have z2:=λes=>VT 0 l.length 0 1 (k:Int) l.length es ⟨by omega,by omega⟩
   have n1:((i:Int)).toNat=i:=rfl;have n2:((k:Int)).toNat=k:=rfl;refine⟨_,by simp only[go_sem,c61L5b,hgx,hgy,hlt,z1,z2,n1,n2,if_true,hbS,beq_self_eq_true,encS,hP',ZVM,ZW6];rfl,?_⟩
   simp only[go_sem])
  (by
   have e:(l.take i).length=i:=by rw[ZWA];omega
   rw[e];exact⟨_,by simp only[go_sem,c61L5b,ZG,hbS,beq_self_eq_true];rfl,by simp only[go_sem],by simp only[go_sem]⟩)
 rw[QE]at L;exact L
def ZUe(l:List Str)(hl:l.length<=100000):∃fr',Zg rE [3,9] c61L6b [(3,.sl 0 l.length 0 l.length false),(9,.int .i64 0)] [.row 1<|l.map encS] =
 some (if Zu (uqB l) 0 l=true then .exit 10 else .ret,fr',[.row 1<|l.map encS])/\(Zu (uqB l) 0 l=false->get fr' 2=.bool false):=by
 have hbS:∀n(K:List Str),Zd n (K.map encS)=true:=λn K=>ZN _<|Zw (λt=>rfl) K
 exact Uf (E:=rE) (live:=[3,9]) (b:=c61L6b) (h:=[.row 1<|l.map encS]) l (uqB l) (λi=>[(3,.sl 0 l.length 0 l.length false),(9,I i)]) 10 (λfr=>get fr 2=.bool false) (λk=>rfl)
  (λi x hx hP=>by
   have hlt:=Zh<|Z7 hx;have hw:=Zx (n:=i) (by have:=Z7 hx;omega)
   obtain⟨fr',h1,h2,_⟩:=ZRo l hl i x hx;rw[hP]at h1;obtain⟨g3,g9⟩:=h2 hP;refine⟨_,by simp only[go_sem,c61L6b,c61L5,hlt,hw,h1,g3,g9,hbS,beq_self_eq_true,if_true];rfl,?_⟩
   simp only[go_sem])
  (λi x hx hP=>by
   have hlt:=Zh<|Z7 hx;obtain⟨fr',h1,_,h2⟩:=ZRo l hl i x hx;rw[hP]at h1;refine⟨_,by simp only[go_sem,c61L6b,c61L5,hlt,h1,hbS,beq_self_eq_true,ZVI,if_false];rfl,?_⟩
   simp only[go_sem,h2 hP])
  (⟨_,by simp only[go_sem,c61L6b,ZG,hbS,beq_self_eq_true];rfl⟩)
def ZUf(l:List Str):Zu (uqB l) 0 l=Jq l:=by
 rw[<-ZRm,ZPv];apply ZOS;intro i x;unfold uqB;rw[ZOU]
def ZUg(s:Sta)(hs:StS s):pfn rE 61 [stA s]=some (.bool<|Jq<|Qp s):=by
 have hbS:∀n(K:List Str),Zd n (K.map encS)=true:=λn K=>ZN _<|Zw (λt=>rfl) K
 have h0:=hs.regions;have h1:=hs.streets;have h2:=hs.buildings;have h3:=hs.doors;have h4:=hs.units;obtain⟨f0,L0,a0,b0⟩:=ZU9 s [] h0<|by simp
 obtain⟨f1,L1,a1,b1⟩:=ZUa s (s.Fa.map (·.Id)) h1<|by simp;omega
 obtain⟨f2,L2,a2,b2⟩:=ZUb s (s.Fa.map (·.Id)++s.Gm.map (·.Id)) h2<|by simp;omega
 obtain⟨f3,L3,a3,b3⟩:=ZUc s (s.Fa.map (·.Id)++s.Gm.map (·.Id)++s.Bt.map (·.Id)) h3<|by simp;omega
 obtain⟨f4,L4,a4,b4⟩:=ZUd s (s.Fa.map (·.Id)++s.Gm.map (·.Id)++s.Bt.map (·.Id)++s.Bc.map (·.Id)) h4<|by simp;omega
 have e:s.Fa.map (·.Id)++s.Gm.map (·.Id)++s.Bt.map (·.Id)++s.Bc.map (·.Id)++s.Nk.map (·.Id)=Qp s:=by unfold Qp;simp only[ZVY]
 rw[ZWb]at L0;rw[e]at L4;simp only[ZVQ,ZVA,ZWs,ZVM,ZWy]at L0 L1 L2 L3 L4 b0 b1 b2 b3 b4;have hlen:(Qp s).length=s.Fa.length+s.Gm.length+s.Bt.length+s.Bc.length+s.Nk.length:=by
  rw[<-e];simp only[ZVQ,ZVA]
 obtain⟨f6,L6,c6⟩:=ZUe (Qp s)<|by omega
 rw[hlen]at L6;rw[Z5 (f:=61) rfl rfl,<-ZUf];cases hc:Zu (uqB<|Qp s) 0 (Qp s)with
 |false=>rw[hc]at L6;simp only[go_sem,c61,c61L0,c61L1,c61L2,c61L3,c61L4,c61L6,L0,a0,b0,L1,a1,b1,L2,a2,b2,L3,a3,b3,L4,a4,b4,hbS,beq_self_eq_true,L6,c6 hc,ZVI,if_false]
 |true=>rw[hc]at L6;simp only[go_sem,c61,c61L0,c61L1,c61L2,c61L3,c61L4,c61L6,L0,a0,b0,L1,a1,b1,L2,a2,b2,L3,a3,b3,L4,a4,b4,hbS,beq_self_eq_true,L6,if_true]
def pOk(p:bf):Bool:=ZD p.a 0 63&&(ZD p.b 0 63&&!(p.a==p.b))
def ZUh(s:Sta)(hs:StS s):∃fr',Zg rE [1,3] c62L0b [(1,stI s),(3,.int .i64 0)] []=some (if s.ba.all pOk=true then .exit 0 else .ret,fr',[])/\
 (s.ba.all pOk=true->get fr' 1=stI s)/\(s.ba.all pOk=false->get fr' 2=.bool false):=by
 have hl:=hs.rulings;have n1:((1:Int)).toNat=1:=rfl;have n0:((0:Int)).toNat=0:=rfl;have L:=QT (E:=rE) (live:=[1,3]) (b:=c62L0b) (h:=[]) s.ba (λ_ p=>pOk p) (λi=>[(1,stI s),(3,I i)]) 0 (λfr=>get fr 1=stI s) (λfr=>get fr 2=.bool false) (λk=>rfl)
  (λi x hx hP=>by
   have hg:=Z6 (f:=bf.enc) hx;have hlt:=Zh<|Z7 hx;have hw:=Zx (n:=i) (by have:=Z7 hx;omega)
   unfold pOk at hP;simp only[ZVB,ZVW]at hP;obtain⟨p1,p2,p3⟩:=hP;have r1:=ZOc x.a;have r2:=ZOc x.b;refine⟨_,by simp only[go_sem,c62L0b,hg,hlt,hw,bf.enc,WJ,XL,n0,n1,if_true,r1,r2,p1,p2,p3,ZVA,ZVC];rfl,?_⟩
   simp only[go_sem])
  (λi x hx hP=>by
   have hg:=Z6 (f:=bf.enc) hx;have hlt:=Zh<|Z7 hx;unfold pOk at hP;have r1:=ZOc x.a;have r2:=ZOc x.b;cases p1:ZD x.a 0 63 with
   |false=>
    refine⟨_,by simp only[go_sem,c62L0b,hg,hlt,bf.enc,WJ,XL,n0,n1,if_true,r1,p1,ZVA,ZVE];rfl,?_⟩
    simp only[go_sem]
   |true=>
   cases p2:ZD x.b 0 63 with
   |false=>
    refine⟨_,by simp only[go_sem,c62L0b,hg,hlt,bf.enc,WJ,XL,n0,n1,if_true,r1,r2,p1,p2,ZVA,ZVE,ZVC];rfl,?_⟩
    simp only[go_sem]
   |true=>
    rw[p1,p2,ZVD,ZVD,ZX5]at hP;refine⟨_,by simp only[go_sem,c62L0b,hg,hlt,bf.enc,WJ,XL,n0,n1,if_true,r1,r2,p1,p2,hP,ZVA,ZVC];rfl,?_⟩
    simp only[go_sem])
  (⟨_,by simp only[go_sem,c62L0b,ZG,ZVA];rfl,by simp only[go_sem]⟩)
 rw[QE]at L;exact L
def mgS(l:List bf)(i:Nat)(x:bf):Bool:=(l.take i).all (λq=>!(q.b==x.b))
def ZRp(s:Sta)(hs:StS s)(i:Nat)(x:bf)(hx:s.Gc[i]?=some x):∃fr',Zg rE [1,5,6,7] c62L1b [(1,stI s),(5,I i),(6,.ptr 0 0 0 1),(7,.int .i64 0)] [.row 2 [.agg [I x.a,I x.b]]] =
 some (if mgS s.Gc i x=true then .exit 4 else .ret,fr',[.row 2 [.agg [I x.a,I x.b]]])/\
 (mgS s.Gc i x=true->get fr' 1=stI s/\get fr' 5=I i)/\(mgS s.Gc i x=false->get fr' 1=stI s/\get fr' 5=I i/\get fr' 2=.bool false):=by
 have hl:=hs.merged;have hli:=Z7 hx;have n1:((1:Int)).toNat=1:=rfl;have L:=QT (E:=rE) (live:=[1,5,6,7]) (b:=c62L1b) (h:=[.row 2 [.agg [I x.a,I x.b]]]) (s.Gc.take i) (λ_ q=>!(q.b==x.b)) (λk=>[(1,stI s),(5,I i),(6,.ptr 0 0 0 1),(7,I k)]) 4 (λfr=>get fr 1=stI s/\get fr 5=I i) (λfr=>get fr 1=stI s/\get fr 5=I i/\get fr 2=.bool false) (λk=>rfl)
  (λk y hy hP=>by
   obtain⟨hy',hk⟩:=HH hy;have hgy:=Z6 (f:=bf.enc) hy';have hlt:=Zh hk;have hw:=Zx (n:=k)<|by omega
   have hP':(y.b==x.b)=false:=by simpa using hP
   refine⟨_,by simp only[go_sem,c62L1b,hgy,hlt,hw,bf.enc,XL,n1,if_true,hP'];rfl,?_⟩
   simp only[go_sem])
  (λk y hy hP=>by
   obtain⟨hy',hk⟩:=HH hy;have hgy:=Z6 (f:=bf.enc) hy';have hlt:=Zh hk;have hP':(y.b==x.b)=true:=by simpa using hP
   refine⟨_,by simp only[go_sem,c62L1b,hgy,hlt,bf.enc,XL,n1,if_true,hP'];rfl,?_⟩
   refine⟨?_,?_,?_⟩<;>simp only[go_sem])
  (by
   have e:(s.Gc.take i).length=i:=by rw[ZWA];omega
   rw[e];exact⟨_,by simp only[go_sem,c62L1b,ZG];rfl,by simp only[go_sem],by simp only[go_sem]⟩)
 rw[QE]at L;exact L
def mgB(l:List bf)(i:Nat)(x:bf):Bool:=pOk x&&mgS l i x
def ZUi(s:Sta)(hs:StS s):∃fr',Zg rE [1,5] c62L2b [(1,stI s),(5,.int .i64 0)] []=some (if Zu (mgB s.Gc) 0 s.Gc=true then .exit 2 else .ret,fr',[])/\
 (Zu (mgB s.Gc) 0 s.Gc=true->get fr' 1=stI s)/\(Zu (mgB s.Gc) 0 s.Gc=false->get fr' 2=.bool false):=by
 have hl:=hs.merged;have n1:((1:Int)).toNat=1:=rfl;have n0:((0:Int)).toNat=0:=rfl;exact QT (E:=rE) (live:=[1,5]) (b:=c62L2b) (h:=[]) s.Gc (mgB s.Gc) (λi=>[(1,stI s),(5,I i)]) 2 (λfr=>get fr 1=stI s) (λfr=>get fr 2=.bool false) (λk=>rfl)
  (λi x hx hP=>by
   have hg:(s.Gc.map bf.enc)[i]?=some (.agg [I x.a,I x.b]):=Z6 (f:=bf.enc) hx;have hlt:=Zh<|Z7 hx;have hw:=Zx (n:=i) (by have:=Z7 hx;omega)
   obtain⟨fr',h1,h2,_⟩:=ZRp s hs i x hx;unfold mgB pOk at hP;simp only[ZVB,ZVW]at hP;obtain⟨⟨p1,p2,p3⟩,p4⟩:=hP;rw[p4]at h1;obtain⟨g1,g5⟩:=h2 p4;have r1:=ZOc x.a;have r2:=ZOc x.b;refine⟨_,by simp only[go_sem,c62L2b,c62L1,hg,hlt,hw,WJ,XL,n0,n1,if_true,r1,r2,p1,p2,p3,h1,g1,g5,ZVA,ZVC];rfl,?_⟩
   simp only[go_sem])
  (λi x hx hP=>by
   have hg:(s.Gc.map bf.enc)[i]?=some (.agg [I x.a,I x.b]):=Z6 (f:=bf.enc) hx;have hlt:=Zh<|Z7 hx;obtain⟨fr',h1,_,h2⟩:=ZRp s hs i x hx;unfold mgB pOk at hP;have r1:=ZOc x.a;have r2:=ZOc x.b;cases p1:ZD x.a 0 63 with
   |false=>
    refine⟨_,by simp only[go_sem,c62L2b,hg,hlt,WJ,XL,n0,n1,if_true,r1,p1,ZVA,ZVE];rfl,?_⟩
    simp only[go_sem]
   |true=>
   cases p2:ZD x.b 0 63 with
   |false=>
    refine⟨_,by simp only[go_sem,c62L2b,hg,hlt,WJ,XL,n0,n1,if_true,r1,r2,p1,p2,ZVA,ZVE,ZVC];rfl,?_⟩
    simp only[go_sem]
   |true=>
   cases p3:(x.a==x.b)with
   |true=>
    refine⟨_,by simp only[go_sem,c62L2b,hg,hlt,WJ,XL,n0,n1,if_true,r1,r2,p1,p2,p3,ZVA,ZVC];rfl,?_⟩
    simp only[go_sem]
   |false=>
    rw[p1,p2,p3,ZVE,ZVD,ZVD,ZVD]at hP;rw[hP]at h1;obtain⟨g1,g5,g2⟩:=h2 hP;refine⟨_,by simp only[go_sem,c62L2b,c62L1,hg,hlt,g1,g5,g2,WJ,XL,n0,n1,if_true,r1,r2,p1,p2,p3,h1,ZVA,ZVC,ZVI,if_false];rfl,?_⟩
    simp only[go_sem])
  (⟨_,by simp only[go_sem,c62L2b,ZG,ZVA];rfl,by simp only[go_sem]⟩)
def ZPY(s:Sta)(hs:StS s)(a:Nat):∀(k n:Nat)(at':Int),n+k=65->∃fr',Zg rE [1,8,9,10] c62L3b [(1,stI s),(8,I a),(9,I at'),(10,I n)] []=some (if chN s k at'=true then .exit 8 else .ret,fr',[])/\
 (chN s k at'=true->get fr' 1=stI s/\get fr' 8=I a)/\(chN s k at'=false->get fr' 2=.bool false)
 |0,n,at',hk=>by
  have hn:n=65:=by omega
  subst hn;have hd:decide (((65:Nat):Int)>64)=true:=rfl;unfold chN;cases c:decide (at'>=0)with
  |false=>
   refine⟨_,Q7 rfl (by simp only[go_sem,c62L3b,c];rfl) (by simp),?_,?_⟩
   .intro _;constructor<;>simp only[go_sem]
   .intro h;cases h
  |true=>
   refine⟨_,Q7 rfl (by simp only[go_sem,c62L3b,c,hd];rfl) (by simp),?_,?_⟩
   .intro h;cases h
   .intro _;simp only[go_sem]
 |k+1,n,at',hk=>by
  have hd:decide (((n:Nat):Int)>64)=false:=decide_eq_false<|by omega
  have hw:=Zx (n:=n)<|by omega
  have ht:=ZTZ s hs at';unfold chN;cases c:decide (at'>=0)with
  |false=>
   refine⟨_,Q7 rfl (by simp only[go_sem,c62L3b,c];rfl) (by simp),?_,?_⟩
   .intro _;constructor<;>simp only[go_sem]
   .intro h;cases h
  |true=>
   obtain⟨fr',h1,h2⟩:=ZPY s hs a k (n+1) (XJ s at')<|by omega
   refine⟨fr',?_,h2⟩;rw[cond_true,<-h1];rw[Yt rfl (by simp only[go_sem,c62L3b,c,hd,hw,ht];rfl)]
   simp only[go_sem]
def ZUj(s:Sta)(hs:StS s):∃fr',Zg rE [1,8] c62L4b [(1,stI s),(8,.int .i64 0)] []=some (if(List.range 64).all (λa=>chN s 65 a)=true then .exit 6 else .ret,fr',[])/\((List.range 64).all (λa=>chN s 65 a)=false->get fr' 2=.bool false):=by
 have hr:∀(i a:Nat),(List.range 64)[i]?=some a->a=i/\i<64:=λi a h=>by
  have h1:=Z7 h;rw[ZXS]at h1;rw[ZYg h1]at h;exact⟨by injection h with h;exact h.symm,h1⟩
 have L:=Uf (E:=rE) (live:=[1,8]) (b:=c62L4b) (h:=[]) (List.range 64) (λ_ a=>chN s 65 a) (λi=>[(1,stI s),(8,I i)]) 6 (λfr=>get fr 2=.bool false) (λk=>rfl)
  (λi a ha hP=>by
   obtain⟨rfl,h64⟩:=hr i a ha;have hlt:decide ((a:Int)<64)=true:=decide_eq_true<|by omega
   have hw:=Zx (n:=a)<|by omega
   obtain⟨fr',h1,h2,_⟩:=ZPY s hs a 65 0 a rfl;rw[hP]at h1;obtain⟨g1,g8⟩:=h2 hP;have h1':Zg rE [1,8,9,10] c62L3b [(1,stI s),(8,I a),(9,I a),(10,.int .i64 0)] []=_:=h1;refine⟨_,by simp only[go_sem,c62L4b,c62L3,hlt,hw,h1',g1,g8,if_true];rfl,?_⟩
   simp only[go_sem])
  (λi a ha hP=>by
   obtain⟨rfl,h64⟩:=hr i a ha;have hlt:decide ((a:Int)<64)=true:=decide_eq_true<|by omega
   obtain⟨fr',h1,_,h2⟩:=ZPY s hs a 65 0 a rfl;rw[hP]at h1;have h1':Zg rE [1,8,9,10] c62L3b [(1,stI s),(8,I a),(9,I a),(10,.int .i64 0)] []=_:=h1;refine⟨_,by simp only[go_sem,c62L4b,c62L3,hlt,h1',ZVI,if_false];rfl,?_⟩
   simp only[go_sem,h2 hP])
  (by
   have e:(List.range 64).length=64:=rfl;have hlt:decide (((64:Nat):Int)<64)=false:=rfl;rw[e];exact⟨_,by simp only[go_sem,c62L4b,hlt];rfl⟩)
 rw[QE]at L;exact L
def ZPA(s:Sta):Bool:=s.ba.all pOk&&(Zu (mgB s.Gc) 0 s.Gc&&(List.range 64).all (λa=>chN s 65 a))
def ZUk(s:Sta)(hs:StS s):pfn rE 62 [stA s]=some (.bool<|ZPA s):=by
 obtain⟨f0,L0,a0,b0⟩:=ZUh s hs;obtain⟨f2,L2,a2,b2⟩:=ZUi s hs;obtain⟨f4,L4,b4⟩:=ZUj s hs;rw[Z5 (f:=62) rfl rfl];unfold ZPA;cases c0:s.ba.all pOk with
 |false=>rw[c0]at L0;simp only[go_sem,c62,c62L0,L0,b0 c0,ZVG,ZVI,if_false]
 |true=>
 rw[c0]at L0;cases c2:Zu (mgB s.Gc) 0 s.Gc with
 |false=>rw[c2]at L2;simp only[go_sem,c62,c62L0,c62L2,L0,a0 c0,L2,b2 c2,ZVG,ZVD,ZVI,if_false,if_true]
 |true=>
 rw[c2]at L2;cases c4:(List.range 64).all (λa=>chN s 65 a)with
 |false=>rw[c4]at L4;simp only[go_sem,c62,c62L0,c62L2,c62L4,L0,a0 c0,L2,a2 c2,L4,b4 c4,ZVD,ZVI,if_false,if_true]
 |true=>rw[c4]at L4;simp only[go_sem,c62,c62L0,c62L2,c62L4,L0,a0 c0,L2,a2 c2,L4,ZVD,if_true]
def itT(s:Sta):Nat->Int->Int
 |0,x=>x
 |n+1,x=>itT s n<|XJ s x
def Zdq(s:Sta):∀n x,itT s (n+1) x=XJ s (itT s n x)
 |0,_=>rfl
 |n+1,x=>Zdq s n<|XJ s x
def Zdh(s:Sta)(m:Nat)(x:Int):∀n,itT s (m+n) x=itT s n (itT s m x)
 |0=>rfl
 |n+1=>by rw[show m+(n+1)=(m+n)+1 by omega,Zdq,Zdh s m x n,Zdq]
def ZdY(s:Sta):∀n x,chN s n x=true↔∃j,j<=n/\itT s j x<0
 |0,x=>by
  unfold chN;rw[ZVW,decide_eq_false_iff_not];exact⟨λh=>⟨0,ZVF _,by show x<0;omega⟩,λ⟨j,h1,h2⟩=>by
   have:j=0:=by omega
   subst this;have:x<0:=h2;omega⟩
 |n+1,x=>by
  unfold chN;cases hx:decide (x>=0)with
  |false=>
   rw[cond_false];exact⟨λ_=>⟨0,ZVO _,by have:=of_decide_eq_false hx;show x<0;omega⟩,λ_=>rfl⟩
  |true=>
   rw[cond_true,ZdY s n];constructor
   .rintro⟨j,h1,h2⟩;exact⟨j+1,by omega,h2⟩
   .rintro⟨j,h1,h2⟩;cases j with
    |zero=>
     have:x<0:=h2;have:=of_decide_eq_true hx;omega
    |succ j=>exact⟨j,by omega,h2⟩
def ZdZ:∀(l m:List Int),l.Nodup->(∀x∈l,x∈m)->l.length<=m.length
 |[],m,_,_=>ZVO _
 |a::r,m,h,hs=>by
  rw[ZWW]at h;have ha:=hs a<|ZWl ..;have:=ZdZ r (m.erase a) h.2<|λx hx=>(List.mem_erase_of_ne<|by rintro rfl;exact h.1 hx).2 (hs x<|ZWC _ hx)
  rw[List.length_erase_of_mem ha]at this;have hl:0<m.length:=List.length_pos_of_mem ha;rw[ZVU];omega
def least(P:Nat->Prop):∀n,P n->∃m,P m/\∀k,k<m->¬P k:=by
 intro n;induction n using Nat.strongRecOn with
 |_ n ih=>
  intro h;by_cases hc:∃k,k<n/\P k
  .obtain⟨k,h1,h2⟩:=hc;exact ih k h1 h2
  .exact⟨n,h,λk hk hp=>hc ⟨k,hk,hp⟩⟩
def Zez(s:Sta){n:Nat}{x:Int}(h:chN s n x=true):chN s (s.Gc.length+1) x=true:=by
 rw[ZdY]at h⊢;obtain⟨j,_,hj⟩:=h;obtain⟨m,hm,hmin⟩:=least (λj=>itT s j x<0) j hj
 refine⟨m,?_,hm⟩;have hnd:((List.range<|m-1).map (λi=>itT s i x)).Nodup:=by
  rw[ZYq,ZY8];refine List.Pairwise.imp_of_mem ?_<|ZYq.1 List.nodup_range;intro i k hi hk hne heq;rw[ZXo]at hi hk;rcases Nat.lt_or_gt_of_ne hne with hlt|hlt
  .have h1:itT s (k+(m-k)) x=itT s (i+(m-k)) x:=by rw[Zdh,Zdh,heq]
   rw[show k+(m-k)=m by omega]at h1
   exact hmin (i+(m-k)) (by omega)<|by rw[<-h1];exact hm
  .have h1:itT s (i+(m-i)) x=itT s (k+(m-i)) x:=by rw[Zdh,Zdh,heq]
   rw[show i+(m-i)=m by omega]at h1
   exact hmin (k+(m-i)) (by omega)<|by rw[<-h1];exact hm
 have hsub:∀y∈(List.range<|m-1).map (λi=>itT s i x),y∈s.Gc.map (·.b):=by
  intro y hy;obtain⟨i,hi,rfl⟩:=ZWf.1 hy;rw[ZXo]at hi;have h1:=hmin (i+1)<|by omega
  rw[Zdq]at h1;unfold XJ at h1;cases hf:s.Gc.find? (λp=>p.b==itT s i x)with
  |none=>rw[hf]at h1;exact absurd (by decide) h1
  |some p=>
   have h2:=ZXQ hf;have h3:=ZY0 hf;rw[<-(by simpa using h2:p.b=itT s i x)]
   exact ZX0 h3
 have:=ZdZ _ _ hnd hsub;rw[ZVA,ZVA,ZXS]at this;omega
def ZPZ(p:bf):pOk p=Y2 p:=by
 have w1:ZD 0 (-1) 100000=true:=rfl;have w2:ZD 0 0 100000=true:=rfl;unfold pOk Y2 QM;rw[w1,w2];simp
def ZRq(x:Int):∀(l:List bf)(K:List Int),(l.foldl (λK p=>Qi Vm K p.b) K).any (Vm x)=(K.any (Vm x)||l.any (λq=>Vm x q.b))
 |[],K=>by simp
 |p::r,K=>by
  rw[ZWI,ZRq x r,ZWF,<-Bool.or_assoc];congr 1;unfold Qi;cases hk:K.any (Vm p.b)with
  |true=>
   rw[cond_true];cases he:Vm x p.b with
   |false=>simp
   |true=>
    have:x=p.b:=eq_of_beq he;rw[this,hk];simp
  |false=>rw[cond_false,List.any_append];simp
def ZRr(l:List bf):Zu (mgB l) 0 l=UB l:=by
 unfold UB;apply ZOS;intro i x;unfold mgB mgS QV;rw[ZPZ,ZRq,ZWU,ZVS,ZOU];congr 1;apply ZOk;intro q _;unfold Vm;rw[ZOm]
def ZUl{l:List bf}(h:UB l=true):∀p∈l,Y2 p=true:=by
 rw[<-ZRr]at h;unfold mgB at h;rw[ZPb,ZVB,QE]at h;intro p hp;rw[<-ZPZ];exact ZVT.1 h.1 p hp
def ZUm(s:Sta)(hm:s.Gc.length<=64):ZPA s=WK s:=by
 unfold ZPA WK;rw[ZRr,show s.ba.all pOk=s.ba.all Y2 from ZOk λp _=>ZPZ p]
 cases hM:UB s.Gc with
 |false=>simp
 |true=>
  rw[ZVD,ZVD];congr 1;have hp:=ZUl hM;rw[ZW1,ZVT,ZVT];constructor
  .intro h p hpm;have h1:=hp p hpm;unfold Y2 QM ZD at h1;simp only[ZVB,decide_eq_true_eq]at h1;have h2:=h p.b.toNat (by rw[ZXo];omega)
   rw[show((p.b.toNat:Nat):Int)=p.b by omega]at h2
   exact Zez s h2
  .intro h a ha;rw[ZXo]at ha;cases hf:s.Gc.find? (λp=>p.b==(a:Int))with
   |none=>
    rw[ZdY];refine⟨1,by omega,?_⟩
    show XJ s a<0
    unfold XJ;rw[hf];decide
   |some p=>
    have h2:=ZXQ hf;have h3:=h p<|ZY0 hf;have h4:p.b=(a:Int):=by simpa using h2
    rw[h4,ZdY]at h3;obtain⟨j,h5,h6⟩:=h3;rw[ZdY];exact⟨j,by omega,h6⟩
def ZUn(s:Sta)(hs:StS s)(hm:s.Gc.length<=64):pfn rE 62 [stA s]=some (.bool<|WK s):=by rw[ZUk s hs,ZUm s hm]
structure StR(s:Sta):Prop extends StE s where
 rn:∀x∈s.Fa,∀n∈x.bk.l,n.Lang.size<=1000000/\n.Text.size<=1000000
 sn:∀x∈s.Gm,∀n∈x.bk.l,n.Lang.size<=1000000/\n.Text.size<=1000000
 mg:s.Gc.length<=64
def rgR(x:Gk):Bool:=ZD x.bh 0 63&&(ZD x.Ld (-1) 100000&&(Jp x.bk.l x.bk.ex&&(Q9 {Jt x with bq:=1})))
def ZUo(x:Gk):rgR x=Vo x:=by
 have w:ZD 0 0 100000=true:=rfl;unfold rgR Vo QM;rw[w];simp[ZWV]
def ZUp(s:Sta)(hs:StR s):∃fr',Zg rE [1,3] c10L0b [(1,stI s),(3,.int .i64 0)] []=some (if s.Fa.all rgR=true then .exit 0 else .ret,fr',[])/\
 (s.Fa.all rgR=true->get fr' 1=stI s)/\(s.Fa.all rgR=false->get fr' 2=.bool false):=by
 have L:=QT (E:=rE) (live:=[1,3]) (b:=c10L0b) (h:=[]) s.Fa (λ_ x=>rgR x) (λi=>[(1,stI s),(3,I i)]) 0 (λfr=>get fr 1=stI s) (λfr=>get fr 2=.bool false) (λk=>rfl)
  (λi x hx hP=>by
   have hg:(s.Fa.map Gk.enc)[i]?=some (.agg [.str x.Id,I x.bq,I x.bh,.isl false x.Ring.ex 2<|x.Ring.l.map Pt.enc,.isl false x.bk.ex 3<|x.bk.l.map Nm.enc,I x.Ld]):=Z6 (f:=Gk.enc) hx;have hlt:=Zh<|Z7 hx;have hm:=ZVN hx;have hw:=Zx (n:=i) (by have:=Z7 hx;have:=hs.toStE.sizes.regions;omega)
   have h0:=ZOc x.bh;have h1:=ZOe x.Ld<|-1;have h2:=ZPz x.bk.l x.bk.ex (hs.toStE.regions x hm).1 (hs.rn x hm);have h30:=ZOn {Jt x with bq:=1} ⟨⟨by simp[Jt],by simp[Jt],(hs.toStE.regions x hm).2.1,by simp[Jt],(hs.toStE.regions x hm).2.2,ZW3 rfl,ZW3 rfl⟩,ZOt _ rfl⟩<|by simp
   have h3:pfn rE 52 [.agg [I 1,I 0,I x.bq,I 0,I 0,.str x.Id,.str emp,.str emp,.isl false false 1 [],.isl false false 3 [],I 0,.str emp,I 0,I 0,I 0,I 0,.isl false x.Ring.ex 2<|x.Ring.l.map Pt.enc,.isl false false 7 []]]=some (.bool<|Q9 {Jt x with bq:=1}):=h30
   unfold rgR at hP;simp only[ZVB]at hP;obtain⟨p0,p1,p2,p3⟩:=hP;refine⟨_,by simp only[go_sem,c10L0b,hg,hlt,hw,h0,h1,h2,h3,p0,p1,p2,p3,ZVA,ZVC];rfl,?_⟩
   simp only[go_sem])
  (λi x hx hP=>by
   have hg:(s.Fa.map Gk.enc)[i]?=some (.agg [.str x.Id,I x.bq,I x.bh,.isl false x.Ring.ex 2<|x.Ring.l.map Pt.enc,.isl false x.bk.ex 3<|x.bk.l.map Nm.enc,I x.Ld]):=Z6 (f:=Gk.enc) hx;have hlt:=Zh<|Z7 hx;have hm:=ZVN hx;have h0:=ZOc x.bh;have h1:=ZOe x.Ld<|-1;have h2:=ZPz x.bk.l x.bk.ex (hs.toStE.regions x hm).1 (hs.rn x hm);have h30:=ZOn {Jt x with bq:=1} ⟨⟨by simp[Jt],by simp[Jt],(hs.toStE.regions x hm).2.1,by simp[Jt],(hs.toStE.regions x hm).2.2,ZW3 rfl,ZW3 rfl⟩,ZOt _ rfl⟩<|by simp
   have h3:pfn rE 52 [.agg [I 1,I 0,I x.bq,I 0,I 0,.str x.Id,.str emp,.str emp,.isl false false 1 [],.isl false false 3 [],I 0,.str emp,I 0,I 0,I 0,I 0,.isl false x.Ring.ex 2<|x.Ring.l.map Pt.enc,.isl false false 7 []]]=some (.bool<|Q9 {Jt x with bq:=1}):=h30
   unfold rgR at hP;cases p0:ZD x.bh 0 63 with
   |false=>
    refine⟨_,by simp only[go_sem,c10L0b,hg,hlt,h0,h1,h2,h3,p0,ZVA,ZVC,ZVE];rfl,?_⟩
    simp only[go_sem]
   |true=>
   cases p1:ZD x.Ld (-1) 100000 with
   |false=>
    refine⟨_,by simp only[go_sem,c10L0b,hg,hlt,h0,h1,h2,h3,p0,p1,ZVA,ZVC,ZVE];rfl,?_⟩
    simp only[go_sem]
   |true=>
   cases p2:Jp x.bk.l x.bk.ex with
   |false=>
    refine⟨_,by simp only[go_sem,c10L0b,hg,hlt,h0,h1,h2,h3,p0,p1,p2,ZVA,ZVC,ZVE];rfl,?_⟩
    simp only[go_sem]
   |true=>
   rw[p0,p1,p2,ZVD,ZVD,ZVD]at hP;refine⟨_,by simp only[go_sem,c10L0b,hg,hlt,h0,h1,h2,h3,p0,p1,p2,hP,ZVA,ZVC,ZVE];rfl,?_⟩
   simp only[go_sem])
  (⟨_,by simp only[go_sem,c10L0b,ZG,ZVA];rfl,by simp only[go_sem]⟩)
 rw[QE]at L;exact L
def stR(x:By):Bool:=ZD x.bh 0 63&&(ZD x.Ld (-1) 100000&&(Jp x.bk.l x.bk.ex&&(Q9 {Ju x with bq:=2})))
def ZUq(x:By):stR x=Vp x:=by
 have w:ZD 0 0 100000=true:=rfl;unfold stR Vp QM;rw[w];simp[ZWV]
def ZUr(s:Sta)(hs:StR s):∃fr',Zg rE [1,5] c10L1b [(1,stI s),(5,.int .i64 0)] []=some (if s.Gm.all stR=true then .exit 2 else .ret,fr',[])/\
 (s.Gm.all stR=true->get fr' 1=stI s)/\(s.Gm.all stR=false->get fr' 2=.bool false):=by
 have L:=QT (E:=rE) (live:=[1,5]) (b:=c10L1b) (h:=[]) s.Gm (λ_ x=>stR x) (λi=>[(1,stI s),(5,I i)]) 2 (λfr=>get fr 1=stI s) (λfr=>get fr 2=.bool false) (λk=>rfl)
  (λi x hx hP=>by
   have hg:(s.Gm.map By.enc)[i]?=some (.agg [.str x.Id,I x.bh,.isl false x.Line.ex 2<|x.Line.l.map Pt.enc,.isl false x.bk.ex 3<|x.bk.l.map Nm.enc,I x.Ld]):=Z6 (f:=By.enc) hx;have hlt:=Zh<|Z7 hx;have hm:=ZVN hx;have hw:=Zx (n:=i) (by have:=Z7 hx;have:=hs.toStE.sizes.streets;omega)
   have h0:=ZOc x.bh;have h1:=ZOe x.Ld<|-1;have h2:=ZPz x.bk.l x.bk.ex (hs.toStE.streets x hm).1 (hs.sn x hm);have h30:=ZOn {Ju x with bq:=2} ⟨⟨by simp[Ju],by simp[Ju],(hs.toStE.streets x hm).2.1,by simp[Ju],(hs.toStE.streets x hm).2.2,ZW3 rfl,ZW3 rfl⟩,ZOt _ rfl⟩<|by simp
   have h3:pfn rE 52 [.agg [I 2,I 0,I 0,I 0,I 0,.str x.Id,.str emp,.str emp,.isl false false 1 [],.isl false false 3 [],I 0,.str emp,I 0,I 0,I 0,I 0,.isl false x.Line.ex 2<|x.Line.l.map Pt.enc,.isl false false 7 []]]=some (.bool<|Q9 {Ju x with bq:=2}):=h30
   unfold stR at hP;simp only[ZVB]at hP;obtain⟨p0,p1,p2,p3⟩:=hP;refine⟨_,by simp only[go_sem,c10L1b,hg,hlt,hw,h0,h1,h2,h3,p0,p1,p2,p3,ZVA,ZVC];rfl,?_⟩
   simp only[go_sem])
  (λi x hx hP=>by
   have hg:(s.Gm.map By.enc)[i]?=some (.agg [.str x.Id,I x.bh,.isl false x.Line.ex 2<|x.Line.l.map Pt.enc,.isl false x.bk.ex 3<|x.bk.l.map Nm.enc,I x.Ld]):=Z6 (f:=By.enc) hx;have hlt:=Zh<|Z7 hx;have hm:=ZVN hx;have h0:=ZOc x.bh;have h1:=ZOe x.Ld<|-1;have h2:=ZPz x.bk.l x.bk.ex (hs.toStE.streets x hm).1 (hs.sn x hm);have h30:=ZOn {Ju x with bq:=2} ⟨⟨by simp[Ju],by simp[Ju],(hs.toStE.streets x hm).2.1,by simp[Ju],(hs.toStE.streets x hm).2.2,ZW3 rfl,ZW3 rfl⟩,ZOt _ rfl⟩<|by simp
   have h3:pfn rE 52 [.agg [I 2,I 0,I 0,I 0,I 0,.str x.Id,.str emp,.str emp,.isl false false 1 [],.isl false false 3 [],I 0,.str emp,I 0,I 0,I 0,I 0,.isl false x.Line.ex 2<|x.Line.l.map Pt.enc,.isl false false 7 []]]=some (.bool<|Q9 {Ju x with bq:=2}):=h30
   unfold stR at hP;cases p0:ZD x.bh 0 63 with
   |false=>
    refine⟨_,by simp only[go_sem,c10L1b,hg,hlt,h0,h1,h2,h3,p0,ZVA,ZVC,ZVE];rfl,?_⟩
    simp only[go_sem]
   |true=>
   cases p1:ZD x.Ld (-1) 100000 with
   |false=>
    refine⟨_,by simp only[go_sem,c10L1b,hg,hlt,h0,h1,h2,h3,p0,p1,ZVA,ZVC,ZVE];rfl,?_⟩
    simp only[go_sem]
   |true=>
   cases p2:Jp x.bk.l x.bk.ex with
   |false=>
    refine⟨_,by simp only[go_sem,c10L1b,hg,hlt,h0,h1,h2,h3,p0,p1,p2,ZVA,ZVC,ZVE];rfl,?_⟩
    simp only[go_sem]
   |true=>
   rw[p0,p1,p2,ZVD,ZVD,ZVD]at hP;refine⟨_,by simp only[go_sem,c10L1b,hg,hlt,h0,h1,h2,h3,p0,p1,p2,hP,ZVA,ZVC,ZVE];rfl,?_⟩
   simp only[go_sem])
  (⟨_,by simp only[go_sem,c10L1b,ZG,ZVA];rfl,by simp only[go_sem]⟩)
 rw[QE]at L;exact L
def buR(x:Ev):Bool:=ZD x.bh 0 63&&(ZD x.Ld (-1) 100000&&(Q9 {Jv x with bq:=5}))
def ZUs(x:Ev):buR x=Vq x:=by
 have w:ZD 0 0 100000=true:=rfl;unfold buR Vq QM;rw[w];simp[ZWV]
def ZUt(s:Sta)(hs:StR s):∃fr',Zg rE [1,7] c10L2b [(1,stI s),(7,.int .i64 0)] []=some (if s.Bt.all buR=true then .exit 4 else .ret,fr',[])/\
 (s.Bt.all buR=true->get fr' 1=stI s)/\(s.Bt.all buR=false->get fr' 2=.bool false):=by
 have L:=QT (E:=rE) (live:=[1,7]) (b:=c10L2b) (h:=[]) s.Bt (λ_ x=>buR x) (λi=>[(1,stI s),(7,I i)]) 4 (λfr=>get fr 1=stI s) (λfr=>get fr 2=.bool false) (λk=>rfl)
  (λi x hx hP=>by
   have hg:(s.Bt.map Ev.enc)[i]?=some (.agg [.str x.Id,I x.bh,.isl false x.Ring.ex 2<|x.Ring.l.map Pt.enc,I x.Ld]):=Z6 (f:=Ev.enc) hx;have hlt:=Zh<|Z7 hx;have hm:=ZVN hx;have hw:=Zx (n:=i) (by have:=Z7 hx;have:=hs.toStE.sizes.buildings;omega)
   have h0:=ZOc x.bh;have h1:=ZOe x.Ld<|-1;have h20:=ZOn {Jv x with bq:=5} ⟨⟨by simp[Jv],by simp[Jv],(hs.toStE.buildings x hm).1,by simp[Jv],(hs.toStE.buildings x hm).2,ZW3 rfl,ZW3 rfl⟩,ZOt _ rfl⟩<|by simp
   have h2:pfn rE 52 [.agg [I 5,I 0,I 0,I 0,I 0,.str x.Id,.str emp,.str emp,.isl false false 1 [],.isl false false 3 [],I 0,.str emp,I 0,I 0,I 0,I 0,.isl false x.Ring.ex 2<|x.Ring.l.map Pt.enc,.isl false false 7 []]]=some (.bool<|Q9 {Jv x with bq:=5}):=h20
   unfold buR at hP;simp only[ZVB]at hP;obtain⟨p0,p1,p2⟩:=hP;refine⟨_,by simp only[go_sem,c10L2b,hg,hlt,hw,h0,h1,h2,p0,p1,p2,ZVA,ZVC];rfl,?_⟩
   simp only[go_sem])
  (λi x hx hP=>by
   have hg:(s.Bt.map Ev.enc)[i]?=some (.agg [.str x.Id,I x.bh,.isl false x.Ring.ex 2<|x.Ring.l.map Pt.enc,I x.Ld]):=Z6 (f:=Ev.enc) hx;have hlt:=Zh<|Z7 hx;have hm:=ZVN hx;have h0:=ZOc x.bh;have h1:=ZOe x.Ld<|-1;have h20:=ZOn {Jv x with bq:=5} ⟨⟨by simp[Jv],by simp[Jv],(hs.toStE.buildings x hm).1,by simp[Jv],(hs.toStE.buildings x hm).2,ZW3 rfl,ZW3 rfl⟩,ZOt _ rfl⟩<|by simp
   have h2:pfn rE 52 [.agg [I 5,I 0,I 0,I 0,I 0,.str x.Id,.str emp,.str emp,.isl false false 1 [],.isl false false 3 [],I 0,.str emp,I 0,I 0,I 0,I 0,.isl false x.Ring.ex 2<|x.Ring.l.map Pt.enc,.isl false false 7 []]]=some (.bool<|Q9 {Jv x with bq:=5}):=h20
   unfold buR at hP;cases p0:ZD x.bh 0 63 with
   |false=>
    refine⟨_,by simp only[go_sem,c10L2b,hg,hlt,h0,h1,h2,p0,ZVA,ZVC,ZVE];rfl,?_⟩
    simp only[go_sem]
   |true=>
   cases p1:ZD x.Ld (-1) 100000 with
   |false=>
    refine⟨_,by simp only[go_sem,c10L2b,hg,hlt,h0,h1,h2,p0,p1,ZVA,ZVC,ZVE];rfl,?_⟩
    simp only[go_sem]
   |true=>
   rw[p0,p1,ZVD,ZVD]at hP;refine⟨_,by simp only[go_sem,c10L2b,hg,hlt,h0,h1,h2,p0,p1,hP,ZVA,ZVC,ZVE];rfl,?_⟩
   simp only[go_sem])
  (⟨_,by simp only[go_sem,c10L2b,ZG,ZVA];rfl,by simp only[go_sem]⟩)
 rw[QE]at L;exact L
end Go.AM
