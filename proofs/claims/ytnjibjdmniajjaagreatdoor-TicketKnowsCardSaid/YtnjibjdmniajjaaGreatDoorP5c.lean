/- What the functions of the program compute, part 3, for TicketKnows. No condition. -/
import Derived.Test.YtnjibjdmniajjaaGreatDoorP5b
import Derived.Test.YtnjibjdmniajjaaGreatDoorQ5
import Derived.Lib.ItoaLen
set_option linter.unusedVariables false
set_option linter.defProp false
set_option linter.unusedSimpArgs false
set_option linter.unusedSectionVars false
namespace Go.AM
open Go
variable [REdz]
def kOf(ks:List Int)(e:Gt):Bool:=ks.any<|λx=>e.br==x
def ZoJ(e:Gt)(ks:List Int)(ex:Bool)(hl:ks.length<=1000):pfn rE 245 [.isl false ex 1<|ks.map I,evI e]=some (.bool<|kOf ks e):=by
 have h:=DR ks ex e.br<|by omega
 rw[Z5 (f:=245) rfl rfl];unfold kOf;simp only[go_sem,c245,h]
def Zor(s:Sta)(e:Gt):List Str:=
 (((e.Ids.l++bif kOf [9,12] e then [e.Id]else [])++bif kOf [7] e then [e.bv]else [])++bif kOf [8] e then e.Lst.l.map (·.Id)else [])++bif kOf [12] e then(s.Nk.filter<|λu=>Z3 u.Id e.Id).map (·.Ga)else []
def ZoQ(e:Gt)(x:Gk):Bool:=kOf [1,3,12] e&&Z3 x.Id e.Id
def ZoR(e:Gt)(x:By):Bool:=(kOf [3,4,8,12] e&&Z3 x.Id e.Id)||((kOf [4] e&&Z3 x.Id e.bv)||(kOf [6] e&&Z3 x.Id e.Text))
def ZoS(e:Gt)(x:Ev):Bool:=(kOf [11] e&&Z3 x.Id e.Id)||(kOf [6] e&&Z3 x.Id e.bv)
def ZoT(l:List Str)(x:Ga):Bool:=l.any<|λy=>Z3 x.Id y
def Zou(s:Sta)(m o:Int):Bool:=Zoq s o==m
def Zpb(s:Sta)(e:Gt)(m:Int):Bool:=
 s.Fa.all (λx=>!ZoQ e x||Zou s m x.bh)&&(s.Gm.all (λx=>!ZoR e x||Zou s m x.bh)&&(s.Bt.all (λx=>!ZoS e x||Zou s m x.bh)&&s.Bc.all (λx=>!ZoT (Zor s e) x||Zou s m x.bh)))
def Zp6(s:Sta)(e:Gt)(m:Int):Int:=bif Zpb s e m then 0 else 18
def ZoA(s:Sta)(e:Gt)(a m:Int):Fr:=[(1,.iptr false [rqI s e a m]),(2,.ptr 0 0 0 1),(12,.clo (.func 247) [] [.iptr false [ldI s],.ptr 1 0 0 1,evI e,.ptr 3 0 0 1])]
def thX(s:Sta)(e:Gt)(a m:Int)(n:Int)(st:LoopState)(ex:AExit)(l:List Str):Hp:=[.row 1 [I n],.row 1 [.clo (.func 245) [] [evI e]],.row 1<|l.map encS,.row 1 [.sl 2 l.length 0 l.length false],.loop st ex (ZoA s e a m) [13] c74R0a c74R0b]
abbrev thH(s:Sta)(e:Gt)(a m:Int):Hp:=thX s e a m 0 .ready .normal<|Zor s e
abbrev thD(s:Sta)(e:Gt)(a m:Int):Hp:=thX s e a m 18 .done .ret<|Zor s e
def ZoI(s:Sta)(e:Gt)(a m:Int):Zd 5 (frV<|ZoA s e a m)=true/\Zd 6 (frV<|ZoA s e a m)=true:=by
 have hbl:=Zot s;have hcl:=Zow s;have hc:Z4 [rqI s e a m,ldI s,evI e]=true:=by simp only[go_sem,hcl]
 have hb:=λn=>ZN (n:=n) _ hc
 simp only[Zd,ZS5]at hb;constructor
 .obtain⟨h1,h2,h3,_⟩:=hb 5;simp only[go_sem,ZoA,h3]
 .obtain⟨h1,h2,h3,_⟩:=hb 6;simp only[go_sem,ZoA,h3]
def Zpc(s:Sta)(e:Gt)(a m:Int)(o:Int)(q:AObj)(hq:∀n,Zj n q=true)(hM:pfn rE 72 [ldI s,I o]=some (I<|Zoq s o)):
 U4 rE 4 [I o] (thH s e a m++[q])=some (bif Zou s m o then(.bool true,thH s e a m++[q])else(.bool false,thD s e a m++[q])):=by
 have hcl:=Zow s;have hbl:=Zot s;obtain⟨hf4,hf5⟩:=ZoI s e a m;unfold Zou;have hS:∀n,Zd n ((Zor s e).map encS)=true:=λn=>ZN _<|Zw (λt=>rfl) _
 cases c:Zoq s o==m with
 |true=>
  have h:=Ss (E:=rE) (b:=4) (args:=[I o]) (h:=thH s e a m++[q]) (fr:=ZoA s e a m) (ps:=[13]) (assign:=c74R0a) (body:=c74R0b)
   (fr0:=(13,I o)::ZoA s e a m) rfl rfl (by simp only[go_sem,c74R0a,thX,ZoA,ZSr,ZT1]<;>rfl) (by rfl)
   (e:=.normal) (fr2:=[]) (h2:=thX s e a m 0 .busy .normal (Zor s e)++[q])
   (by
    have hne:(Zoq s o != m)=false:=by rw[bne,c];rfl
    simp only[go_sem,c74R0b,thX,ZoA,ZSr,ZT1,hM,hne,hq,hS]<;>rfl) (by rfl)
  exact h
 |false=>
  have h:=Ss (E:=rE) (b:=4) (args:=[I o]) (h:=thH s e a m++[q]) (fr:=ZoA s e a m) (ps:=[13]) (assign:=c74R0a) (body:=c74R0b)
   (fr0:=(13,I o)::ZoA s e a m) rfl rfl (by simp only[go_sem,c74R0a,thX,ZoA,ZSr,ZT1]<;>rfl) (by rfl)
   (e:=.ret) (fr2:=[]) (h2:=thX s e a m 18 .busy .normal (Zor s e)++[q])
   (by
    have hne:(Zoq s o != m)=true:=by rw[bne,c];rfl
    simp only[go_sem,c74R0b,thX,ZoA,ZSr,ZT1,hM,hne,hq,hS]<;>rfl) (by rfl)
  exact h
def ZpS(s:Sta)(e:Gt)(a m:Int)(h:RqS s e m)(i:Nat)(x:Gk)(hx:s.Fa[i]?=some x)(hl:s.Fa.length<=1000)(ho:0<=x.bh):
 Zb rE c247L0b [(0,.yld 4),(1,.iptr false [ldI s]),(2,.ptr 1 0 0 1),(3,evI e),(4,.ptr 3 0 0 1),(20,.isl false false 6<|s.Fa.map Gk.enc),(21,I s.Fa.length),(22,I i)] (thH s e a m)=bif !ZoQ e x||Zou s m x.bh then some (.normal,[(0,.yld 4),(1,.iptr false [ldI s]),(2,.ptr 1 0 0 1),(3,evI e),(4,.ptr 3 0 0 1),(20,.isl false false 6<|s.Fa.map Gk.enc),(21,I s.Fa.length),(22,I (i+1:Nat))],thH s e a m)else some (.ret,[(0,.yld 4),(1,.iptr false [ldI s]),(2,.ptr 1 0 0 1),(3,evI e),(4,.ptr 3 0 0 1),(20,.isl false false 6<|s.Fa.map Gk.enc),(21,I s.Fa.length),(22,I i)],thD s e a m):=by
 have hg:=Z6 (f:=Gk.enc) hx;have hi':=Zh<|Z7 hx;have hwr:=Zx (n:=i) (by have:=Z7 hx;omega)
 have hcl:=Zow s;have hbl:=Zot s;obtain⟨hf4,hf5⟩:=ZoI s e a m;have hS:∀n,Zd n ((Zor s e).map encS)=true:=λn=>ZN _<|Zw (λt=>rfl) _
 have hq:∀n,Zj n (.row 6 [x.enc])=true:=λn=>ZN (n:=n) [x.enc]<|Zw (f:=Gk.enc) (λt=>rfl) [x]
 have hy:=Zpc s e a m x.bh (.row 6 [x.enc]) hq<|h.c.mst ho;simp only[thX,ZSr,ZT1,Gk.enc,NL.enc]at hy;simp only[Gk.enc,NL.enc]at hq;have hk0:=ZoJ e [1,3,12] false<|by decide
 simp only[ZS9,ZSA]at hk0;unfold ZoQ;cases c1:kOf [1,3,12] e with
 |false=>
  rw[c1]at hk0;simp only[go_sem,c247L0b,thX,hg,hi',hwr,hf4,hf5,hq,hS,Gk.enc,NL.enc,ZSw,Bool.true_or,ZSS,Bool.false_and,cond_true,cond_false,hk0]
 |true=>
 rw[c1]at hk0;cases c2:Z3 x.Id e.Id with
 |false=>simp only[go_sem,c247L0b,thX,hg,hi',hwr,hf4,hf5,hq,hS,Gk.enc,NL.enc,ZSw,Bool.true_or,ZSS,Bool.false_and,cond_true,cond_false,hk0,c2]
 |true=>cases c5009:Zou s m x.bh<;>rw[c5009]at hy<;>simp only[cond_true,cond_false]at hy<;>simp only[go_sem,c247L0b,thX,S3,hg,hi',hwr,hf4,hf5,hq,hS,hy,Gk.enc,NL.enc,ZSF,ZSw,ZTE,ZTF,ZSS,Bool.false_and,cond_true,cond_false,hk0,c2]
set_option maxHeartbeats 4000000 in
def ZpT(s:Sta)(e:Gt)(a m:Int)(h:RqS s e m)(i:Nat)(x:By)(hx:s.Gm[i]?=some x)(hl:s.Gm.length<=1000)(ho:0<=x.bh):
 Zb rE c247L1b [(0,.yld 4),(1,.iptr false [ldI s]),(2,.ptr 1 0 0 1),(3,evI e),(4,.ptr 3 0 0 1),(48,.isl false false 5<|s.Gm.map By.enc),(49,I s.Gm.length),(50,I i)] (thH s e a m)=bif !ZoR e x||Zou s m x.bh then some (.normal,[(0,.yld 4),(1,.iptr false [ldI s]),(2,.ptr 1 0 0 1),(3,evI e),(4,.ptr 3 0 0 1),(48,.isl false false 5<|s.Gm.map By.enc),(49,I s.Gm.length),(50,I (i+1:Nat))],thH s e a m)else some (.ret,[(0,.yld 4),(1,.iptr false [ldI s]),(2,.ptr 1 0 0 1),(3,evI e),(4,.ptr 3 0 0 1),(48,.isl false false 5<|s.Gm.map By.enc),(49,I s.Gm.length),(50,I i)],thD s e a m):=by
 have hg:=Z6 (f:=By.enc) hx;have hi':=Zh<|Z7 hx;have hwr:=Zx (n:=i) (by have:=Z7 hx;omega)
 have hcl:=Zow s;have hbl:=Zot s;obtain⟨hf4,hf5⟩:=ZoI s e a m;have hS:∀n,Zd n ((Zor s e).map encS)=true:=λn=>ZN _<|Zw (λt=>rfl) _
 have hq:∀n,Zj n (.row 5 [x.enc])=true:=λn=>ZN (n:=n) [x.enc]<|Zw (f:=By.enc) (λt=>rfl) [x]
 have hy:=Zpc s e a m x.bh (.row 5 [x.enc]) hq<|h.c.mst ho;simp only[thX,ZSr,ZT1,By.enc,NL.enc]at hy;simp only[By.enc,NL.enc]at hq;have hk0:=ZoJ e [3,4,8,12] false<|by decide
 simp only[ZS9,ZSA]at hk0;have hk1:=ZoJ e [4] false<|by decide
 simp only[ZS9,ZSA]at hk1;have hk2:=ZoJ e [6] false<|by decide
 simp only[ZS9,ZSA]at hk2;unfold ZoR;cases c1:kOf [3,4,8,12] e<;>cases c5004:kOf [4] e<;>cases c5006:kOf [6] e<;>rw[c1]at hk0<;>rw[c5004]at hk1<;>rw[c5006]at hk2<;>cases d1:Z3 x.Id e.Id<;>cases d2:Z3 x.Id e.bv<;>cases d3:Z3 x.Id e.Text<;>
  (first|(simp only[go_sem,c247L1b,thX,S3,hg,hi',hwr,hf4,hf5,hq,hS,hy,By.enc,NL.enc,ZSF,ZSw,Bool.false_or,Bool.true_or,ZTE,ZTF,ZSS,Bool.false_and,cond_true,cond_false,hk0,hk1,hk2,d1,d2,d3];done)|(cases c5009:Zou s m x.bh<;>rw[c5009]at hy<;>simp only[cond_true,cond_false]at hy<;>simp only[go_sem,c247L1b,thX,S3,hg,hi',hwr,hf4,hf5,hq,hS,hy,By.enc,NL.enc,ZSF,ZSw,ZTE,ZTF,ZSS,Bool.false_and,cond_true,cond_false,hk0,hk1,hk2,d1,d2,d3]))
set_option maxHeartbeats 1000000 in
def ZpU(s:Sta)(e:Gt)(a m:Int)(h:RqS s e m)(i:Nat)(x:Ev)(hx:s.Bt[i]?=some x)(hl:s.Bt.length<=1000)(ho:0<=x.bh):
 Zb rE c247L2b [(0,.yld 4),(1,.iptr false [ldI s]),(2,.ptr 1 0 0 1),(3,evI e),(4,.ptr 3 0 0 1),(102,.isl false false 4<|s.Bt.map Ev.enc),(103,I s.Bt.length),(104,I i)] (thH s e a m)=bif !ZoS e x||Zou s m x.bh then some (.normal,[(0,.yld 4),(1,.iptr false [ldI s]),(2,.ptr 1 0 0 1),(3,evI e),(4,.ptr 3 0 0 1),(102,.isl false false 4<|s.Bt.map Ev.enc),(103,I s.Bt.length),(104,I (i+1:Nat))],thH s e a m)else some (.ret,[(0,.yld 4),(1,.iptr false [ldI s]),(2,.ptr 1 0 0 1),(3,evI e),(4,.ptr 3 0 0 1),(102,.isl false false 4<|s.Bt.map Ev.enc),(103,I s.Bt.length),(104,I i)],thD s e a m):=by
 have hg:=Z6 (f:=Ev.enc) hx;have hi':=Zh<|Z7 hx;have hwr:=Zx (n:=i) (by have:=Z7 hx;omega)
 have hcl:=Zow s;have hbl:=Zot s;obtain⟨hf4,hf5⟩:=ZoI s e a m;have hS:∀n,Zd n ((Zor s e).map encS)=true:=λn=>ZN _<|Zw (λt=>rfl) _
 have hq:∀n,Zj n (.row 4 [x.enc])=true:=λn=>ZN (n:=n) [x.enc]<|Zw (f:=Ev.enc) (λt=>rfl) [x]
 have hy:=Zpc s e a m x.bh (.row 4 [x.enc]) hq<|h.c.mst ho;simp only[thX,ZSr,ZT1,Ev.enc,NL.enc]at hy;simp only[Ev.enc,NL.enc]at hq;have hk0:=ZoJ e [11] false<|by decide
 simp only[ZS9,ZSA]at hk0;have hk1:=ZoJ e [6] false<|by decide
 simp only[ZS9,ZSA]at hk1;unfold ZoS;cases c1:kOf [11] e<;>cases c5006:kOf [6] e<;>rw[c1]at hk0<;>rw[c5006]at hk1<;>cases d1:Z3 x.Id e.Id<;>cases d2:Z3 x.Id e.bv<;>
  (first|(simp only[go_sem,c247L2b,thX,S3,hg,hi',hwr,hf4,hf5,hq,hS,hy,Ev.enc,NL.enc,ZSF,ZSw,Bool.false_or,Bool.true_or,ZTE,ZTF,ZSS,Bool.false_and,cond_true,cond_false,hk0,hk1,d1,d2];done)|(cases c5009:Zou s m x.bh<;>rw[c5009]at hy<;>simp only[cond_true,cond_false]at hy<;>simp only[go_sem,c247L2b,thX,S3,hg,hi',hwr,hf4,hf5,hq,hS,hy,Ev.enc,NL.enc,ZSF,ZSw,ZTE,ZTF,ZSS,Bool.false_and,cond_true,cond_false,hk0,hk1,d1,d2]))
def ZpV(s:Sta)(e:Gt)(a m:Int)(h:RqS s e m)(i:Nat)(x:Ga)(hx:s.Bc[i]?=some x)(hl:s.Bc.length<=1000)(ho:0<=x.bh)(hd:(Zor s e).length<=100000):
 Zb rE c247L3b [(0,.yld 4),(4,.ptr 3 0 0 1),(142,.isl false false 16<|s.Bc.map Ga.enc),(143,I s.Bc.length),(144,I i)] (thH s e a m)=bif !ZoT (Zor s e) x||Zou s m x.bh then some (.normal,[(0,.yld 4),(4,.ptr 3 0 0 1),(142,.isl false false 16<|s.Bc.map Ga.enc),(143,I s.Bc.length),(144,I (i+1:Nat))],thH s e a m)else some (.ret,[(0,.yld 4),(4,.ptr 3 0 0 1),(142,.isl false false 16<|s.Bc.map Ga.enc),(143,I s.Bc.length),(144,I i)],thD s e a m):=by
 have hg:=Z6 (f:=Ga.enc) hx;have hi':=Zh<|Z7 hx;have hwr:=Zx (n:=i) (by have:=Z7 hx;omega)
 have hcl:=Zow s;have hbl:=Zot s;obtain⟨hf4,hf5⟩:=ZoI s e a m;have hS:∀n,Zd n ((Zor s e).map encS)=true:=λn=>ZN _<|Zw (λt=>rfl) _
 have hq:∀n,Zj n (.row 16 [x.enc])=true:=λn=>ZN (n:=n) [x.enc]<|Zw (f:=Ga.enc) (λt=>rfl) [x]
 have hy:=Zpc s e a m x.bh (.row 16 [x.enc]) hq<|h.c.mst ho;simp only[thX,ZSr,ZT1,Ga.enc,NL.enc]at hy;simp only[Ga.enc,NL.enc]at hq;unfold ZoT;have hD:=Zqr (Zor s e) hd x.Id true false;have hcS:Z4 ((Zor s e).map encS)=true:=Zw (λt=>rfl) _
 have htk:List.take (Zor s e).length ((Zor s e).map encS)=(Zor s e).map encS:=ZSX<|by simp
 cases c1:(Zor s e).any (λy=>Z3 x.Id y)with
 |false=>
  rw[c1]at hD;simp only[go_sem,c247L3b,thX,hg,hi',hwr,hf4,hf5,hq,hS,Ga.enc,NL.enc,ZSw,Bool.true_or,ZSS,Bool.false_and,cond_true,cond_false,hD,hcS,htk,ZSf,ZTA,beq_self_eq_true]
 |true=>
  rw[c1]at hD;cases c5009:Zou s m x.bh<;>rw[c5009]at hy<;>simp only[cond_true,cond_false]at hy<;>simp only[go_sem,c247L3b,thX,S3,hg,hi',hwr,hf4,hf5,hq,hS,hy,Ga.enc,NL.enc,ZSF,ZSw,ZTE,ZTF,ZSS,Bool.false_and,cond_true,cond_false,hD,hcS,htk,ZSf,ZTA,beq_self_eq_true]
def ZqE(s:Sta)(e:Gt)(a m:Int)(h:RqS s e m)(hl:s.Fa.length<=1000)(ho:∀x∈s.Fa,0<=x.bh):
 ∃fr' h',Zg rE [0,1,2,3,4,20,21,22] c247L0b [(0,.yld 4),(1,.iptr false [ldI s]),(2,.ptr 1 0 0 1),(3,evI e),(4,.ptr 3 0 0 1),(20,.isl false false 6<|s.Fa.map Gk.enc),(21,I s.Fa.length),(22,.int .i64 0)] (thH s e a m)=some (if s.Fa.all (λx=>!ZoQ e x||Zou s m x.bh)=true then .exit 0 else .ret,fr',h')/\
  (s.Fa.all (λx=>!ZoQ e x||Zou s m x.bh)=true->fr'=[(0,.yld 4),(1,.iptr false [ldI s]),(2,.ptr 1 0 0 1),(3,evI e),(4,.ptr 3 0 0 1),(20,.isl false false 6<|s.Fa.map Gk.enc),(21,I s.Fa.length),(22,I s.Fa.length)]/\h'=thH s e a m)/\(s.Fa.all (λx=>!ZoQ e x||Zou s m x.bh)=false->h'=thD s e a m):=by
 have hbl:=Zot s;have hcl:=Zow s;obtain⟨hf4,hf5⟩:=ZoI s e a m;have hS:∀n,Zd n ((Zor s e).map encS)=true:=λn=>ZN _<|Zw (λt=>rfl) _
 have L:=Jk (E:=rE) (live:=[0,1,2,3,4,20,21,22]) (b:=c247L0b) s.Fa (λ_ x=>!ZoQ e x||Zou s m x.bh) (λi=>[(0,.yld 4),(1,.iptr false [ldI s]),(2,.ptr 1 0 0 1),(3,evI e),(4,.ptr 3 0 0 1),(20,.isl false false 6<|s.Fa.map Gk.enc),(21,I s.Fa.length),(22,I i)]) (λ_=>thH s e a m) 0
  (λfr h'=>fr=[(0,.yld 4),(1,.iptr false [ldI s]),(2,.ptr 1 0 0 1),(3,evI e),(4,.ptr 3 0 0 1),(20,.isl false false 6<|s.Fa.map Gk.enc),(21,I s.Fa.length),(22,I s.Fa.length)]/\h'=thH s e a m) (λ_ h'=>h'=thD s e a m) (λi=>rfl)
  (λi x hx hP=>by
   have:=ZpS s e a m h i x hx hl<|ho x<|ZSN hx;rw[hP,cond_true]at this;exact⟨_,this,rfl⟩)
  (λi x hx hP=>by
   have:=ZpS s e a m h i x hx hl<|ho x<|ZSN hx;rw[hP,cond_false]at this;exact⟨_,_,this,rfl⟩)
  ⟨[(0,.yld 4),(1,.iptr false [ldI s]),(2,.ptr 1 0 0 1),(3,evI e),(4,.ptr 3 0 0 1),(20,.isl false false 6<|s.Fa.map Gk.enc),(21,I s.Fa.length),(22,I s.Fa.length)],thH s e a m,by simp only[go_sem,c247L0b,thX,ZG,hf4,hS],rfl,rfl⟩
 rw[QE]at L;exact L
def ZqF(s:Sta)(e:Gt)(a m:Int)(h:RqS s e m)(hl:s.Gm.length<=1000)(ho:∀x∈s.Gm,0<=x.bh):
 ∃fr' h',Zg rE [0,1,2,3,4,48,49,50] c247L1b [(0,.yld 4),(1,.iptr false [ldI s]),(2,.ptr 1 0 0 1),(3,evI e),(4,.ptr 3 0 0 1),(48,.isl false false 5<|s.Gm.map By.enc),(49,I s.Gm.length),(50,.int .i64 0)] (thH s e a m)=some (if s.Gm.all (λx=>!ZoR e x||Zou s m x.bh)=true then .exit 2 else .ret,fr',h')/\
  (s.Gm.all (λx=>!ZoR e x||Zou s m x.bh)=true->fr'=[(0,.yld 4),(1,.iptr false [ldI s]),(2,.ptr 1 0 0 1),(3,evI e),(4,.ptr 3 0 0 1),(48,.isl false false 5<|s.Gm.map By.enc),(49,I s.Gm.length),(50,I s.Gm.length)]/\h'=thH s e a m)/\(s.Gm.all (λx=>!ZoR e x||Zou s m x.bh)=false->h'=thD s e a m):=by
 have hbl:=Zot s;have hcl:=Zow s;obtain⟨hf4,hf5⟩:=ZoI s e a m;have hS:∀n,Zd n ((Zor s e).map encS)=true:=λn=>ZN _<|Zw (λt=>rfl) _
 have L:=Jk (E:=rE) (live:=[0,1,2,3,4,48,49,50]) (b:=c247L1b) s.Gm (λ_ x=>!ZoR e x||Zou s m x.bh) (λi=>[(0,.yld 4),(1,.iptr false [ldI s]),(2,.ptr 1 0 0 1),(3,evI e),(4,.ptr 3 0 0 1),(48,.isl false false 5<|s.Gm.map By.enc),(49,I s.Gm.length),(50,I i)]) (λ_=>thH s e a m) 2
  (λfr h'=>fr=[(0,.yld 4),(1,.iptr false [ldI s]),(2,.ptr 1 0 0 1),(3,evI e),(4,.ptr 3 0 0 1),(48,.isl false false 5<|s.Gm.map By.enc),(49,I s.Gm.length),(50,I s.Gm.length)]/\h'=thH s e a m) (λ_ h'=>h'=thD s e a m) (λi=>rfl)
  (λi x hx hP=>by
   have:=ZpT s e a m h i x hx hl<|ho x<|ZSN hx;rw[hP,cond_true]at this;exact⟨_,this,rfl⟩)
  (λi x hx hP=>by
   have:=ZpT s e a m h i x hx hl<|ho x<|ZSN hx;rw[hP,cond_false]at this;exact⟨_,_,this,rfl⟩)
  ⟨[(0,.yld 4),(1,.iptr false [ldI s]),(2,.ptr 1 0 0 1),(3,evI e),(4,.ptr 3 0 0 1),(48,.isl false false 5<|s.Gm.map By.enc),(49,I s.Gm.length),(50,I s.Gm.length)],thH s e a m,by simp only[go_sem,c247L1b,thX,ZG,hf4,hS],rfl,rfl⟩
 rw[QE]at L;exact L
def ZqG(s:Sta)(e:Gt)(a m:Int)(h:RqS s e m)(hl:s.Bt.length<=1000)(ho:∀x∈s.Bt,0<=x.bh):
 ∃fr' h',Zg rE [0,1,2,3,4,102,103,104] c247L2b [(0,.yld 4),(1,.iptr false [ldI s]),(2,.ptr 1 0 0 1),(3,evI e),(4,.ptr 3 0 0 1),(102,.isl false false 4<|s.Bt.map Ev.enc),(103,I s.Bt.length),(104,.int .i64 0)] (thH s e a m)=some (if s.Bt.all (λx=>!ZoS e x||Zou s m x.bh)=true then .exit 4 else .ret,fr',h')/\
  (s.Bt.all (λx=>!ZoS e x||Zou s m x.bh)=true->fr'=[(0,.yld 4),(1,.iptr false [ldI s]),(2,.ptr 1 0 0 1),(3,evI e),(4,.ptr 3 0 0 1),(102,.isl false false 4<|s.Bt.map Ev.enc),(103,I s.Bt.length),(104,I s.Bt.length)]/\h'=thH s e a m)/\(s.Bt.all (λx=>!ZoS e x||Zou s m x.bh)=false->h'=thD s e a m):=by
 have hbl:=Zot s;have hcl:=Zow s;obtain⟨hf4,hf5⟩:=ZoI s e a m;have hS:∀n,Zd n ((Zor s e).map encS)=true:=λn=>ZN _<|Zw (λt=>rfl) _
 have L:=Jk (E:=rE) (live:=[0,1,2,3,4,102,103,104]) (b:=c247L2b) s.Bt (λ_ x=>!ZoS e x||Zou s m x.bh) (λi=>[(0,.yld 4),(1,.iptr false [ldI s]),(2,.ptr 1 0 0 1),(3,evI e),(4,.ptr 3 0 0 1),(102,.isl false false 4<|s.Bt.map Ev.enc),(103,I s.Bt.length),(104,I i)]) (λ_=>thH s e a m) 4
  (λfr h'=>fr=[(0,.yld 4),(1,.iptr false [ldI s]),(2,.ptr 1 0 0 1),(3,evI e),(4,.ptr 3 0 0 1),(102,.isl false false 4<|s.Bt.map Ev.enc),(103,I s.Bt.length),(104,I s.Bt.length)]/\h'=thH s e a m) (λ_ h'=>h'=thD s e a m) (λi=>rfl)
  (λi x hx hP=>by
   have:=ZpU s e a m h i x hx hl<|ho x<|ZSN hx;rw[hP,cond_true]at this;exact⟨_,this,rfl⟩)
  (λi x hx hP=>by
   have:=ZpU s e a m h i x hx hl<|ho x<|ZSN hx;rw[hP,cond_false]at this;exact⟨_,_,this,rfl⟩)
  ⟨[(0,.yld 4),(1,.iptr false [ldI s]),(2,.ptr 1 0 0 1),(3,evI e),(4,.ptr 3 0 0 1),(102,.isl false false 4<|s.Bt.map Ev.enc),(103,I s.Bt.length),(104,I s.Bt.length)],thH s e a m,by simp only[go_sem,c247L2b,thX,ZG,hf4,hS],rfl,rfl⟩
 rw[QE]at L;exact L
def ZqH(s:Sta)(e:Gt)(a m:Int)(h:RqS s e m)(hl:s.Bc.length<=1000)(ho:∀x∈s.Bc,0<=x.bh)(hd:(Zor s e).length<=100000):
 ∃fr' h',Zg rE [0,4,142,143,144] c247L3b [(0,.yld 4),(4,.ptr 3 0 0 1),(142,.isl false false 16<|s.Bc.map Ga.enc),(143,I s.Bc.length),(144,.int .i64 0)] (thH s e a m)=some (if s.Bc.all (λx=>!ZoT (Zor s e) x||Zou s m x.bh)=true then .exit 6 else .ret,fr',h')/\
  (s.Bc.all (λx=>!ZoT (Zor s e) x||Zou s m x.bh)=true->fr'=[(0,.yld 4),(4,.ptr 3 0 0 1),(142,.isl false false 16<|s.Bc.map Ga.enc),(143,I s.Bc.length),(144,I s.Bc.length)]/\h'=thH s e a m)/\(s.Bc.all (λx=>!ZoT (Zor s e) x||Zou s m x.bh)=false->h'=thD s e a m):=by
 have hbl:=Zot s;have hcl:=Zow s;obtain⟨hf4,hf5⟩:=ZoI s e a m;have hS:∀n,Zd n ((Zor s e).map encS)=true:=λn=>ZN _<|Zw (λt=>rfl) _
 have L:=Jk (E:=rE) (live:=[0,4,142,143,144]) (b:=c247L3b) s.Bc (λ_ x=>!ZoT (Zor s e) x||Zou s m x.bh) (λi=>[(0,.yld 4),(4,.ptr 3 0 0 1),(142,.isl false false 16<|s.Bc.map Ga.enc),(143,I s.Bc.length),(144,I i)]) (λ_=>thH s e a m) 6
  (λfr h'=>fr=[(0,.yld 4),(4,.ptr 3 0 0 1),(142,.isl false false 16<|s.Bc.map Ga.enc),(143,I s.Bc.length),(144,I s.Bc.length)]/\h'=thH s e a m) (λ_ h'=>h'=thD s e a m) (λi=>rfl)
  (λi x hx hP=>by
   have:=ZpV s e a m h i x hx hl (ho x<|ZSN hx) hd;rw[hP,cond_true]at this;exact⟨_,this,rfl⟩)
  (λi x hx hP=>by
   have:=ZpV s e a m h i x hx hl (ho x<|ZSN hx) hd;rw[hP,cond_false]at this;exact⟨_,_,this,rfl⟩)
  ⟨[(0,.yld 4),(4,.ptr 3 0 0 1),(142,.isl false false 16<|s.Bc.map Ga.enc),(143,I s.Bc.length),(144,I s.Bc.length)],thH s e a m,by simp only[go_sem,c247L3b,thX,ZG,hf4,hS],rfl,rfl⟩
 rw[QE]at L;exact L
def owH(e:Gt)(l:List Str):Hp:=[.row 1 [I 0],.row 1 [.clo (.func 245) [] [evI e]],.row 1<|l.map encS,.row 1 [.sl 2 l.length 0 l.length false]]
def Zpd(e:Gt)(l:List Str)(x:Str)(hl:l.length<=1000000)(r:List AObj):appW (owH e l++r) true 1 16 (.sl 2 l.length 0 l.length false) (.isl false false 1 [.str x]) =
 some (.sl 2 (l.length+1) 0 (l.length+1) false,[.row 1 [I 0],.row 1 [.clo (.func 245) [] [evI e]],.row 1<|(l++[x]).map encS,.row 1 [.sl 2 l.length 0 l.length false]]++r):=by
 have:=XC (h:=owH e l++r) (fz:=true) (b:=2) (g:=l.length) (sz:=1) (bytes:=16) (es:=l.map encS) (bw:=false) (ex:=false) (ys:=[.str x]) (by
  show(bif (l.map encS).length==l.length then some (1,l.map encS)else none)=_
  rw[ZSf,beq_self_eq_true];rfl) rfl rfl (by decide) (by decide) (by simp;omega)
 rw[this,ZTs];rfl
def ZoU(e:Gt)(n:Nat):bel n (evI e)=true:=by
 have hc:Z4 [evI e]=true:=by simp only[go_sem]
 have:=ZN (n:=n) [evI e] hc;unfold Zd at this;rw[ZS5]at this;exact this.1
def ZqI(s:Sta)(e:Gt)(l:List Str)(hl:l.length+e.Lst.l.length<=100000):Zg rE [2,3,5,6,35,36,37] c128L0b [(2,.iptr false [ldI s]),(3,evI e),(5,.ptr 1 0 0 1),(6,.ptr 3 0 0 1),(35,.isl false e.Lst.ex 7<|e.Lst.l.map Ent.enc),(36,I e.Lst.l.length),(37,.int .i64 0)] (owH e l) =
 some (.exit 0,[(2,.iptr false [ldI s]),(3,evI e),(5,.ptr 1 0 0 1),(6,.ptr 3 0 0 1),(35,.isl false e.Lst.ex 7<|e.Lst.l.map Ent.enc),(36,I e.Lst.l.length),(37,I e.Lst.l.length)],owH e (l++e.Lst.l.map (·.Id))):=by
 have hbl:=Zot s;have hbe:=ZoU e;have hS:∀(D:List Str)n,Zd n (D.map encS)=true:=λD n=>ZN _<|Zw (λt=>rfl) _
 have L:=Y8 (E:=rE) (live:=[2,3,5,6,35,36,37]) (b:=c128L0b) e.Lst.l.length (λi=>[(2,.iptr false [ldI s]),(3,evI e),(5,.ptr 1 0 0 1),(6,.ptr 3 0 0 1),(35,.isl false e.Lst.ex 7<|e.Lst.l.map Ent.enc),(36,I e.Lst.l.length),(37,I i)])
  (λi=>owH e (l++(e.Lst.l.take i).map (·.Id))) (λi=>rfl)
  (λi hi=>by
   obtain⟨x,hx⟩:∃x,e.Lst.l[i]?=some x:=⟨_,ZSb hi⟩;have hg:=Z6 (f:=Ent.enc) hx;have hi':=Zh hi;have hwr:=Zx (n:=i)<|by omega
   have htk:l++(e.Lst.l.take<|i+1).map (·.Id)=(l++(e.Lst.l.take i).map (·.Id))++[x.Id]:=by
    rw[List.take_add_one,hx,ZTs,ZT7];rfl
   have hlen:(l++(e.Lst.l.take i).map (·.Id)).length<=1000000:=by rw[ZSM,ZSf,ZTd];omega
   rw[htk];generalize l++(e.Lst.l.take i).map (·.Id)=D at*;have ha:=λq=>Zpd e D x.Id hlen [q]
   simp only[owH,ZSr,ZT1]at ha;have hl1:(D++[x.Id]).length=D.length+1:=by simp
   refine⟨[(2,.iptr false [ldI s]),(3,evI e),(5,.ptr 1 0 0 1),(6,.ptr 3 0 0 1),(35,.isl false e.Lst.ex 7<|e.Lst.l.map Ent.enc),(36,I e.Lst.l.length),(37,I (i+1:Nat))],?_,rfl⟩;unfold owH;rw[hl1];simp only[go_sem,c128L0b,hg,hi',hwr,ha,Ent.enc,hbe,hS])
  (e:=.exit 0) (fr:=[(2,.iptr false [ldI s]),(3,evI e),(5,.ptr 1 0 0 1),(6,.ptr 3 0 0 1),(35,.isl false e.Lst.ex 7<|e.Lst.l.map Ent.enc),(36,I e.Lst.l.length),(37,I e.Lst.l.length)]) (h:=owH e (l++e.Lst.l.map (·.Id))) (by
   rw[List.take_length];simp only[go_sem,c128L0b,owH,ZG,hbe,hS]) (by simp)
 have e0:l++(e.Lst.l.take 0).map (·.Id)=l:=by simp
 rw[e0]at L;exact L
def ZqJ(s:Sta)(e:Gt)(l:List Str)(hl:l.length+s.Nk.length<=100000):Zg rE [2,3,5,6,54,55,56] c128L1b [(2,.iptr false [ldI s]),(3,evI e),(5,.ptr 1 0 0 1),(6,.ptr 3 0 0 1),(54,.isl false false 6<|s.Nk.map be.enc),(55,I s.Nk.length),(56,.int .i64 0)] (owH e l) =
 some (.exit 2,[(2,.iptr false [ldI s]),(3,evI e),(5,.ptr 1 0 0 1),(6,.ptr 3 0 0 1),(54,.isl false false 6<|s.Nk.map be.enc),(55,I s.Nk.length),(56,I s.Nk.length)],owH e (l++(s.Nk.filter<|λu=>Z3 u.Id e.Id).map (·.Ga))):=by
 have hbl:=Zot s;have hbe:=ZoU e;have hS:∀(D:List Str)n,Zd n (D.map encS)=true:=λD n=>ZN _<|Zw (λt=>rfl) _
 have L:=Y8 (E:=rE) (live:=[2,3,5,6,54,55,56]) (b:=c128L1b) s.Nk.length (λi=>[(2,.iptr false [ldI s]),(3,evI e),(5,.ptr 1 0 0 1),(6,.ptr 3 0 0 1),(54,.isl false false 6<|s.Nk.map be.enc),(55,I s.Nk.length),(56,I i)])
  (λi=>owH e (l++((s.Nk.take i).filter (λu=>Z3 u.Id e.Id)).map (·.Ga))) (λi=>rfl)
  (λi hi=>by
   obtain⟨x,hx⟩:∃x,s.Nk[i]?=some x:=⟨_,ZSb hi⟩;have hg:=Z6 (f:=be.enc) hx;have hi':=Zh hi;have hwr:=Zx (n:=i)<|by omega
   have htk:l++((s.Nk.take<|i+1).filter (λu=>Z3 u.Id e.Id)).map (·.Ga)=(l++((s.Nk.take i).filter (λu=>Z3 u.Id e.Id)).map (·.Ga))++bif Z3 x.Id e.Id then [x.Ga]else []:=by
    rw[List.take_add_one,hx,List.filter_append,ZTs,ZT7];congr 2;show([x].filter _).map _=_
    cases hc:Z3 x.Id e.Id<;>simp[hc]
   have hlen:(l++((s.Nk.take i).filter (λu=>Z3 u.Id e.Id)).map (·.Ga)).length<=1000000:=by
    rw[ZSM,ZSf];have:=List.length_filter_le (λu:be=>Z3 u.Id e.Id)<|s.Nk.take i
    rw[ZTd]at this;omega
   rw[htk];generalize l++((s.Nk.take i).filter (λu=>Z3 u.Id e.Id)).map (·.Ga)=D at*
   refine⟨[(2,.iptr false [ldI s]),(3,evI e),(5,.ptr 1 0 0 1),(6,.ptr 3 0 0 1),(54,.isl false false 6<|s.Nk.map be.enc),(55,I s.Nk.length),(56,I (i+1:Nat))],?_,rfl⟩;cases c:Z3 x.Id e.Id with
   |false=>
    rw[cond_false,ZT9];simp only[go_sem,c128L1b,owH,hg,hi',hwr,be.enc,c,hbe,hS]
   |true=>
    rw[cond_true];have ha:=λq=>Zpd e D x.Ga hlen [q]
    simp only[owH,ZSr,ZT1]at ha;have hl1:(D++[x.Ga]).length=D.length+1:=by simp
    unfold owH;rw[hl1];simp only[go_sem,c128L1b,hg,hi',hwr,ha,be.enc,c,hbe,hS])
  (e:=.exit 2) (fr:=[(2,.iptr false [ldI s]),(3,evI e),(5,.ptr 1 0 0 1),(6,.ptr 3 0 0 1),(54,.isl false false 6<|s.Nk.map be.enc),(55,I s.Nk.length),(56,I s.Nk.length)]) (h:=owH e (l++(s.Nk.filter<|λu=>Z3 u.Id e.Id).map (·.Ga))) (by
   rw[List.take_length];simp only[go_sem,c128L1b,owH,ZG,hbe,hS]) (by simp)
 have e0:l++((s.Nk.take 0).filter (λu=>Z3 u.Id e.Id)).map (·.Ga)=l:=by simp
 rw[e0]at L;exact L
def ZqK(l:List Str)(ex:Bool)(hl:l.length<=1000000)(h:Hp):fnV rE 246 [.isl false ex 1<|l.map encS] h=some (.sl h.length l.length 0 l.length false,h++[.row 1<|l.map encS]):=by
 have hble:Nat.ble l.length 1000000=true:=ZT2 hl;have hfit:(l.map encS).all (fits 1)=true:=by rw[List.all_map,ZSe];intro x _;rfl
 rw[V8 (s:=J9) rfl];simp only[J9,Q2,Qq,hfit,ZSf,hble,beq_self_eq_true,Bool.true_or,ZSu,cond_true]
def c128_eq:c128=.seq s128p0 (.seq s128p1<|.seq s128p2<|.seq s128p3<|.seq s128p4<|.seq s128p5<|.seq s128p6<|.seq s128p7 .ret):=rfl
def owG(s:Sta)(e:Gt)(k:Nat)(b:Bool):Fr:=bif b then [(2,.iptr false [ldI s]),(3,evI e),(5,.ptr 1 0 0 1),(6,.ptr 3 0 0 1)]else [(2,.iptr false [ldI s]),(3,evI e),(5,.ptr 1 0 0 1),(6,.ptr 3 0 0 1),(k,.bool false)]
def ow1(e:Gt)(l:List Str):List Str:=l++bif kOf [9,12] e then [e.Id]else []
def ow2(e:Gt)(l:List Str):List Str:=l++bif kOf [7] e then [e.bv]else []
def ow3(e:Gt)(l:List Str):List Str:=l++bif kOf [8] e then e.Lst.l.map (·.Id)else []
def ow4(s:Sta)(e:Gt)(l:List Str):List Str:=l++bif kOf [12] e then(s.Nk.filter<|λu=>Z3 u.Id e.Id).map (·.Ga)else []
def ZpW(s:Sta)(e:Gt):Zor s e=ow4 s e (ow3 e<|ow2 e<|ow1 e e.Ids.l):=rfl
def ZqL(s:Sta)(e:Gt)(l:List Str)(b:Bool)(hl:l.length<=100000):Zb rE s128p3 (owG s e 0 b) (owH e l)=some (.normal,owG s e 17<|kOf [9,12] e,owH e<|ow1 e l):=by
 have hbl:=Zot s;have hbe:=ZoU e;have hS:∀(D:List Str)n,Zd n (D.map encS)=true:=λD n=>ZN _<|Zw (λt=>rfl) _
 have hk:=ZoJ e [9,12] false<|by decide
 simp only[ZS9,ZSA]at hk;unfold ow1;cases c:kOf [9,12] e with
 |false=>
  rw[c]at hk;rw[cond_false,ZT9];cases b<;>simp only[go_sem,s128p3,owG,cond_true,cond_false,owH,hk,hbe,hS]
 |true=>
  rw[c]at hk;rw[cond_true];have ha:=Zpd e l e.Id (by omega) []
  have hl1:(l++[e.Id]).length=l.length+1:=by simp
  unfold owH at ha⊢;rw[hl1];simp only[ZT9]at ha;cases b<;>simp only[go_sem,s128p3,owG,cond_true,cond_false,hk,ha,hbe,hS]
def ZqM(s:Sta)(e:Gt)(l:List Str)(b:Bool)(hl:l.length<=100000):Zb rE s128p4 (owG s e 17 b) (owH e l)=some (.normal,owG s e 25<|kOf [7] e,owH e<|ow2 e l):=by
 have hbl:=Zot s;have hbe:=ZoU e;have hS:∀(D:List Str)n,Zd n (D.map encS)=true:=λD n=>ZN _<|Zw (λt=>rfl) _
 have hk:=ZoJ e [7] false<|by decide
 simp only[ZS9,ZSA]at hk;unfold ow2;cases c:kOf [7] e with
 |false=>
  rw[c]at hk;rw[cond_false,ZT9];cases b<;>simp only[go_sem,s128p4,owG,cond_true,cond_false,owH,hk,hbe,hS]
 |true=>
  rw[c]at hk;rw[cond_true];have ha:=Zpd e l e.bv (by omega) []
  have hl1:(l++[e.bv]).length=l.length+1:=by simp
  unfold owH at ha⊢;rw[hl1];simp only[ZT9]at ha;cases b<;>simp only[go_sem,s128p4,owG,cond_true,cond_false,hk,ha,hbe,hS]
def ZqN(s:Sta)(e:Gt)(l:List Str)(b:Bool)(hl:l.length+e.Lst.l.length<=100000):Zb rE s128p5 (owG s e 25 b) (owH e l)=some (.normal,owG s e 33<|kOf [8] e,owH e<|ow3 e l):=by
 have hbl:=Zot s;have hbe:=ZoU e;have hS:∀(D:List Str)n,Zd n (D.map encS)=true:=λD n=>ZN _<|Zw (λt=>rfl) _
 have hE:∀n,Zd n (e.Lst.l.map Ent.enc)=true:=λn=>ZN _<|Zw (λt=>rfl) _
 have hk:=ZoJ e [8] false<|by decide
 simp only[ZS9,ZSA]at hk;unfold ow3;cases c:kOf [8] e with
 |false=>
  rw[c]at hk;rw[cond_false,ZT9];cases b<;>simp only[go_sem,s128p5,owG,cond_true,cond_false,owH,hk,hbe,hS]
 |true=>
  rw[c]at hk;rw[cond_true];have hL:=ZqI s e l hl;generalize l++e.Lst.l.map (·.Id)=D at*;unfold owH at hL⊢;cases b<;>simp only[go_sem,s128p5,c128L0,owG,cond_true,cond_false,hk,hL,hbe,hS]
def ZqO(s:Sta)(e:Gt)(l:List Str)(b:Bool)(hl:l.length+s.Nk.length<=100000):Zb rE s128p6 (owG s e 33 b) (owH e l)=some (.normal,owG s e 49<|kOf [12] e,owH e<|ow4 s e l):=by
 have hbl:=Zot s;have hbe:=ZoU e;have hS:∀(D:List Str)n,Zd n (D.map encS)=true:=λD n=>ZN _<|Zw (λt=>rfl) _
 have hE:∀n,Zd n (s.Nk.map be.enc)=true:=λn=>ZN _<|Zw (λt=>rfl) _
 have hk:=ZoJ e [12] false<|by decide
 simp only[ZS9,ZSA]at hk;unfold ow4;cases c:kOf [12] e with
 |false=>
  rw[c]at hk;rw[cond_false,ZT9];cases b<;>simp only[go_sem,s128p6,owG,cond_true,cond_false,owH,hk,hbe,hS]
 |true=>
  rw[c]at hk;rw[cond_true];have hL:=ZqJ s e l hl;generalize l++(s.Nk.filter<|λu=>Z3 u.Id e.Id).map (·.Ga)=D at*
  unfold owH at hL⊢;cases b<;>simp only[go_sem,s128p6,c128L1,owG,cond_true,cond_false,hk,hL,hbe,hS]
def ZqP(s:Sta)(e:Gt)(hl:e.Ids.l.length<=1000000):Zb rE s128p2 [(2,.iptr false [ldI s]),(3,evI e),(5,.ptr 1 0 0 1)] [.row 1 [I 0],.row 1 [.clo (.func 245) [] [evI e]]]=some (.normal,owG s e 0 true,owH e e.Ids.l):=by
 have hC:=ZqK e.Ids.l e.Ids.ex hl [.row 1 [I 0],.row 1 [.clo (.func 245) [] [evI e]]];have hbl:=Zot s;have hbe:=ZoU e;have hS:∀(D:List Str)n,Zd n (D.map encS)=true:=λD n=>ZN _<|Zw (λt=>rfl) _
 unfold owH owG;simp only[go_sem,s128p2,cond_true,hC,hbe]
def ZpX(s:Sta)(e:Gt)(h1:e.Ids.l.length<=1000)(h2:e.Lst.l.length<=1000)(h3:s.Nk.length<=1000):(ow1 e e.Ids.l).length<=1001/\(ow2 e<|ow1 e e.Ids.l).length<=1002/\(ow3 e<|ow2 e<|ow1 e e.Ids.l).length<=2002/\(Zor s e).length<=3002:=by
 have a1:(ow1 e e.Ids.l).length<=1001:=by
  unfold ow1;cases kOf [9,12] e<;>simp<;>omega
 have a2:(ow2 e<|ow1 e e.Ids.l).length<=1002:=by
  unfold ow2;cases kOf [7] e<;>simp<;>omega
 have a3:(ow3 e<|ow2 e<|ow1 e e.Ids.l).length<=2002:=by
  rw[ow3];cases kOf [8] e<;>simp<;>omega
 refine⟨a1,a2,a3,?_⟩;rw[ZpW,ow4];have:=List.length_filter_le (λu:be=>Z3 u.Id e.Id) s.Nk
 cases kOf [12] e<;>simp<;>omega
def ZqQ(s:Sta)(e:Gt)(h1:e.Ids.l.length<=1000)(h2:e.Lst.l.length<=1000)(h3:s.Nk.length<=1000):fnV rE 128 [ldI s,evA e] [.row 1 [I 0]]=some (.clo (.func 247) [] [.iptr false [ldI s],.ptr 1 0 0 1,evI e,.ptr 3 0 0 1],owH e<|Zor s e):=by
 obtain⟨a1,a2,a3,a4⟩:=ZpX s e h1 h2 h3;have q2:=ZqP s e<|by omega
 have q3:=ZqL s e e.Ids.l true<|by omega
 have q4:=ZqM s e (ow1 e e.Ids.l) (kOf [9,12] e)<|by omega
 have q5:=ZqN s e (ow2 e<|ow1 e e.Ids.l) (kOf [7] e)<|by omega
 have q6:=ZqO s e (ow3 e<|ow2 e<|ow1 e e.Ids.l) (kOf [8] e)<|by omega
 rw[<-ZpW]at q6;have hbl:=Zot s;have hcl:=Zow s;have hbe:=ZoU e;have hS:∀(D:List Str)n,Zd n (D.map encS)=true:=λD n=>ZN _<|Zw (λt=>rfl) _
 have q0:Zb rE s128p0 [(0,ldI s),(1,evA e)] [.row 1 [I 0]]=some (.normal,[(2,.iptr false [ldI s]),(3,evI e)],[.row 1 [I 0]]):=by
  simp only[go_sem,s128p0,hcl,hbe]
 have q1:Zb rE s128p1 [(2,.iptr false [ldI s]),(3,evI e)] [.row 1 [I 0]]=some (.normal,[(2,.iptr false [ldI s]),(3,evI e),(5,.ptr 1 0 0 1)],[.row 1 [I 0],.row 1 [.clo (.func 245) [] [evI e]]]):=by
  simp only[go_sem,s128p1,hbe]
 generalize Zor s e=D at*;have q7:∀b,∃fr,Zb rE s128p7 (owG s e 49 b) (owH e D)=some (.normal,fr,owH e D)/\get fr 4=.clo (.func 247) [] [.iptr false [ldI s],.ptr 1 0 0 1,evI e,.ptr 3 0 0 1]:=by
  intro b;cases b
  .exact⟨_,by simp only[go_sem,s128p7,owG,owH,cond_true,cond_false]<;>rfl,rfl⟩
  .exact⟨_,by simp only[go_sem,s128p7,owG,owH,cond_true,cond_false]<;>rfl,rfl⟩
 obtain⟨fr,q7,g7⟩:=q7<|kOf [12] e;rw[Q6 (f:=128) rfl rfl,c128_eq];simp only[go_sem,q0,q1,q2,q3,q4,q5,q6,q7,g7]
def ClS.str{s:Sta}(h:ClS s){x:By}(hx:x∈s.Gm):0<=x.bh/\x.bh<=63:=by
 have:=h.prop.st x hx;unfold Vp at this;simp only[ZS5]at this;exact Zpa this.1
def ClS.bld{s:Sta}(h:ClS s){x:Ev}(hx:x∈s.Bt):0<=x.bh/\x.bh<=63:=by
 have:=h.prop.bu x hx;unfold Vq at this;simp only[ZS5]at this;exact Zpa this.1
def ClS.dor{s:Sta}(h:ClS s){x:Ga}(hx:x∈s.Bc):0<=x.bh/\x.bh<=63:=by
 obtain⟨i,hi⟩:=List.getElem?_of_mem hx;have:=h.prop.dr i x hi;unfold Vr at this;simp only[ZS5]at this;exact Zpa this.1
def ZqR(s:Sta)(e:Gt)(a m:Int)(h:RqS s e m):
 rf rE (.clo (.func 247) [] [.iptr false [ldI s],.ptr 1 0 0 1,evI e,.ptr 3 0 0 1]) [13] c74R0a c74R0b (ZoA s e a m) (owH e<|Zor s e)=bif Zpb s e m
  then some (.normal,ZoA s e a m,thX s e a m 0 .exhausted .normal<|Zor s e)else some (.ret,ZoA s e a m,thX s e a m 18 .exhausted .ret<|Zor s e):=by
 have hz:=h.c.E.sizes;have hd:=(ZpX s e (by have:=h.ev.ids;omega) (by have:=h.ev.lst;omega) hz.units).2.2.2
 obtain⟨f1,h1,L1,A1,B1⟩:=ZqE s e a m h hz.regions<|λx hx=>(h.c.reg hx).1
 obtain⟨f2,h2,L2,A2,B2⟩:=ZqF s e a m h hz.streets<|λx hx=>(h.c.str hx).1
 obtain⟨f3,h3,L3,A3,B3⟩:=ZqG s e a m h hz.buildings<|λx hx=>(h.c.bld hx).1
 obtain⟨f4,h4,L4,A4,B4⟩:=ZqH s e a m h hz.doors (λx hx=>(h.c.dor hx).1)<|by omega
 have hbl:=Zot s;have hcl:=Zow s;obtain⟨hf4,hf5⟩:=ZoI s e a m;have hS:∀n,Zd n ((Zor s e).map encS)=true:=λn=>ZN _<|Zw (λt=>rfl) _
 unfold Zpb;rw[Z1k (c:=c247) rfl];cases c1:s.Fa.all (λx=>!ZoQ e x||Zou s m x.bh)with
 |false=>
  have e1:=B1 c1;subst e1;rw[c1]at L1;simp only[thX,ZSo,if_false]at L1;rw[Bool.false_and,cond_false];simp only[go_sem,c247,c247L0,owH,thX,ZSr,ZT1,L1,hf4,hS];rfl
 |true=>
 obtain⟨e1,e1'⟩:=A1 c1;subst e1;subst e1';rw[c1]at L1;simp only[thX,if_true]at L1;cases c2:s.Gm.all (λx=>!ZoR e x||Zou s m x.bh)with
 |false=>
  have e1:=B2 c2;subst e1;rw[c2]at L2;simp only[thX,ZSo,if_false]at L2;rw[ZSS,Bool.false_and,cond_false];simp only[go_sem,c247,c247L0,c247L1,owH,thX,ZSr,ZT1,L1,L2,hf4,hS];rfl
 |true=>
 obtain⟨e1,e1'⟩:=A2 c2;subst e1;subst e1';rw[c2]at L2;simp only[thX,if_true]at L2;cases c5003:s.Bt.all (λx=>!ZoS e x||Zou s m x.bh)with
 |false=>
  have e1:=B3 c5003;subst e1;rw[c5003]at L3;simp only[thX,ZSo,if_false]at L3;rw[ZSS,ZSS,Bool.false_and,cond_false];simp only[go_sem,c247,c247L0,c247L1,c247L2,owH,thX,ZSr,ZT1,L1,L2,L3,hf4,hS];rfl
 |true=>
 obtain⟨e1,e1'⟩:=A3 c5003;subst e1;subst e1';rw[c5003]at L3;simp only[thX,if_true]at L3;cases c5004:s.Bc.all (λx=>!ZoT (Zor s e) x||Zou s m x.bh)with
 |false=>
  have e1:=B4 c5004;subst e1;rw[c5004]at L4;simp only[thX,ZSo,if_false]at L4;rw[ZSS,ZSS,ZSS,cond_false];simp only[go_sem,c247,c247L0,c247L1,c247L2,c247L3,owH,thX,ZSr,ZT1,L1,L2,L3,L4,hf4,hS];rfl
 |true=>
 obtain⟨e1,e1'⟩:=A4 c5004;subst e1;subst e1';rw[c5004]at L4;simp only[thX,if_true]at L4;rw[ZSS,ZSS,ZSS,cond_true];simp only[go_sem,c247,c247L0,c247L1,c247L2,c247L3,owH,thX,ZSr,ZT1,L1,L2,L3,L4,hf4,hS];rfl
def ZqS(s:Sta)(e:Gt)(a m:Int)(h:RqS s e m):pfn rE 74 [rqI s e a m]=some (I<|Zp6 s e m):=by
 have hrf:=ZqR s e a m h;have hO:=ZqQ s e (by have:=h.ev.ids;omega) (by have:=h.ev.lst;omega) h.c.E.sizes.units
 have hcl:=Zow s;have hbl:=Zot s;have hS:∀n,Zd n ((Zor s e).map encS)=true:=λn=>ZN _<|Zw (λt=>rfl) _
 obtain⟨hf4,hf5⟩:=ZoI s e a m;generalize Zor s e=D at*;unfold Zp6;rw[Z5 (f:=74) rfl rfl];unfold owH at hrf hO;cases c:Zpb s e m with
 |true=>
  rw[c,cond_true]at hrf;simp only[ZoA]at hrf;simp only[go_sem,c74,hO,Sr,hrf,hS,thX,ZoA]
 |false=>
  rw[c,cond_false]at hrf;simp only[ZoA]at hrf;simp only[go_sem,c74,hO,Sr,hrf,hS,thX,ZoA]
def Zpf{a:Int}(h:Zoz a=true):0<=a/\a<=63:=by
 unfold Zoz at h;simpa using h
def cvV:List (Nat×Int)->Int
 |[]=>0
 |x::l=>bif x.2==0 then cvV l else x.2
abbrev cvF(R:AV)(L:List<|Nat×Int)(i:Nat):Fr:=[(46,.isl false false 1<|L.map λx=>.clo (.func x.1) [R] []),(47,I L.length),(48,I i)]
def ZpY(R:AV)(hc:clean R=true)(L:List<|Nat×Int)(hl:L.length<=1000)(hp:∀x∈L,pfn rE x.1 [R]=some (I x.2)):∀(k i:Nat),i+k=L.length->
 ∃fr',Zg rE [46,47,48] c38L0b (cvF R L i) []=some (bif cvV (L.drop i)==0 then .exit 0 else .ret,fr',[])/\(cvV (L.drop i)≠0->get fr' 6=I (cvV<|L.drop i))
 |0,i,hk=>by
  have hi:i=L.length:=by omega
  subst hi;refine⟨_,Q7 rfl (e:=.exit 0) (by simp only[go_sem,c38L0b,ZG]<;>rfl) (by simp) |>.trans (by rw[List.drop_length];rfl),?_⟩
  rw[List.drop_length];exact λh=>absurd rfl h
 |k+1,i,hk=>by
  obtain⟨x,hx⟩:∃x,L[i]?=some x:=⟨_,ZSb<|by omega⟩
  have hg:=Z6 (f:=λx:Nat×Int=>AV.clo (.func x.1) [R] []) hx
  have hi':=Zh<|Z7 hx;have hwr:=Zx (n:=i) (by have:=Z7 hx;omega)
  have hy:=hp x<|ZSN hx;have hd:L.drop i=x::L.drop (i+1):=by
   have h1:=ZTu<|Z7 hx;rw[h1];congr 1;have:=ZSb<|Z7 hx;rw[this]at hx;exact Option.some.inj hx
  rw[hd,cvV];cases c:x.2==0 with
  |true=>
   have hn:(x.2 != 0)=false:=by rw[bne,c];rfl
   obtain⟨fr',h1,h2⟩:=ZpY R hc L hl hp k (i+1)<|by omega
   refine⟨fr',?_,h2⟩;rw[cond_true,Yt rfl (fr':=(6,.bot)::cvF R L (i+1)) (h':=[]) (by
    simp only[go_sem,c38L0b,hg,hi',hwr,hy,hn,hc])]
   exact h1
  |false=>
   have hn:(x.2 != 0)=true:=by rw[bne,c];rfl
   rw[cond_false,c,cond_false];refine⟨_,Q7 rfl (e:=.ret) (fr':=[(6,I x.2),(46,.isl false false 1<|L.map λx=>.clo (.func x.1) [R] []),(47,I L.length),(48,I i)]) (by
    simp only[go_sem,c38L0b,hg,hi',hy,hn,hc]) (by simp),λ_=>rfl⟩
def ZoN(s:Sta)(a:Int)(e:Gt):Int:=bif !Jx s||(!Zoz a||!Q9 e)then 1 else
 cvV [(73,Zp0 s e a<|Zoq s a),(74,Zp6 s e<|Zoq s a),(75,Zp5 s e<|Zoq s a),(76,Zp1 s e a<|Zoq s a)]
def Zpq(s:Sta)(hE:StE s)(a:Int)(e:Gt)(hv:EvS e):pfn rE 38 [stA s,I a,evA e]=some (I<|ZoN s a e):=by
 have hO:=Zp7 s hE;have hA:=Zp8 a;have hF:=NH e hv;have hcl:=Zow s;have hbl:=Zot s;unfold ZoN;rw[Z5 (f:=38) rfl rfl];cases c:Jx s with
 |false=>
  rw[c]at hO;simp only[go_sem,c38,hO,ZSw,Bool.true_or]
 |true=>
 rw[c]at hO;cases c1:Zoz a with
 |false=>
  rw[c1]at hA;simp only[go_sem,c38,hO,hA,ZSw,Bool.true_or,ZSF,Bool.false_or]
 |true=>
 rw[c1]at hA;cases c2:Q9 e with
 |false=>
  rw[c2]at hF;simp only[go_sem,c38,hO,hA,hF,ZSw,ZSF,Bool.false_or]
 |true=>
 rw[c2]at hF;have h:ClS s:=⟨hE,c⟩;have m1:=h.mst (Zpf c1).1;have hr:0<=Zoq s a/\Zoq s a<=63:=ZpH h.prop.pa<|Zpf c1;have hq:RqS s e (Zoq s a):=⟨h,hv,c2,hr⟩;generalize Zoq s a=m at*;have hR:clean (rqI s e a m)=true:=by simp only[go_sem]
 obtain⟨fr',L1,L2⟩:=ZpY (rqI s e a m) hR [(73,Zp0 s e a m),(74,Zp6 s e m),(75,Zp5 s e m),(76,Zp1 s e a m)] (by simp) (by
  intro x hx;simp only[ZSc,ZTC,or_false]at hx;rcases hx with rfl|rfl|rfl|rfl
  .exact Zqw s e a m hq
  .exact ZqS s e a m hq
  .exact Zqy s e a m hq
  .exact ZqD s e a m hq) 4 0 rfl
 rw[ZTA]at L1 L2;generalize cvV [(73,Zp0 s e a m),(74,Zp6 s e m),(75,Zp5 s e m),(76,Zp1 s e a m)]=v at*;have hbR:∀n,bel n (rqI s e a m)=true:=λn=>by
  have:=ZN (n:=n) [rqI s e a m]<|by simp only[Z4,hR,ZSu]
  simpa only[Zd,ZSu]using this
 replace L1:Zg rE [46,47,48] c38L0b [(46,.isl false false 1 [.clo (.func 73) [rqI s e a m] [],.clo (.func 74) [rqI s e a m] [],.clo (.func 75) [rqI s e a m] [],.clo (.func 76) [rqI s e a m] []]),(47,.int .i64 ((4:Nat):Int)),(48,.int .i64 0)] []=some (bif v==0 then .exit 0 else .ret,fr',[]):=L1
 cases c5003:v==0 with
 |true=>
  have hv0:v=0:=by simpa using c5003
  subst hv0;rw[c5003,cond_true]at L1;simp only[go_sem,c38,c38L0,hO,hA,hF,m1,hcl,L1,ZSF,Bool.false_or]
 |false=>
  have hv0:v≠0:=by simpa using c5003
  have g:=L2 hv0;rw[c5003,cond_false]at L1;simp only[go_sem,c38,c38L0,hO,hA,hF,m1,hcl,L1,g,ZSF,Bool.false_or]
def Zvw(s:Sta)(a:Int)(e:Gt):Int:=bif ZoN s a e==0 then Qk s a e else ZoN s a e
def Zvx(s:Sta)(a:Int)(e:Gt):Sta:=bif ZoN s a e==0&&Qk s a e==0 then ZP s a e else s
def Zvi(l:List Ver)(st:Sta×List Int)(p:Nat×Nat):Sta×List Int:=match l[p.1]? with
 |some v=>(match v.bc.l[p.2]? with
  |some e=>(Zvx st.1 v.Mv e,st.2++[Zvw st.1 v.Mv e])
  |none=>st)
 |none=>st
def Zr5(l:List Ver)(bq bp:Int):Sta×List Int:=(Zr3 l bq bp).foldl (Zvi l) (Yh,[])
def ZyC{l:List Ver}{p:Nat×Nat}{v:Ver}{e:Gt}(h1:l[p.1]?=some v)(h2:v.bc.l[p.2]?=some e)(st:Sta×List Int):Zvi l st p=(Zvx st.1 v.Mv e,st.2++[Zvw st.1 v.Mv e]):=by
 unfold Zvi;rw[h1];simp only[h2]
def ZeI{e:Gt}(h:Xn e=true):∀x∈e.Lst.l,x.Id.size<=1000:=by
 simp only[Xn,ZS5]at h;obtain⟨h1,_,_,_,_,_,h6⟩:=h;have k6:=of_decide_eq_true h6;unfold FT at h1;rw[ZSX<|by omega]at h1
 intro x hx;have:=ZSe.1 h1 x hx;unfold M2 at this;simp[ZU]at this;omega
structure VsF(V:NL Ver):Prop where
 s:VsS V
 few:∀v∈V.l,∀e∈v.bc.l,Xn e=true
structure StN(n:Nat)(s:Sta):Prop where
 e:StE s
 regions:s.Fa.length<=10*n
 streets:s.Gm.length<=10*n
 buildings:s.Bt.length<=10*n
 doors:s.Bc.length<=10*n
 units:s.Nk.length<=10*n
 merged:s.Gc.length<=10*n
 rulings:s.ba.length<=10*n
def StN.f{n:Nat}{s:Sta}(h:StN n s)(hn:n<=50):StF s:=by
 obtain⟨a,b1,b2,b3,b4,b5,b6,b7⟩:=h;exact⟨a,by omega,by omega,by omega,by omega,by omega,by omega,by omega⟩
def Zx2:StE Yh:=by
 refine⟨⟨Nat.zero_le _,Nat.zero_le _,Nat.zero_le _,Nat.zero_le _,Nat.zero_le _,Nat.zero_le _,Nat.zero_le _⟩,?_,?_,?_,?_,?_⟩
 all_goals (intro x hx;cases hx)
def StN.zero(n:Nat):StN n Yh:=⟨Zx2,Nat.zero_le _,Nat.zero_le _,Nat.zero_le _,Nat.zero_le _,Nat.zero_le _,Nat.zero_le _,Nat.zero_le _⟩
def StN.mono{n m:Nat}{s:Sta}(h:StN n s)(hm:n<=m):StN m s:=by
 obtain⟨a,b1,b2,b3,b4,b5,b6,b7⟩:=h;exact⟨a,by omega,by omega,by omega,by omega,by omega,by omega,by omega⟩
def StN.apply{n:Nat}{s:Sta}(h:StN n s)(hn:n<=50)(a:Int){e:Gt}(he:Xn e=true):StN (n+1) (ZP s a e):=by
 have hE:=ZeH s (h.f hn) a e (JL e he)<|ZeI he;have key:∀t:Sta,t=ZP s a e->(t.Fa.length<=10*(n+1)/\t.Gm.length<=10*(n+1)/\t.Bt.length<=10*(n+1)/\t.Bc.length<=10*(n+1)/\t.Nk.length<=10*(n+1)/\t.Gc.length<=10*(n+1)/\t.ba.length<=10*(n+1)):=by
  intro t ht;unfold ZP at ht;cases c:okB s a e&&(Q1 (wk0 s a e)==0&&Wh (stepW<|wk0 s a e).s.Bc)with
  |true=>
   rw[c,cond_true]at ht;subst ht;obtain⟨h1,h2,h3,h4,h5,h6,h7⟩:=Z4u (wk0 s a e) (JL e he).lst;have e0:(wk0 s a e).s=s:=rfl;rw[e0]at h1 h2 h3 h4 h5 h6 h7;obtain⟨_,b1,b2,b3,b4,b5,b6,b7⟩:=h;exact⟨by omega,by omega,by omega,by omega,by omega,by omega,by omega⟩
  |false=>
   rw[c,cond_false]at ht;subst ht;exact⟨Nat.zero_le _,Nat.zero_le _,Nat.zero_le _,Nat.zero_le _,Nat.zero_le _,Nat.zero_le _,Nat.zero_le _⟩
 obtain⟨k1,k2,k3,k4,k5,k6,k7⟩:=key _ rfl;exact⟨hE,k1,k2,k3,k4,k5,k6,k7⟩
def StN.sta{n:Nat}{s:Sta}(h:StN n s)(hn:n<=50)(a:Int){e:Gt}(he:Xn e=true):StN (n+1) (Zvx s a e):=by
 unfold Zvx;cases ZoN s a e==0&&Qk s a e==0 with
 |true=>exact h.apply hn a he
 |false=>exact h.mono<|ZTl _
def ZyD{V:NL Ver}(hV:VsF V){p:Nat×Nat}{v:Ver}{e:Gt}(h1:V.l[p.1]?=some v)(h2:v.bc.l[p.2]?=some e):Xn e=true:=hV.few v (ZSN h1) e<|ZSN h2
def Zx3{V:NL Ver}(hV:VsF V):∀(O:List<|Nat×Nat)(n:Nat)(st:Sta×List Int),StN n st.1->n+O.length<=50->StN (n+O.length) (O.foldl (Zvi V.l) st).1/\(O.foldl (Zvi V.l) st).2.length<=st.2.length+O.length
 |[],n,st,h,_=>⟨h,ZS6 _⟩
 |p::r,n,st,h,hl=>by
  rw[ZSl]at hl⊢;rw[ZTj];have h1:StN (n+1) (Zvi V.l st p).1/\(Zvi V.l st p).2.length<=st.2.length+1:=by
   unfold Zvi;cases hv:V.l[p.1]? with
   |none=>exact⟨h.mono<|ZTl _,ZTl _⟩
   |some v=>
    dsimp only;cases he:v.bc.l[p.2]? with
    |none=>exact⟨h.mono<|ZTl _,ZTl _⟩
    |some e=>exact⟨h.sta (by omega) _<|ZyD hV hv he,by simp⟩
  obtain⟨h2,h3⟩:=Zx3 hV r (n+1) _ h1.1<|by omega
  rw[show n+(r.length+1)=n+1+r.length by omega]
  exact⟨h2,by omega⟩
def ZsZ(s:Sta):Z4 [stA s]=true:=by
 have h1:Z4 (s.Fa.map Gk.enc)=true:=Zw (λt=>rfl) _
 have h2:Z4 (s.Gm.map By.enc)=true:=Zw (λt=>rfl) _
 have h3:Z4 (s.Bt.map Ev.enc)=true:=Zw (λt=>rfl) _
 have h4:Z4 (s.Bc.map Ga.enc)=true:=Zw (λt=>rfl) _
 have h5:Z4 (s.Nk.map be.enc)=true:=Zw (λt=>rfl) _
 have h6:Z4 (s.Gc.map bf.enc)=true:=Zw (λt=>rfl) _
 have h7:Z4 (s.ba.map bf.enc)=true:=Zw (λt=>rfl) _
 simp only[go_sem]
abbrev asF(V:NL Ver)(O:List<|Nat×Nat)(n i:Nat):Fr:=[(0,vsA V),(6,.ptr 0 0 0 1),(8,.ptr 1 0 0 1),(9,.sl 2 n 0 n false),(19,.isl false false 2<|O.map prA),(20,I O.length),(21,I i)]
abbrev asH(s:Sta)(errs:List Int):Hp:=[.row 7 [stA Yh],.row 7 [stA s],.row 1<|errs.map I]
def ZyE(s:Sta)(errs:List Int)(x:Int)(hl:errs.length<=100000)(r:List AObj):appW (.row 7 [stA Yh]::.row 7 [stA s]::.row 1 (errs.map I)::r) false 1 8 (.sl 2 errs.length 0 errs.length false) (.isl false false 1 [I x])=some (.sl 2 (errs.length+1) 0 (errs.length+1) false,.row 7 [stA Yh]::.row 7 [stA s]::.row 1 ((errs++[x]).map I)::r):=by
 have:=XC (h:=.row 7 [stA Yh]::.row 7 [stA s]::.row 1 (errs.map I)::r) (fz:=false) (b:=2) (g:=errs.length) (sz:=1) (bytes:=8) (es:=errs.map I) (bw:=false) (ex:=false) (ys:=[I x]) (by simp[rowAt]) rfl rfl (by decide) (by decide) (by simp;omega)
 rw[this,ZTs];rfl
def ZAh(V:NL Ver)(hV:VsF V)(O:List<|Nat×Nat)(hO:∀p∈O,InL V.l p)(hl:O.length<=40):
 Zg rE [0,6,8,9,19,20,21] c16L0b (asF V O 0 0) (asH Yh []) =
  some (.exit 0,asF V O (O.foldl (Zvi V.l) (Yh,[])).2.length O.length,asH (O.foldl (Zvi V.l) (Yh,[])).1 (O.foldl (Zvi V.l) (Yh,[])).2):=by
 have hq:∀(t:Sta)n,Zj n (.row 7 [stA t])=true:=λt n=>ZN (n:=n) [stA t]<|ZsZ t
 have hqe:∀(e:Gt)n,Zj n (.row 18 [evA e])=true:=λe n=>ZN (n:=n) [evA e]<|ZwW e
 have hqp:∀(a b:Nat)n,Zj n (.row 2 [.agg [I a,I b]])=true:=λa b n=>rfl
 have hqi:∀(l:List Int)n,Zd n (l.map I)=true:=λl n=>ZN _<|Zw (λt=>rfl) l
 have z0:((0:Int)<=0/\(0:Int)<((2:Nat):Int))=True:=by simp
 have z1:((0:Int)<=1/\(1:Int)<((2:Nat):Int))=True:=by simp
 have t0:Int.toNat 0*1=0:=rfl;have t1:Int.toNat 1*1=1:=rfl;have L:=Y8 (E:=rE) (live:=[0,6,8,9,19,20,21]) (b:=c16L0b) O.length (λi=>asF V O ((O.take i).foldl (Zvi V.l) (Yh,[])).2.length i) (λi=>asH ((O.take i).foldl (Zvi V.l) (Yh,[])).1 ((O.take i).foldl (Zvi V.l) (Yh,[])).2) (λi=>rfl)
  (λi hi=>by
   obtain⟨p,hp⟩:∃p,O[i]?=some p:=⟨_,ZSb hi⟩;obtain⟨v,e,h1,h2⟩:=hO p<|ZSN hp;have hg:=Z6 (f:=prA) hp;have hg1:=Z6 (f:=Ver.enc) h1;have hg2:=Z6 (f:=λe=>evA e) h2
   have hi':=Zh hi;have hwr:=Zx (n:=i)<|by omega
   have hfe:=ZyD hV h1 h2;have hz:=Zx3 hV (O.take i) 0 (Yh,[]) (StN.zero 0)<|by simp;omega
   rw[Us _ _ hp,ZyC h1 h2];have hle:(O.take i).length<=i:=by simp;omega
   generalize hst:(O.take i).foldl (Zvi V.l) (Yh,[])=st at*;obtain⟨s,errs⟩:=st;have hs:StF s:=hz.1.f<|by omega
   have he2:errs.length<=100:=by have:errs.length<=0+(O.take i).length:=hz.2;omega
   have hC:=Zpq s hs.e v.Mv e<|JL e hfe;have hY:=JJ s hs v.Mv e<|JL e hfe;refine⟨asF V O (errs++[Zvw s v.Mv e]).length<|i+1,?_,rfl⟩;show Zb rE c16L0b (asF V O errs.length i) (asH s errs)=some (.normal,asF V O (errs++[Zvw s v.Mv e]).length<|i+1,asH (Zvx s v.Mv e)<|errs++[Zvw s v.Mv e])
   have hA:=λx r=>ZyE s errs x (by omega) r
   have hA2:=λx r=>ZyE (ZP s v.Mv e) errs x (by omega) r
   unfold Zvx Zvw;have hqs:=hq s;have hqz:=hq Yh;have hqa:=hq<|ZP s v.Mv e;have hqe':=hqe e;have hE:=hqi errs;have hE2:=λx=>hqi<|errs++[x]
   generalize ZP s v.Mv e=t at*;generalize Qk s v.Mv e=f at*;generalize ZoN s v.Mv e=c at*;have hv:v.enc=.agg [I v.Mv,I v.An,I v.At,.str v.Prev,.isl false v.bc.ex 18<|v.bc.l.map λe=>evA e,I v.Index,.isl false v.Sig.ex 1<|v.Sig.l.map encS,.isl false v.Path.ex 1<|v.Path.l.map encS]:=rfl
   rw[hv]at hg1;cases c1:c==0 with
   |false=>
    rw[Bool.false_and,cond_false,cond_false];simp only[go_sem,c16L0b,asF,asH,prA,hg,hg1,hg2,hi',hwr,hC,c1,hA,hqs,hqz,hqe',hqp,hE,hE2,z0,z1,t0,t1,if_true,ZSM,ZU5]
   |true=>
    rw[ZSS,cond_true];cases c2:f==0 with
    |false=>
     rw[cond_false];simp only[go_sem,c16L0b,asF,asH,prA,hg,hg1,hg2,hi',hwr,hC,hY,c1,c2,hA,hqs,hqz,hqa,hqe',hqp,hE,hE2,z0,z1,t0,t1,if_true,ZSM,ZU5]
    |true=>
     rw[cond_true];simp only[go_sem,c16L0b,asF,asH,prA,hg,hg1,hg2,hi',hwr,hC,hY,c1,c2,hA2,hqs,hqz,hqa,hqe',hqp,hE,hE2,z0,z1,t0,t1,if_true,ZSM,ZU5])
  (e:=.exit 0) (fr:=asF V O (O.foldl (Zvi V.l) (Yh,[])).2.length O.length) (h:=asH (O.foldl (Zvi V.l) (Yh,[])).1 (O.foldl (Zvi V.l) (Yh,[])).2) (by
   rw[List.take_length];generalize O.foldl (Zvi V.l) (Yh,[])=st;obtain⟨s,errs⟩:=st;have hqs:=hq s;have hqz:=hq Yh;have hE:=hqi errs;simp only[go_sem,c16L0b,asF,asH,ZG,hqs,hqz,hE]) (by simp)
 exact L
def Zwd(l:List Ver)(bq bp:Int):∀p∈Zr3 l bq bp,InL l p:=λp hp=>ZyB l bq bp _ p<|(Zwc l _).mem_iff.1 hp
def ZyF(V:NL Ver)(hV:VsF V)(bq bp:Int)(hl:(Zr3 V.l bq bp).length<=40):pfn rE 16 [vsA V,I bq,I bp]=some (.tup [stA (Zr5 V.l bq bp).1,.isl false false 1<|(Zr5 V.l bq bp).2.map I]):=by
 have hO:=Zx1 V hV.s bq bp;have L:=ZAh V hV (Zr3 V.l bq bp) (Zwd V.l bq bp) hl;unfold Zr5;have hq:∀(t:Sta)n,Zj n (.row 7 [stA t])=true:=λt n=>ZN (n:=n) [stA t]<|ZsZ t
 have hqi:∀(l:List Int)n,Zd n (l.map I)=true:=λl n=>ZN _<|Zw (λt=>rfl) l
 have hci:∀(l:List Int),Z4 (l.map I)=true:=λl=>Zw (λt=>rfl) l
 generalize Zr3 V.l bq bp=O at*;generalize O.foldl (Zvi V.l) (Yh,[])=st at*;obtain⟨s,errs⟩:=st;have L':Zg rE [0,6,8,9,19,20,21] c16L0b [(0,vsA V),(6,.ptr 0 0 0 1),(8,.ptr 1 0 0 1),(9,.sl 2 0 0 0 false),(19,.isl false false 2<|O.map prA),(20,I O.length),(21,.int .i64 0)] [.row 7 [.agg HE],.row 7 [.agg HE],.row 1 []]=_:=L;have hz:∀n,Zj n (.row 7 [.agg HE])=true:=λn=>rfl
 have hqs:=hq s;have hc:=ZsZ s;have hE:=hqi errs;have hcE:=hci errs;have htk:List.take errs.length (errs.map I)=errs.map I:=ZSX<|by simp
 simp only[HE]at hz L';rw[Z5 (f:=16) rfl rfl];simp only[stA]at hc;simp only[go_sem,c16,c16L0,hO,L',hz,hqs,hE,hcE,htk,ZTA,ZSf,beq_self_eq_true]
def Zr8(l:List Ver)(i:Nat):Nat:=((l.take i).map (λv=>v.bc.l.length)).sum
def Zwe{l:List Ver}{i:Nat}{v:Ver}(h:l[i]?=some v):Zr8 l (i+1)=Zr8 l i+v.bc.l.length:=by
 unfold Zr8;rw[List.take_add_one,h];simp
def Zx4{l:List Ver}(h:∀v∈l,v.bc.l.length<=140737488355328):∀i,Zr8 l i<=i*140737488355328
 |0=>by simp[Zr8]
 |i+1=>by
  have ih:=Zx4 h i;rw[ZSv];cases hv:l[i]? with
  |none=>
   have:Zr8 l (i+1)=Zr8 l i:=by unfold Zr8;rw[List.take_add_one,hv];simp
   omega
  |some v=>
   have h1:=Zwe hv;have h2:=h v<|ZSN hv;omega
def ZvP(l:List Ver)(most:Int)(i:Nat)(v:Ver):Bool:=!decide (((Zr8 l (i+1):Nat):Int)>most)&&v.bc.l.all Xn
def ZvT(l:List Ver)(most:Int):Bool:=Zu (ZvP l most) 0 (l.take 20)&&decide ((l.length:Int)<=20)
def ZyG(V:NL Ver)(most:Int)(n:Nat)(v:Ver)(i:Nat)(hv:V.l[i]?=some v)(hl:v.bc.l.length<=140737488355328):
 ∃fr',Zg rE [0,1,5,6,7] c34L0b [(0,vsA V),(1,I most),(5,I n),(6,I i),(7,.int .i64 0)] []=some (if v.bc.l.all Xn=true then .exit 2 else .ret,fr',[])/\(v.bc.l.all Xn=true->Z2 [0,1,4,5,6] fr'=[(0,vsA V),(1,I most),(4,.bot),(5,I n),(6,I i)])/\(v.bc.l.all Xn=false->get fr' 4=.bool false):=by
 have hg1:=Z6 (f:=Ver.enc) hv;have hev:v.enc=.agg [I v.Mv,I v.An,I v.At,.str v.Prev,.isl false v.bc.ex 18<|v.bc.l.map λe=>evA e,I v.Index,.isl false v.Sig.ex 1<|v.Sig.l.map encS,.isl false v.Path.ex 1<|v.Path.l.map encS]:=rfl
 rw[hev]at hg1;have L:=QT (E:=rE) (live:=[0,1,5,6,7]) (b:=c34L0b) (h:=[]) v.bc.l (λ_ e=>Xn e) (λk=>[(0,vsA V),(1,I most),(5,I n),(6,I i),(7,I k)]) 2 (λfr=>Z2 [0,1,4,5,6] fr=[(0,vsA V),(1,I most),(4,.bot),(5,I n),(6,I i)]) (λfr=>get fr 4=.bool false) (λk=>rfl)
  (λk e he hP=>by
   have hg2:=Z6 (f:=λe=>evA e) he
   have hi':=Zh<|Z7 he;have hwr:=Zx (n:=k) (by have:=Z7 he;omega)
   have hF:=Z4z e;rw[hP]at hF;refine⟨_,by simp only[go_sem,c34L0b,hg1,hg2,hi',hwr,hF];rfl,?_⟩
   simp only[go_sem])
  (λk e he hP=>by
   have hg2:=Z6 (f:=λe=>evA e) he
   have hi':=Zh<|Z7 he;have hF:=Z4z e;rw[hP]at hF;refine⟨_,by simp only[go_sem,c34L0b,hg1,hg2,hi',hF];rfl,?_⟩
   simp only[go_sem])
  ⟨_,by simp only[go_sem,c34L0b,hg1,ZG];rfl,by simp only[go_sem]⟩
 rw[QE]at L;exact L
def ZAm(V:NL Ver)(most:Int)(hm:∀v∈V.l,v.bc.l.length<=140737488355328):pfn rE 34 [vsA V,I most]=some (.bool<|ZvT V.l most):=by
 have L:=QT (E:=rE) (live:=[0,1,5,6]) (b:=c34L1b) (h:=[]) (V.l.take 20) (ZvP V.l most) (λi=>[(0,vsA V),(1,I most),(5,I<|Zr8 V.l i),(6,I i)]) 0 (λfr=>get fr 0=vsA V) (λfr=>get fr 4=.bool false) (λi=>rfl)
  (λi v hx hP=>by
   obtain⟨hv,hi20⟩:V.l[i]?=some v/\i<20:=by
    have h1:=Z7 hx;rw[ZTd]at h1;rw[ZTg<|by omega]at hx
    exact⟨hx,by omega⟩
   have hlt:=Z7 hv;have hi':=Zh hlt;have h20:decide ((i:Int)<20)=true:=decide_eq_true<|by omega
   have hwr:=Zx (n:=i)<|by omega
   have hs:=Zwe hv;have hle:=Zx4 hm<|i+1;have hm1:=hm v<|ZSN hv;have hw2:IntKind.i64.wrap (((Zr8 V.l i:Nat):Int)+((v.bc.l.length:Nat):Int))=((Zr8 V.l (i+1):Nat):Int):=by
    rw[YM (by omega)<|by omega];omega
   have hg1:=Z6 (f:=Ver.enc) hv;have hev:v.enc=.agg [I v.Mv,I v.An,I v.At,.str v.Prev,.isl false v.bc.ex 18<|v.bc.l.map λe=>evA e,I v.Index,.isl false v.Sig.ex 1<|v.Sig.l.map encS,.isl false v.Path.ex 1<|v.Path.l.map encS]:=rfl
   rw[hev]at hg1;unfold ZvP at hP;rw[ZS5]at hP;have hd:decide (((Zr8 V.l (i+1):Nat):Int)>most)=false:=by simpa using hP.1
   obtain⟨fr',L0,h1,_⟩:=ZyG V most (Zr8 V.l<|i+1) v i hv hm1;rw[if_pos hP.2]at L0;have h1':=h1 hP.2;have L0':Zg rE [0,1,5,6,7] c34L0b [(0,vsA V),(1,I most),(5,I<|Zr8 V.l<|i+1),(6,I i),(7,.int .i64 0)] []=_:=L0;refine⟨_,by simp only[go_sem,c34L1b,c34L0,hg1,hi',h20,hwr,hw2,hd,L0',h1'];rfl,?_⟩
   simp only[go_sem])
  (λi v hx hP=>by
   obtain⟨hv,hi20⟩:V.l[i]?=some v/\i<20:=by
    have h1:=Z7 hx;rw[ZTd]at h1;rw[ZTg<|by omega]at hx
    exact⟨hx,by omega⟩
   have hlt:=Z7 hv;have hi':=Zh hlt;have h20:decide ((i:Int)<20)=true:=decide_eq_true<|by omega
   have hs:=Zwe hv;have hle:=Zx4 hm<|i+1;have hm1:=hm v<|ZSN hv;have hw2:IntKind.i64.wrap (((Zr8 V.l i:Nat):Int)+((v.bc.l.length:Nat):Int))=((Zr8 V.l (i+1):Nat):Int):=by
    rw[YM (by omega)<|by omega];omega
   have hg1:=Z6 (f:=Ver.enc) hv;have hev:v.enc=.agg [I v.Mv,I v.An,I v.At,.str v.Prev,.isl false v.bc.ex 18<|v.bc.l.map λe=>evA e,I v.Index,.isl false v.Sig.ex 1<|v.Sig.l.map encS,.isl false v.Path.ex 1<|v.Path.l.map encS]:=rfl
   rw[hev]at hg1;unfold ZvP at hP;cases hd:decide (((Zr8 V.l (i+1):Nat):Int)>most)with
   |true=>
    refine⟨_,by simp only[go_sem,c34L1b,c34L0,hg1,hi',h20,hw2,hd];rfl,?_⟩
    simp only[go_sem]
   |false=>
    have hP2:v.bc.l.all Xn=false:=by rw[hd]at hP;simpa using hP
    obtain⟨fr',L0,_,h2⟩:=ZyG V most (Zr8 V.l<|i+1) v i hv hm1;rw[hP2]at L0;have h2':=h2 hP2;have L0':Zg rE [0,1,5,6,7] c34L0b [(0,vsA V),(1,I most),(5,I<|Zr8 V.l<|i+1),(6,I i),(7,.int .i64 0)] []=some (.ret,fr',[]):=L0;refine⟨_,by simp only[go_sem,c34L1b,c34L0,hg1,hi',h20,hw2,hd,L0'];rfl,?_⟩
    simp only[go_sem,h2'])
  (by
   rw[ZTd];rcases ZSV V.l.length 20 with h|h
   .rw[Nat.min_eq_right<|by omega]
    exact⟨_,by simp only[go_sem,c34L1b,ZG];rfl,by simp only[go_sem]⟩
   .rw[Nat.min_eq_left h];have h20:decide (((20:Nat):Int)<20)=false:=rfl;cases c:decide (((20:Nat):Int)<((V.l.length:Nat):Int))with
    |true=>exact⟨_,by simp only[go_sem,c34L1b,c,h20];rfl,by simp only[go_sem]⟩
    |false=>exact⟨_,by simp only[go_sem,c34L1b,c];rfl,by simp only[go_sem]⟩)
 obtain⟨fr',L1,h0,h1⟩:=L;have L':Zg rE [0,1,5,6] c34L1b [(0,vsA V),(1,I most),(5,.int .i64 0),(6,.int .i64 0)] []=_:=L1;rw[Z5 (f:=34) rfl rfl];unfold ZvT;cases c:Zu (ZvP V.l most) 0 (V.l.take 20)with
 |true=>
  rw[c,if_pos rfl]at L';have h0':=h0 c;simp only[go_sem,c34,c34L1,L',h0']
 |false=>
  rw[c,if_neg Bool.false_ne_true]at L';have h1':=h1 c;simp only[go_sem,c34,c34L1,L',h1']
def ZAn(l:List Ver)(i:Nat):Zr8 l i<=Zr8 l l.length:=by
 unfold Zr8;rw[List.take_length]
 conv=>rhs;rw[<-ZSG i l]
 rw[ZTs,List.sum_append];omega
def ZAp{l:List Ver}{v:Ver}(h:v∈l):v.bc.l.length<=Zr8 l l.length:=by
 obtain⟨i,hi⟩:=ZTv.1 h;have h1:=Zwe hi;have h2:=ZAn l<|i+1;omega
def ZyH(l:List Ver)(bq bp:Int):∀i,(Zr7 l bq bp i).length<=Zr8 l i
 |0=>Nat.zero_le _
 |i+1=>by
  have ih:=ZyH l bq bp i;unfold Zr7;rw[ZSM];cases hv:l[i]? with
  |none=>
   have:Zr8 l (i+1)=Zr8 l i:=by unfold Zr8;rw[List.take_add_one,hv];simp
   show _+0<=_
   omega
  |some v=>
   have h1:=Zwe hv;have h2:=Zyu v bq i v.bc.l.length;show _+(bif Zvl l bp i v then Zr4 v bq i v.bc.l.length else []).length<=_
   cases Zvl l bp i v with
   |true=>rw[cond_true];omega
   |false=>rw[cond_false,ZT8];omega
def Zwf(l:List Ver)(bq bp:Int):(Zr3 l bq bp).length<=Zr8 l l.length:=by
 unfold Zr3;rw[(Zwc l _).length_eq];exact ZyH l bq bp l.length
structure FewS(l:List Ver):Prop where
 len:l.length<=20
 few:∀v∈l,∀e∈v.bc.l,Xn e=true
 sum:Zr8 l l.length<=16
def Zx5{l:List Ver}(h:ZvT l 16=true):FewS l:=by
 unfold ZvT at h;rw[ZS5]at h;have hl:l.length<=20:=by have:=of_decide_eq_true h.2;omega
 rw[ZSX hl]at h;have hA:∀(i:Nat)v,l[i]?=some v->ZvP l 16 i v=true:=λi v hv=>by
  have:=Zda.1 h.1 i v hv;simpa using this
 refine⟨hl,λv hv e he=>?_,?_⟩
 .obtain⟨i,hi⟩:=ZTv.1 hv;have:=hA i v hi;unfold ZvP at this;rw[ZS5]at this;exact ZSe.1 this.2 e he
 .rcases Nat.eq_zero_or_pos l.length with h0|h0
  .rw[h0];exact Nat.zero_le _
  .obtain⟨v,hv⟩:∃v,l[l.length-1]?=some v:=⟨_,ZSb<|by omega⟩
   have:=hA _ v hv;unfold ZvP at this;rw[ZS5,Nat.sub_add_cancel h0]at this;have h1:=of_decide_eq_false (by simpa using this.1:decide (((Zr8 l l.length:Nat):Int)>16)=false)
   omega
def FewS.vs{V:NL Ver}(h:FewS V.l):VsF V:=by
 refine⟨⟨by have:=h.len;omega,λv hv=>?_⟩,h.few⟩
 have h1:=ZAp hv;have h2:=h.sum;omega
def Zwg(V:NL Ver)(h:FewS V.l)(bq bp:Int):pfn rE 16 [vsA V,I bq,I bp]=some (.tup [stA (Zr5 V.l bq bp).1,.isl false false 1<|(Zr5 V.l bq bp).2.map I]):=by
 have h1:=Zwf V.l bq bp;have h2:=h.sum;exact ZyF V h.vs bq bp<|by omega
def ZCM(v w:Ver):Bool:=w.Mv==v.Mv&&w.An==v.An
def ZCN(l:List Ver)(i:Nat)(v:Ver):Bool:=(l.take i).all (λw=>!ZCM v w)
def ZCV(V:NL Ver)(hl:V.l.length<=1000)(i:Nat)(v:Ver)(hv:V.l[i]?=some v):pfn rE 47 [vsA V,I i]=some (.bool<|ZCN V.l i v):=by
 have hlt:=Z7 hv;have hgi:=Z6 (f:=Ver.enc) hv;have hev:∀v:Ver,v.enc=.agg [I v.Mv,I v.An,I v.At,.str v.Prev,.isl false v.bc.ex 18<|v.bc.l.map λe=>evA e,I v.Index,.isl false v.Sig.ex 1<|v.Sig.l.map encS,.isl false v.Path.ex 1<|v.Path.l.map encS]:=λ_=>rfl
 rw[hev]at hgi;have hll:(V.l.take i).length=i:=by rw[ZTd];omega
 have L:=Uf (E:=rE) (live:=[0,1,5]) (b:=c47L0b) (h:=[]) (V.l.take i) (λ_ w=>!ZCM v w) (λk=>[(0,vsA V),(1,I i),(5,I k)]) 0 (λfr=>get fr 4=.bool false) (λk=>rfl)
  (λk w hk hP=>by
   obtain⟨hw,hki⟩:V.l[k]?=some w/\k<i:=by
    have h1:=Z7 hk;rw[ZTg<|by omega]at hk
    exact⟨hk,by omega⟩
   have hg:=Z6 (f:=Ver.enc) hw;rw[hev]at hg;have hi':=Zh hki;have hwr:=Zx (n:=k)<|by omega
   unfold ZCM at hP;cases c1:w.Mv==v.Mv with
   |false=>
    refine⟨_,by simp only[go_sem,c47L0b,hgi,hg,hi',hwr,c1];rfl,?_⟩
    simp only[go_sem]
   |true=>
    rw[c1,ZSS,ZSy]at hP;refine⟨_,by simp only[go_sem,c47L0b,hgi,hg,hi',hwr,c1,hP];rfl,?_⟩
    simp only[go_sem])
  (λk w hk hP=>by
   obtain⟨hw,hki⟩:V.l[k]?=some w/\k<i:=by
    have h1:=Z7 hk;rw[ZTg<|by omega]at hk
    exact⟨hk,by omega⟩
   have hg:=Z6 (f:=Ver.enc) hw;rw[hev]at hg;have hi':=Zh hki;unfold ZCM at hP;rw[Bool.not_eq_false',ZS5]at hP;refine⟨_,by simp only[go_sem,c47L0b,hgi,hg,hi',hP.1,hP.2];rfl,?_⟩
   simp only[go_sem])
  (by rw[hll];exact⟨_,by simp only[go_sem,c47L0b,ZG];rfl⟩)
 obtain⟨fr',L1,h1⟩:=L;rw[QE]at L1 h1;have L':Zg rE [0,1,5] c47L0b [(0,vsA V),(1,I i),(5,.int .i64 0)] []=_:=L1;rw[Z5 (f:=47) rfl rfl];unfold ZCN;cases c:(V.l.take i).all (λw=>!ZCM v w)with
 |true=>
  rw[c,if_pos rfl]at L';simp only[go_sem,c47,c47L0,L']
 |false=>
  rw[c,if_neg Bool.false_ne_true]at L';have h1':=h1 c;simp only[go_sem,c47,c47L0,L',h1']
def ZCQ(l:List Ver):Bool:=Zu (ZCN l) 0 l
def ZD0(V:NL Ver)(hl:V.l.length<=1000):pfn rE 20 [vsA V]=some (.bool<|ZCQ V.l):=by
 have L:=Uf (E:=rE) (live:=[0,3]) (b:=c20L0b) (h:=[]) V.l (ZCN V.l) (λi=>[(0,vsA V),(3,I i)]) 0 (λfr=>get fr 2=.bool false) (λk=>rfl)
  (λi v hv hP=>by
   have hi':=Zh<|Z7 hv;have hwr:=Zx (n:=i) (by have:=Z7 hv;omega)
   have hF:=ZCV V hl i v hv;rw[hP]at hF;refine⟨_,by simp only[go_sem,c20L0b,hi',hwr,hF];rfl,?_⟩
   simp only[go_sem])
  (λi v hv hP=>by
   have hi':=Zh<|Z7 hv;have hF:=ZCV V hl i v hv;rw[hP]at hF;refine⟨_,by simp only[go_sem,c20L0b,hi',hF];rfl,?_⟩
   simp only[go_sem])
  ⟨_,by simp only[go_sem,c20L0b,ZG];rfl⟩
 obtain⟨fr',L1,h1⟩:=L;have L':Zg rE [0,3] c20L0b [(0,vsA V),(3,.int .i64 0)] []=_:=L1;rw[Z5 (f:=20) rfl rfl];unfold ZCQ;cases c:Zu (ZCN V.l) 0 V.l with
 |true=>
  rw[c,if_pos rfl]at L';simp only[go_sem,c20,c20L0,L']
 |false=>
  rw[c,if_neg Bool.false_ne_true]at L';have h1':=h1 c;simp only[go_sem,c20,c20L0,L',h1']
def ltE(l:List Ver)(p q:Nat×Nat):Prop:=lexB (evK l p) (evK l q)=true
def ZAs{l:List Ver}{L:List (Nat×Nat)}(h:Zwu l L):(ZvG l L).Pairwise (ltE l):=by
 have h1:=ZwI _<|ZyA h;rw[ZwY,List.pairwise_map]at h1;exact h1
def ZyN{l:List Ver}{p:Nat×Nat}:¬ltE l p p:=λh=>by unfold ltE at h;rw[Zwm]at h;cases h
def ZAt{l:List Ver}{a b:List (Nat×Nat)}(hp:a.Perm b)(h1:a.Pairwise<|ltE l)(h2:b.Pairwise<|ltE l):a=b:=
 List.Perm.eq_of_pairwise (le:=ltE l) (λx y _ _ q1 q2=>(ZyN (l:=l)<|ZvZ _ _ _ q1 q2).elim) h1 h2 hp
def ZD1{l l':List Ver}{C C':List (Nat×Nat)}(φ:Nat×Nat->Nat×Nat)(hd:Zwu l C)
 (mono:∀p∈C,∀q∈C,lexB (evK l p) (evK l q)=true->lexB (evK l'<|φ p) (evK l'<|φ q)=true)
 (hn:C'.Nodup) (hm:∀q,q∈C'↔∃p∈C,φ p=q):ZvG l' C'=(ZvG l C).map φ:=by
 have hdm:(C.map φ).Pairwise (λp q=>evK l' p≠evK l' q):=by
  rw[List.pairwise_map];refine List.Pairwise.imp_of_mem ?_ hd;intro p q hp hq hne he;cases c:lexB (evK l p) (evK l q)with
  |true=>
   have:=mono p hp q hq c;rw[he,Zwm]at this;cases this
  |false=>
   cases d:lexB (evK l q) (evK l p)with
   |true=>
    have:=mono q hq p hp d;rw[he,Zwm]at this;cases this
   |false=>exact hne<|Zwn _ _ c d
 have hnm:(C.map φ).Nodup:=hdm.imp<|λh e=>h<|by rw[e]
 have hperm:C'.Perm (C.map φ):=(List.perm_ext_iff_of_nodup hn hnm).2 λq=>by rw[hm,ZSP]
 have hdC':Zwu l' C':=hperm.symm.pairwise hdm<|λh=>h.symm
 refine ZAt (l:=l') (((Zwc l' C').trans hperm).trans ((Zwc l C).map φ).symm) (ZAs hdC') ?_;rw[List.pairwise_map];refine List.Pairwise.imp_of_mem ?_<|ZAs hd;intro p q hp hq h;exact mono p ((Zwc l C).mem_iff.1 hp) q ((Zwc l C).mem_iff.1 hq) h
structure Counts(l:List Ver)(bq bp:Int)(p:Nat×Nat)(v:Ver)(e:Gt):Prop where
 gv:l[p.1]?=some v
 ge:v.bc.l[p.2]?=some e
 day:e.Day<=bq
 at':v.At<=bp
 first:∀w∈l.take p.1,¬(w.Mv=v.Mv/\w.An=v.An)
def ZyO(l:List Ver)(bp:Int)(i:Nat)(v:Ver):Zvl l bp i v=true↔v.At<=bp/\∀w∈l.take i,¬(w.Mv=v.Mv/\w.An=v.An):=by
 unfold Zvl;rw[Zyw,ZS5,ZSy,List.any_eq_false,ZSy,decide_eq_false_iff_not];constructor
 .intro h;refine⟨by have:=h.2;omega,λw hw hc=>h.1 w hw ?_⟩
  rw[Zwt,hc.1,hc.2]
 .intro h;refine⟨λw hw hc=>h.2 w hw ?_,by have:=h.1;omega⟩
  rw[Zwt,Prod.mk.injEq]at hc;exact⟨hc.1.symm,hc.2.symm⟩
def ZyP{v:Ver}{bq:Int}{i n:Nat}{p:Nat×Nat}:p∈Zr4 v bq i n↔p.1=i/\p.2<n/\ZvS v bq p.2=true:=by
 unfold Zr4;rw[ZSP];constructor
 .rintro⟨k,hk,rfl⟩;have:=List.mem_filter.1 hk;exact⟨rfl,by simpa using this.1,this.2⟩
 .rintro⟨h1,h2,h3⟩;exact⟨p.2,List.mem_filter.2 ⟨by simpa using h2,h3⟩,by rw[<-h1]⟩
def ZyQ(l:List Ver)(bq bp:Int)(p:Nat×Nat):∀i,p∈Zr7 l bq bp i↔p.1<i/\∃v e,Counts l bq bp p v e
 |0=>by simp[Zr7]
 |i+1=>by
  unfold Zr7;rw[ZSz,ZyQ l bq bp p i];have key:(p∈(match l[i]? with|some v=>bif Zvl l bp i v then Zr4 v bq i v.bc.l.length else []|none=>[]))↔p.1=i/\∃v e,Counts l bq bp p v e:=by
   cases hv:l[i]? with
   |none=>
    constructor
    .intro h;cases h
    .rintro⟨h1,v,e,h2⟩;have:=h2.gv;rw[h1,hv]at this;cases this
   |some v=>
    show p∈(bif Zvl l bp i v then Zr4 v bq i v.bc.l.length else [])↔_
    constructor
    .intro h;cases ht:Zvl l bp i v with
     |false=>rw[ht]at h;cases h
     |true=>
      rw[ht,cond_true,ZyP]at h;obtain⟨h1,h2,h3⟩:=h;obtain⟨t1,t2⟩:=(ZyO l bp i v).1 ht;unfold ZvS at h3;rw[ZSb h2]at h3;refine⟨h1,v,_,⟨by rw[h1];exact hv,ZSb h2,of_decide_eq_true h3,t1,by rw[h1];exact t2⟩⟩
    .rintro⟨h1,w,e,h2⟩;have hw:=h2.gv;rw[h1,hv]at hw;cases hw;have ht:Zvl l bp i v=true:=(ZyO l bp i v).2 ⟨h2.at',by have:=h2.first;rwa[h1]at this⟩
     rw[ht,cond_true,ZyP];refine⟨h1,Z7 h2.ge,?_⟩;unfold ZvS;rw[h2.ge];exact decide_eq_true h2.day
  refine Iff.trans (or_congr Iff.rfl key) ?_;constructor
  .rintro(⟨h1,h2⟩|⟨h1,h2⟩)
   .exact⟨by omega,h2⟩
   .exact⟨by omega,h2⟩
  .rintro⟨h1,h2⟩;rcases Nat.lt_or_eq_of_le (Nat.le_of_lt_succ h1)with h|h
   .exact .inl ⟨h,h2⟩
   .exact .inr ⟨h,h2⟩
def ZAu(l:List Ver)(bq bp:Int)(p:Nat×Nat):p∈Zr7 l bq bp l.length↔∃v e,Counts l bq bp p v e:=by
 rw[ZyQ];exact⟨λh=>h.2,λ⟨v,e,h⟩=>⟨Z7 h.gv,v,e,h⟩⟩
def ZD2(l:List Ver)(bq bp:Int)(i:Nat):(Zr7 l bq bp i).Nodup:=(Zx0 l bq bp i).imp (λh e=>h<|by rw[e])
def ZvQ(l:List Ver)(bq bp:Int)(p:Nat×Nat):p∈Zr3 l bq bp↔∃v e,Counts l bq bp p v e:=by
 unfold Zr3;rw[(Zwc l _).mem_iff,ZAu]
def Counts.key{l:List Ver}{bq bp:Int}{p:Nat×Nat}{v:Ver}{e:Gt}(h:Counts l bq bp p v e):evK l p=[e.Day,v.At,v.Mv,v.An,(p.2:Int)]:=Zw4 h.gv h.ge
def Zvu(st:Sta×List Int)(x:Int×Gt):Sta×List Int:=(Zvx st.1 x.1 x.2,st.2++[Zvw st.1 x.1 x.2])
def Zvv(l:List Ver)(p:Nat×Nat):Option (Int×Gt):=match l[p.1]? with
 |some v=>(match v.bc.l[p.2]? with|some e=>some (v.Mv,e)|none=>none)
 |none=>none
def stD(D:List<|Int×Gt):Sta×List Int:=D.foldl Zvu (Yh,[])
def ZyU(l:List Ver):∀(O:List<|Nat×Nat)(st:Sta×List Int),O.foldl (Zvi l) st=(O.filterMap<|Zvv l).foldl Zvu st
 |[],_=>rfl
 |p::r,st=>by
  rw[ZTj,List.filterMap_cons,ZyU l r];unfold Zvi Zvv;cases l[p.1]? with
  |none=>rfl
  |some v=>
   dsimp only;cases v.bc.l[p.2]? with
   |none=>rfl
   |some e=>rfl
def Zww(l:List Ver)(bq bp:Int):Zr5 l bq bp=stD ((Zr3 l bq bp).filterMap (Zvv l)):=ZyU l _ _
def ZAv{l:List Ver}{p:Nat×Nat}{v:Ver}{e:Gt}(h1:l[p.1]?=some v)(h2:v.bc.l[p.2]?=some e):Zvv l p=some (v.Mv,e):=by
 unfold Zvv;rw[h1];simp only[h2]
def ZCO(l:List Ver):Prop:=∀(i j:Nat)v w,l[i]?=some v->l[j]?=some w->v.Mv=w.Mv->v.An=w.An->i=j
def ZD3{l:List Ver}(h:ZCQ l=true):ZCO l:=by
 have h1:=Zda.1 h;have key:∀(i j:Nat)v w,i<j->l[i]?=some v->l[j]?=some w->v.Mv=w.Mv->v.An=w.An->False:=by
  intro i j v w hij hv hw ha hn;have:=h1 j w hw;rw[ZSa]at this;unfold ZCN at this;have:=ZSe.1 this v<|by rw[ZTv];exact⟨i,by rw[ZTg hij];exact hv⟩
  unfold ZCM at this;rw[ha,hn]at this;simp at this
 intro i j v w hv hw ha hn;rcases ZU3 i j with h|h|h
 .exact(key i j v w h hv hw ha hn).elim
 .exact h
 .exact(key j i w v h hw hv ha.symm hn.symm).elim
def ZAz{α:Type}{l:List α}{n:Nat}{x:α}(h:x∈l.take n):∃i,i<n/\l[i]?=some x:=by
 obtain⟨i,hi⟩:=ZTv.1 h;have h1:=Z7 hi;rw[ZTd]at h1;rw[ZTg<|by omega]at hi
 exact⟨i,by omega,hi⟩
def ZV6{α:Type}:∀{l:List α}{v:α},v∈l->∃i:Nat,l[i]?=some v/\∀j:Nat,j<i->l[j]?≠some v
 |x::r,v,h=>by
  by_cases e:x=v
  .exact⟨0,by rw[e];rfl,λj hj=>by omega⟩
  .obtain⟨i,h1,h2⟩:=ZV6 (l:=r) (v:=v) ((ZSc.1 h).resolve_left λk=>e k.symm)
   refine⟨i+1,h1,λj hj=>?_⟩
   cases j with
   |zero=>intro k;exact e<|Option.some.inj k
   |succ j=>exact h2 j<|by omega
def ZCW{α β:Type}{f g:α->Option β}:∀{L:List α},(∀x∈L,f x=g x)->L.filterMap f=L.filterMap g
 |[],_=>rfl
 |x::r,h=>by rw[List.filterMap_cons,List.filterMap_cons,h x<|ZSO ..,ZCW<|λy hy=>h y<|ZSW _ hy]
def ZD4{l l':List Ver}{v v' k k':Int}{φ:Nat×Nat->Nat×Nat}(ho:Zr3 l' v' k'=(Zr3 l v k).map φ)(hd:∀p∈Zr3 l v k,Zvv l' (φ p)=Zvv l p):Zr5 l' v' k'=Zr5 l v k:=by
 rw[Zww,Zww,ho,List.filterMap_map];congr 1;exact ZCW λp hp=>hd p hp
open Classical in
noncomputable def ixW(l:List Ver)(v:Ver):Nat:=if h:v∈l then Classical.choose (ZV6 h)else 0
def ZVb{l:List Ver}{v:Ver}(h:v∈l):l[ixW l v]?=some v/\∀j,j<ixW l v->l[j]?≠some v:=by
 unfold ixW;rw[dif_pos h];exact Classical.choose_spec<|ZV6 h
noncomputable def whP(l l':List Ver)(p:Nat×Nat):Nat×Nat:=match l[p.1]? with
 |some v=>(ixW l' v,p.2)
 |none=>p
def ZV3{l l':List Ver}{p:Nat×Nat}{v:Ver}(h:l[p.1]?=some v):whP l l' p=(ixW l' v,p.2):=by
 unfold whP;rw[h]
structure SameK(l l':List Ver)(bp:Int):Prop where
 to:∀v∈l,v.At<=bp->v∈l'
 of:∀v∈l',v∈l
def ZVi{l:List Ver}(hd:ZCO l){v w:Ver}(hv:v∈l)(hw:w∈l)(h:w.Mv=v.Mv/\w.An=v.An):w=v:=by
 obtain⟨i,hi⟩:=ZTv.1 hv;obtain⟨j,hj⟩:=ZTv.1 hw;have:=hd _ _ _ _ hj hi h.1 h.2;subst this;exact Option.some.inj<|hj.symm.trans hi
def ZV4{l l':List Ver}{bq bp:Int}(hd:ZCO l)(hk:SameK l l' bp){p:Nat×Nat}{v:Ver}{e:Gt}(h:Counts l bq bp p v e):Counts l' bq bp (whP l l' p) v e:=by
 have hm:=hk.to v (ZSN h.gv) h.at';obtain⟨h1,h2⟩:=ZVb hm;rw[ZV3 h.gv];refine⟨h1,h.ge,h.day,h.at',λw hw hc=>?_⟩
 obtain⟨j,hj,hwj⟩:=ZAz hw;have:=ZVi hd (ZSN h.gv) (hk.of w<|ZSN hwj) hc;subst this;exact h2 j hj hwj
def ZVc{l l':List Ver}{bq bp:Int}(hd:ZCO l)(hk:SameK l l' bp):Zr3 l' bq bp=(Zr3 l bq bp).map (whP l l'):=by
 unfold Zr3;refine ZD1 (whP l l') (Zx0 ..) ?_ (ZD2 ..) ?_
 .intro p hp q hq h;obtain⟨v,e,h1⟩:=(ZAu ..).1 hp;obtain⟨w,f,h2⟩:=(ZAu ..).1 hq;rw[h1.key,h2.key]at h;rw[(ZV4 hd hk h1).key,(ZV4 hd hk h2).key,ZV3 h1.gv,ZV3 h2.gv];exact h
 .intro q;rw[ZAu];constructor
  .rintro⟨v,e,h⟩;have hl:=hk.of v<|ZSN h.gv;obtain⟨i,hi⟩:=ZTv.1 hl;refine⟨(i,q.2),(ZAu ..).2 ⟨v,e,hi,h.ge,h.day,h.at',λw hw hc=>?_⟩,?_⟩
   .obtain⟨j,hj,hwj⟩:=ZAz hw;have:=hd _ _ _ _ hwj hi hc.1 hc.2;dsimp only at hj;omega
   .rw[ZV3 (p:=(i,q.2)) hi];obtain⟨h1,h2⟩:=ZVb<|ZSN h.gv;have e1:¬q.1<ixW l' v:=λk=>h2 _ k h.gv
    have e2:¬ixW l' v<q.1:=λk=>h.first v (by rw[ZTv];exact⟨_,by rw[ZTg k];exact h1⟩) ⟨rfl,rfl⟩
    rw[Prod.ext_iff];exact⟨by dsimp only;omega,rfl⟩
  .rintro⟨p,hp,rfl⟩;obtain⟨v,e,h1⟩:=(ZAu ..).1 hp;exact⟨v,e,ZV4 hd hk h1⟩
def ZVd{l l':List Ver}{bq bp:Int}(hd:ZCO l)(hk:SameK l l' bp):Zr5 l' bq bp=Zr5 l bq bp:=by
 refine ZD4 (ZVc hd hk) λp hp=>?_
 obtain⟨v,e,h⟩:=(ZvQ ..).1 hp;have h2:=ZV4 hd hk h;rw[ZAv h.gv h.ge,ZAv h2.gv h2.ge]
def ZVe{l l':List Ver}(h:FewS l)(hl:l'.length<=40)(ho:∀v∈l',v∈l):VsF ⟨false,l'⟩:=
 ⟨⟨by show l'.length<=100;omega,λv hv=>h.vs (V:=⟨false,l⟩) |>.s.evs v (ho v hv)⟩,λv hv e he=>h.few v (ho v hv) e he⟩
def ZVf{l l':List Ver}{bq bp:Int}(h:FewS l)(hd:ZCO l)(hk:SameK l l' bp):(Zr3 l' bq bp).length<=16:=by
 rw[ZVc hd hk,ZSf];have:=Zwf l bq bp;have:=h.sum;omega
end Go.AM
namespace Go.AM
open Go
def Z4M(E:Env)(hf:E.fn 44=some a44)(hs:E.sum 44=none)(v:Str):pfn E 44 [.str v]=some (.str v):=by
 rw[Z5 (f:=44) hs hf];simp only[go_sem,c44]
def ZGM(E:Env)(hf:E.fn 46=some a46)(hs:E.sum 46=none)(v:Str)(a b:Int):pfn E 46 [.agg [.str v,I a,I b]]=some (.str v):=by
 rw[Z5 (f:=46) hs hf];simp only[go_sem,c46]
def ZFO(v:Str):pfn e0 179 [.str v]=some (.bool false):=by
 have hn:Z3 v v=true:=by unfold Z3;simp
 rw[Z5 (f:=179) rfl rfl];simp only[go_sem,c179,hn,ZSF]
def ZEA(a b:Str):WW a b=decide (a.data.toList<b.data.toList):=by
 unfold WW;rw[Go.Proofs.bytesLess_eq]
def ZFP(a b:Str):pfn e0 99 [.str a,.str b]=some (I<|ZEg a.data.toList b.data.toList):=by
 have h1:=ZFO a;have h2:=ZFO b;unfold ZEg;rw[<-ZEA,<-ZEA];rw[Z5 (f:=99) rfl rfl];cases c:WW a b with
 |true=>simp only[go_sem,c99,h1,h2,c]
 |false=>
  cases c2:WW b a with
  |true=>
   have c3:Z3 a b=false:=by
    cases h:Z3 a b with
    |false=>rfl
    |true=>
     exfalso;have he:a.data.toList=b.data.toList:=by unfold Z3 at h;simpa using h
     rw[ZEA,he,decide_eq_true_iff]at c2;exact List.lt_irrefl _ c2
   simp only[go_sem,c99,h1,h2,c,c3,ZSw,ZTE]
  |false=>
   have c3:Z3 a b=true:=by
    rw[ZEA,decide_eq_false_iff_not]at c c2;unfold Z3;simp only[beq_iff_eq];exact List.le_antisymm c2 c
   simp only[go_sem,c99,h1,h2,c,c3,ZSF,ZTF]
def ZEa(k:Nat):AV:=.clo (.func k) [] []
def ZFQ{k:Nat}{caps:List AV}(h:ckS k caps=true):caps=[.iptr false [ZEa k]]:=by
 unfold ckS at h;split at h
 .rw[ZTa h];rfl
 .cases h
def ZRn(caps:List AV)(x y:List UInt8)(h:ckS 44 caps=true):∃h',fnV e0 98 ([Qd x,Qd y]++caps) []=some (.int .i64<|ZEg x y,h'):=by
 obtain rfl:=ZFQ h;have h1:=Z4M e0 rfl rfl;have h2:=ZFP ⟨x.toArray⟩ ⟨y.toArray⟩;simp only[List.toList_toArray]at h2;unfold Qd ZEa;rw[Q6 (f:=98) rfl rfl];simp only[ZSr,ZT1];exact⟨_,by simp only[go_sem,c98,h1,h2];rfl⟩
def ZE4(s:Str):List Int:=s.data.toList.map λb=>(b.toNat:Int)
def ZEM:∀x y:List UInt8,lexB (x.map λb=>(b.toNat:Int)) (y.map λb=>(b.toNat:Int))=decide (x<y)
 |[],[]=>by simp[lexB]
 |[],_::_=>by simp[lexB]
 |_::_,[]=>by simp[lexB]
 |a::r,b::s=>by
  simp only[ZS9,lexB,ZEM r s];rw[ZTD];simp only[ZT0,ZS5,decide_eq_true_eq,beq_iff_eq,List.cons_lt_cons_iff,UInt8.lt_iff_toNat_lt,<-UInt8.toNat_inj,Int.ofNat_lt,Int.natCast_inj]
def ZGO(x y:List UInt8):cmpL (x.map λb=>(b.toNat:Int)) (y.map λb=>(b.toNat:Int))=ZEg x y:=by
 unfold cmpL ZEg;rw[ZEM,ZEM]
def ZFR{caps:List AV}{x:AV}{k:List Int}(h:ZEm caps x=some k):caps=[.iptr false [ZEa 46]]/\∃(s:Str)(a b:Int),x=.agg [.str s,I a,I b]/\k=ZE4 s:=by
 unfold ZEm at h;cases hc:ckS 46 caps with
 |false=>rw[hc]at h;cases h
 |true=>
  rw[hc,cond_true]at h;refine⟨ZFQ hc,?_⟩;unfold ZEf at h;split at h
  .cases h;exact⟨_,_,_,rfl,rfl⟩
  .cases h
def ZRo(caps:List AV)(x y:AV)(kx ky:List Int)(hx:ZEm caps x=some kx)(hy:ZEm caps y=some ky):∃h',fnV e0 101 ([x,y]++caps) []=some (.int .i64<|cmpL kx ky,h'):=by
 obtain⟨rfl,s,a,b,rfl,rfl⟩:=ZFR hx;obtain⟨_,t,a',b',rfl,rfl⟩:=ZFR hy;have h1:=ZGM e0 rfl rfl;have h2:=ZFP s t;unfold ZE4 ZEa;rw[ZGO,Q6 (f:=101) rfl rfl];simp only[ZSr,ZT1];exact⟨_,by simp only[go_sem,c101,h1,h2];rfl⟩
def ZFS{h:Hp}{b:Nat}{o o2:AObj}(hb:h[b]?=some o2):(setH h b o).length=h.length:=by
 have hl:b<h.length:=(ZS7.1 hb).1;unfold setH;rw[show Nat.blt b h.length=true by simpa using hl,cond_true,ZT3]
def ZE5{n:Nat}{fr:Fr}{h:Hp}(hl:h.length=n):Xq n fr h=h:=by
 unfold Xq;rw[ZSX<|by omega]
 cases Zd n (fr.map (·.2))&&X4 n h<;>rfl
def ZRp(args:List AV)(h:Hp)(v:AV)(wr:Option<|Nat×AObj)(he:ZE8 (ZE7 44) h args=some (v,wr)):fnV e1 43 args h=some (v,ZH h wr):=by
 unfold ZE8 at he;split at he
 .rename_i b g off len ex r;split at he
  .rename_i sz es hb;cases hc:es.length==g&&(off==0&&(len==g&&noP r))with
   |false=>rw[hc]at he;cases he
   |true=>
    rw[hc,cond_true]at he;simp only[ZS8]at he;obtain⟨es',h1,h2⟩:=he;cases h2;unfold ZE7 at h1;split at h1
    .rename_i k;cases hc2:Nat.beq k 44&&(sz==1&&(es.all WB&&Nat.ble es.length 1000000))with
     |false=>rw[hc2]at h1;cases h1
     |true=>
      rw[hc2]at h1;cases h1;simp only[ZS5,beq_iff_eq]at hc hc2;obtain⟨c1,rfl,c3,c4⟩:=hc2;obtain rfl:=ZTa c1;obtain⟨rfl,rfl,rfl,_⟩:=hc;have hs:fnV e1 97 [.sl b es.length 0 es.length ex,.clo (.func 98) [] [.iptr false [.clo (.func 44) [] []]]] h=some (.tup [],setH h b<|.row 1<|Yk es):=by
       rw[V8 (s:=ZEt 98<|ckS 44) rfl];unfold ZEt;simp only[hb,c3,c4,beq_self_eq_true,ZSS,ZSu];rfl
      rw[Q6 (f:=43) rfl rfl];simp only[go_sem,c43,hs,ZH,ZE5<|ZFS hb]
    .cases h1
  .cases he
 .rename_i bw ex sz r;cases hn:noP r with
  |false=>rw[hn]at he;cases he
  |true=>
   rw[hn,cond_true]at he;split at he
   .rename_i h1;cases he;unfold ZE7 at h1;split at h1
    .rename_i k;have hs:∀sz,fnV e1 97 [.isl bw ex sz [],.clo (.func 98) [] [.iptr false [.clo (.func k) [] []]]] h=some (.tup [],h):=λsz=>by
      rw[V8 (s:=ZEt 98<|ckS 44) rfl];rfl
     rw[Q6 (f:=43) rfl rfl];simp only[go_sem,c43,hs,ZH,ZE5 (h:=h) rfl]
    .cases h1
   .cases he
 .rename_i b r;split at he
  .rename_i sz e sz2 es ks vs _ _ _;cases hk:Z4 ks&&Z4 vs with
   |false=>rw[hk]at he;cases he
   |true=>
    rw[hk,cond_true]at he;have hnone:∀{k:Nat}{x y:List AV}{z:Nat},ZE7 44 (.ptr k 0 0 z::r) sz x=some y->False:=λh=>by
     cases r<;>simp[ZE7]at h
    split at he
    .rename_i hh;exact(hnone hh).elim
    .cases he
  .cases he
 .cases he
def ZRq(args:List AV)(h:Hp)(v:AV)(wr:Option<|Nat×AObj)(he:ZE8 (ZEe 46 3 ZEf) h args=some (v,wr)):fnV e1 45 args h=some (v,ZH h wr):=by
 unfold ZE8 at he;split at he
 .rename_i b g off len ex r;split at he
  .rename_i sz es hb;cases hc:es.length==g&&(off==0&&(len==g&&noP r))with
   |false=>rw[hc]at he;cases he
   |true=>
    rw[hc,cond_true]at he;simp only[ZS8]at he;obtain⟨es',h1,h2⟩:=he;cases h2;unfold ZEe at h1;split at h1
    .rename_i k;split at h1
     .rename_i l hl;cases hc2:Nat.beq k 46&&(sz==3&&(Z4 es&&(es.all Zwl&&(es.all (fits 3)&&(ZvJ l&&Nat.ble es.length 1000000)))))with
      |false=>rw[hc2]at h1;cases h1
      |true=>
       rw[hc2]at h1;cases h1;simp only[ZS5,beq_iff_eq]at hc hc2;obtain⟨c1,rfl,c3,c4,c5,c6,c7⟩:=hc2;obtain rfl:=ZTa c1;obtain⟨rfl,rfl,rfl,_⟩:=hc;have hs:fnV e1 100 [.sl b es.length 0 es.length ex,.clo (.func 101) [] [.iptr false [.clo (.func 46) [] []]]] h=some (.tup [],setH h b (.row 3 ((ZvN l).map (·.2)))):=by
        rw[V8 (s:=ZvW 101 3 ZEm) rfl];unfold ZvW;have hk:keysOf (ZEm [.iptr false [.clo (.func 46) [] []]]) es=some l:=hl;cases es with
        |nil=>
         cases hl;simp only[hb];have e1:setH h b (.row 3 [])=h:=RT hb;exact congrArg some<|Prod.ext rfl e1.symm
        |cons a r=>
         simp only[hb,hk,c3,c4,c5,c6,c7,beq_self_eq_true,ZSS,ZSu,List.isEmpty_cons,cond_false,ZSw];rfl
       rw[Q6 (f:=45) rfl rfl];simp only[go_sem,c45,hs,ZH,ZE5<|ZFS hb]
     .cases h1
    .cases h1
  .cases he
 .rename_i bw ex sz r;cases hn:noP r with
  |false=>rw[hn]at he;cases he
  |true=>
   rw[hn,cond_true]at he;split at he
   .rename_i h1;cases he;unfold ZEe at h1;split at h1
    .rename_i k;have hs:∀sz,fnV e1 100 [.isl bw ex sz [],.clo (.func 101) [] [.iptr false [.clo (.func k) [] []]]] h=some (.tup [],h):=λsz=>by
      rw[V8 (s:=ZvW 101 3 ZEm) rfl];rfl
     rw[Q6 (f:=45) rfl rfl];simp only[go_sem,c45,hs,ZH,ZE5 (h:=h) rfl]
    .cases h1
   .cases he
 .rename_i b r;split at he
  .rename_i sz e sz2 es ks vs _ _ _;cases hk:Z4 ks&&Z4 vs with
   |false=>rw[hk]at he;cases he
   |true=>
    rw[hk,cond_true]at he;have hnone:∀{k:Nat}{x y:List AV}{z:Nat},ZEe 46 3 ZEf (.ptr k 0 0 z::r) sz x=some y->False:=λh=>by
     cases r<;>simp[ZEe]at h
    split at he
    .rename_i hh;exact(hnone hh).elim
    .cases he
  .cases he
 .cases he
variable [REdz]
def ffr(t:AV):Fr:=[(4,.ptr 0 0 0 1),(5,I 0),(7,.ptr 3 0 0 1),(19,t)]
def fP(lp:AObj)(D E:List AV)(tl:List AObj):List AObj:=
 .row 2 [.agg [.isl false false 1 [],.isl false false 3 []]]::.row 1 D::.row 3 E::.row 2 [.agg [.sl 1 D.length 0 D.length false,.sl 2 E.length 0 E.length false]]::lp::tl
def feL(st:LoopState)(t:AV):AObj:=.loop st .normal (ffr t) [20] c17R0a c17R0b
def ZEp(h:Hp)(x y:AObj):setH (h++[x]) h.length y=h++[y]:=by
 unfold setH;rw[show Nat.blt h.length (h++[x]).length=true by simp,cond_true,List.set_append_right _ _<|ZS6 _]
 simp
def ZGS(t:AV)(d:Ga)(lp:AObj)(D E:List AV)(tl:List AObj):Zb rE c17R0a ((20,d.enc)::ffr t) (fP lp D E tl)=some (.normal,(8,.ptr (tl.length+5) 0 0 1)::(20,d.enc)::ffr t,fP lp D E<|tl++[.row 16 [d.enc]]):=by
 simp only[go_sem,c17R0a,fP,ffr,Ga.enc,NL.enc,ZSr,ZSl,ZEp]
def ZEx{n:Nat}{h:Hp}{b:Bool}(hl:h.length=n):trimB n h b=h:=by
 unfold trimB;cases b with
 |true=>rw[cond_true,ZSX<|by omega]
 |false=>rfl
def ZF2(r0 r1 r2 r3 r4 x:AObj)(tl:List AObj)(b:Bool):trimB (tl.length+1+1+1+1+1+1) (r0::r1::r2::r3::r4::(tl++[x])) b=r0::r1::r2::r3::r4::(tl++[x]):=ZEx<|by simp
def faD(d:Ga)(D:List AV):List AV:=bif decide (d.Ld<0)then D++[.str d.Id]else D
def ZEB(d:Ga):AV:=.agg [.str d.Id,I d.Why,I d.Ld]
def faE(d:Ga)(E:List AV):List AV:=bif !decide (d.Ld<0)&&d.After.l.isEmpty then E++[ZEB d]else E
def ZGT(t:AV)(d:Ga)(lp:AObj)(D E:List AV)(tl:List AObj)(h1:D.length<=1000)(h2:E.length<=1000):Zb rE c17R0b ((8,.ptr (tl.length+5) 0 0 1)::(20,d.enc)::ffr t) (fP lp D E<|tl++[.row 16 [d.enc]]) =
 some (.normal,[],fP lp (faD d D) (faE d E)<|tl++[.row 16 [d.enc]]):=by
 have a1:=λ(r0 r2 r3 r4:AObj)(tl:List AObj)=>XC (h:=r0::.row 1 D::r2::r3::r4::tl) (fz:=false) (b:=1) (g:=D.length) (sz:=1) (es:=D) (bw:=false) (ex:=false) (ys:=[.str d.Id]) (bytes:=16) (by simp[rowAt]) rfl (by rfl) (by omega) (by omega) (by simp;omega)
 have a2:=λ(r0 r1 r3 r4:AObj)(tl:List AObj)=>XC (h:=r0::r1::.row 3 E::r3::r4::tl) (fz:=false) (b:=2) (g:=E.length) (sz:=3) (es:=E) (bw:=false) (ex:=false) (ys:=[ZEB d]) (bytes:=32) (by simp[rowAt]) rfl (by rfl) (by omega) (by omega) (by simp;omega)
 unfold ZEB at a2;unfold faD faE;cases c:decide (d.Ld<0)with
 |true=>simp only[go_sem,c17R0b,fP,ffr,Ga.enc,NL.enc,ZSr,ZSl,ZF2,c,a1,ZSM,ZT8,ZSF,Bool.false_and]
 |false=>
  cases c2:d.After.l with
  |nil=>
   have z0:(((0:Nat):Int)==0)=true:=rfl;simp only[go_sem,z0,c17R0b,fP,ffr,Ga.enc,NL.enc,ZSr,ZSl,ZF2,c,c2,a2,ZEB,ZSM,ZT8,ZSw,ZSS,List.isEmpty_nil,ZSA]
  |cons a r=>
   have hz:(((r.length+1:Nat):Int)==0)=false:=by
    rw[beq_eq_false_iff_ne];omega
   simp only[go_sem,c17R0b,fP,ffr,Ga.enc,NL.enc,ZSl,ZF2,c,c2,hz,ZSM,ZT8,ZSw,ZSS,List.isEmpty_cons,ZS9,ZSf]
def ZGU(t:AV)(d:Ga)(D E:List AV)(tl:List AObj)(h1:D.length<=1000)(h2:E.length<=1000):
 U4 rE 4 [d.enc] (fP (feL .ready t) D E tl)=some (.bool true,fP (feL .ready t) (faD d D) (faE d E)<|tl++[.row 16 [d.enc]]):=by
 have h:=Ss (E:=rE) (b:=4) (args:=[d.enc]) (h:=fP (feL .ready t) D E tl) (fr:=ffr t) (ps:=[20]) (assign:=c17R0a) (body:=c17R0b)
  (fr0:=(20,d.enc)::ffr t) rfl rfl (ZGS t d (feL .ready t) D E tl) (h1:=fP (feL .ready t) D E<|tl++[.row 16 [d.enc]]) rfl
  (e:=.normal) (fr2:=[]) (h2:=fP (feL .busy t) (faD d D) (faE d E)<|tl++[.row 16 [d.enc]]) (ZGT t d (feL .busy t) D E tl h1 h2) rfl
 exact h
def ZDZ(Lv:AV)(L:List Str)(tl:List AObj):Prop:=
 ∃bl g off ex es,Lv=.sl (bl+6) g off L.length ex/\tl[bl]?=some (.row 1 es)/\es.length=g/\off+L.length=g/\es.drop off=L.map encS
def TC'(tl:List AObj):Prop:=∀n,X4 n tl=true
def ZEu:∀(n:Nat)(a b:List AObj),X4 n (a++b)=(X4 n a&&X4 n b)
 |_,[],b=>by simp[X4]
 |n,x::a,b=>by simp[X4,ZEu n a b,ZTG]
def ZEN{n:Nat}:∀{a:List AObj}{i:Nat}{x:AObj},X4 n a=true->Zj n x=true->X4 n (a.set i x)=true
 |[],_,_,h,_=>h
 |y::a,0,x,h,hx=>by
  simp only[List.set_cons_zero,X4,ZS5]at h⊢;exact⟨hx,h.2⟩
 |y::a,i+1,x,h,hx=>by
  simp only[List.set_cons_succ,X4,ZS5]at h⊢;exact⟨h.1,ZEN h.2 hx⟩
def ZEv(n:Nat):∀L:List Str,Zd n (L.map encS)=true
 |[]=>rfl
 |x::r=>by simp only[ZS9,Zd,ZEv n r,ZSu];rfl
def ZEC{h:Hp}{b:Nat}{o:AObj}(hb:b<h.length):setH h b o=h.set b o:=by
 unfold setH;rw[show Nat.blt b h.length=true by simpa using hb,cond_true]
def ZF3(h:Hp)(x:AObj):(h++[x])[h.length]?=some x:=by simp
def ZGV(p0 p1 p2 p3 p4 p5:AObj){Lv:AV}{L:List Str}{tl:List AObj}(x:Str)(hL:ZDZ Lv L tl)(hc:TC' tl)(hn:L.length<=1000):
 ∃tl',tl'.length=tl.length/\TC' tl'/\ZE9 (p0::p1::p2::p3::p4::p5::tl) 1 16 Lv (.isl false false 1 [.str x]) =
  some (.sl (tl.length+6) (L.length+1) 0 (L.length+1) false,p0::p1::p2::p3::p4::p5::(tl'++[.row 1<|(L++[x]).map encS])):=by
 obtain⟨bl,g,off,ex,es,rfl,hb,hg,hoff,hes⟩:=hL;have hlt:bl<tl.length:=(ZS7.1 hb).1;have hbb:(p0::p1::p2::p3::p4::p5::tl)[bl+6]?=some (.row 1 es):=by simpa using hb
 have hmap:(L++[x]).map encS=es.drop off++[.str x]:=by rw[ZTs,hes];rfl
 cases ex with
 |true=>
  refine⟨tl,rfl,hc,?_⟩;have hel:Q2 (p0::p1::p2::p3::p4::p5::tl) (.sl (bl+6) g off L.length true)=some (es.drop off):=by
   simp only[Q2,hbb,hg,beq_self_eq_true,cond_true];rw[ZSX<|by simp;omega]
  have hz:Qq (p0::p1::p2::p3::p4::p5::tl) 1 (.sl (bl+6) g off L.length true)=true:=by simp only[Qq,hbb];rfl
  have hl2:(es.drop off++[AV.str x]).length=L.length+1:=by simp;omega
  have hbd:((es.drop off).length+1)*16<=140737488355328:=by simp;omega
  have he:Qt (p0::p1::p2::p3::p4::p5::tl) (p0::p1::p2::p3::p4::p5::tl).length false 1 16 (.sl (bl+6) g off L.length true) (.isl false false 1 [.str x]) =
   some (.sl (p0::p1::p2::p3::p4::p5::tl).length (es.drop off++[AV.str x]).length 0 (es.drop off++[AV.str x]).length false,[bl+6],some ((p0::p1::p2::p3::p4::p5::tl).length,.row 1<|es.drop off++[.str x])):=by
   unfold Qt;rw[hel];dsimp only[Q2];rw[if_pos ⟨hz,rfl,Nat.zero_lt_one,by decide,hbd⟩]
   rfl
  unfold ZE9;dsimp only;rw[he,hmap,hl2];have e:setH (p0::p1::p2::p3::p4::p5::tl) (p0::p1::p2::p3::p4::p5::tl).length (.row 1<|es.drop off++[.str x])=p0::p1::p2::p3::p4::p5::(tl++[.row 1<|es.drop off++[.str x]]):=by
   rw[J1];rfl
  exact congrArg some<|Prod.ext rfl e
 |false=>
  refine⟨tl.set bl .gone,by simp,λn=>ZEN (hc n) rfl,?_⟩
  have hz:Qq (p0::p1::p2::p3::p4::p5::tl) 1 (.isl false false 1 [.str x])=true:=rfl;have hcond:((es.length==g&&(1==1))&&((off+L.length==g)&&(Qq (p0::p1::p2::p3::p4::p5::tl) 1 (.isl false false 1 [.str x])&&(([AV.str x]:List AV).all (fits 1)&&(Nat.blt 0 ([AV.str x]:List AV).length&&(Nat.blt 0 1&&(Nat.blt 0 16&&Nat.ble ((L.length+([AV.str x]:List AV).length)*16) 140737488355328)))))))=true:=by
   simp only[hg,hoff,hz,beq_self_eq_true,ZSS,ZSu];have:(L.length+([AV.str x]:List AV).length)*16<=140737488355328:=by simp;omega
   have e2:Nat.ble ((L.length+([AV.str x]:List AV).length)*16) 140737488355328=true:=ZT2 this;rw[e2];rfl
  unfold ZE9;simp only[hbb,Q2,hcond,cond_true];rw[ZEC (by simp;omega),hmap]
  rfl
def wkS(s:List Str×List Str)(x:Str):List Str×List Str:=bif s.1.any (Z3 x)then s else(s.1++[x],s.2++[x])
def ZGW(s:List Str×List Str)(x:Str):(wkS s x).2.length<=s.2.length+1:=by
 unfold wkS;cases s.1.any (Z3 x)<;>simp
def ZF4:∀(l:List Str)(s:List Str×List Str),(l.foldl wkS s).2.length<=s.2.length+l.length
 |[],s=>by simp
 |x::r,s=>by
  have h1:=ZF4 r<|wkS s x;have h2:=ZGW s x;simp only[ZTj,ZSl];omega
def ZED(p0 p1 p2 p3 p4 p5:AObj)(tl:List AObj)(b:Bool):trimB (tl.length+1+1+1+1+1+1) (p0::p1::p2::p3::p4::p5::tl) b=p0::p1::p2::p3::p4::p5::tl:=ZEx<|by simp
def kM(K:List Str):AObj:=.map (K.map encS)<|ZO K.length
def ZGX(p0 p1 p2 p3 p4:AObj)(G:AV)(ex:Bool)(l:List Str)(s0:List Str×List Str)(Lv0:AV)(tl0:List AObj)(hL0:ZDZ Lv0 s0.2 tl0)(hc0:TC' tl0)(hn:s0.2.length+l.length<=1000):
 ∃fr' Lv tl,Zg rE [0,2,4,5,37,38,39] c96L0b [(0,.yld 4),(2,G),(4,.mp 5),(5,Lv0),(37,.isl false ex 1<|l.map encS),(38,I l.length),(39,I 0)] (p0::p1::p2::p3::p4::kM s0.1::tl0) =
  some (.exit 2,fr',p0::p1::p2::p3::p4::kM (l.foldl wkS s0).1::tl)/\ZDZ Lv (l.foldl wkS s0).2 tl/\TC' tl/\get fr' 0=.yld 4/\get fr' 2=G/\get fr' 4=.mp 5/\get fr' 5=Lv:=by
 obtain⟨e,fr',h',L,hQ⟩:=Z9Y (E:=rE) (live:=[0,2,4,5,37,38,39]) (b:=c96L0b) l.length
  (λi fr h=>∃Lv tl,fr=[(0,.yld 4),(2,G),(4,.mp 5),(5,Lv),(37,.isl false ex 1<|l.map encS),(38,I l.length),(39,I i)]/\h=p0::p1::p2::p3::p4::kM ((l.take i).foldl wkS s0).1::tl/\ZDZ Lv ((l.take i).foldl wkS s0).2 tl/\TC' tl)
  (λe fr h=>e=.exit 2/\∃Lv tl,h=p0::p1::p2::p3::p4::kM (l.foldl wkS s0).1::tl/\ZDZ Lv (l.foldl wkS s0).2 tl/\TC' tl/\get fr 0=.yld 4/\get fr 2=G/\get fr 4=.mp 5/\get fr 5=Lv)
  (λi fr h m=>by obtain⟨Lv,tl,rfl,_⟩:=m;rfl)
  (λi fr h hi m=>by
   obtain⟨Lv,tl,rfl,rfl,hL,hc⟩:=m;refine .inl ?_;obtain⟨x,hx⟩:∃x,l[i]?=some x:=⟨_,ZSb hi⟩;have hg:=Z6 (f:=encS) hx;have hi':=Zh hi;have hwr:=Zx (n:=i)<|by omega
   have hf:(l.take<|i+1).foldl wkS s0=wkS ((l.take i).foldl wkS s0) x:=Us wkS s0 hx;have hlen:=ZF4 (l.take i) s0;have hle:(l.take i).length<=l.length:=by simp;omega
   rw[hf];generalize(l.take i).foldl wkS s0=s at hL hlen⊢;obtain⟨K,L⟩:=s;have hq:=λ(tl:List AObj)=>H5 (enc:=encS) (eq:=Z3) Z1Y K x (h:=p0::p1::p2::p3::p4::.map (K.map encS) (ZO K.length)::tl) (b:=5) rfl
   have hp:=λ(tl:List AObj)=>Ur (enc:=encS) (eq:=Z3) Z1Y K x (h:=p0::p1::p2::p3::p4::.map (K.map encS) (ZO K.length)::tl) (b:=5) rfl
   have hlen':L.length<=s0.2.length+(l.take i).length:=hlen;have hL:ZDZ Lv L tl:=hL;unfold encS at hq hp hg;cases c:K.any (Z3 x)with
   |true=>
    have hw:wkS (K,L) x=(K,L):=by unfold wkS;rw[c];rfl
    rw[hw];unfold kM encS;refine⟨_,_,by simp only[go_sem,c96L0b,hg,hi',hwr,hq,c,ZED,ZSF,ZSl]<;>rfl,Lv,tl,?_,rfl,hL,hc⟩
    simp only[go_sem]
   |false=>
    obtain⟨tl',hl',hc',ha⟩:=ZGV p0 p1 p2 p3 p4 (.map ((Qi Z3 K x).map encS)<|ZO (Qi Z3 K x).length) x hL hc<|by omega
    unfold encS at ha;have hak:Qi Z3 K x=K++[x]:=by unfold Qi;rw[c];rfl
    have hirr:decide (tl.length+6<tl.length+1+1+1+1+1+1)=false:=by simp
    have e1:(K++[x]).length=K.length+1:=by simp
    rw[hak,e1]at ha;have hw:wkS (K,L) x=(K++[x],L++[x]):=by unfold wkS;rw[c];rfl
    rw[hw];unfold kM encS;rw[e1];refine⟨_,_,by simp only[go_sem,c96L0b,hg,hi',hwr,hq,hp,c,hak,ha,ZED,Z04,hirr,ZSw,Bool.and_false,Bool.false_and,ZSl]<;>rfl,.sl (tl.length+6) (L.length+1) 0 (L.length+1) false,_,?_,rfl,?_,?_⟩
    .simp only[go_sem]
    .refine⟨tl.length,L.length+1,0,false,(L++[x]).map encS,by simp,by rw[<-hl'];exact ZF3 _ _,by simp,by simp,by simp⟩
    .intro n;rw[ZEu,hc' n];show(true&&(Zj n (.row 1<|(L++[x]).map encS)&&true))=true
     simp only[Zj,ZEv,ZSu])
  (λfr h m=>by
   obtain⟨Lv,tl,rfl,rfl,hL,hc⟩:=m;rw[List.take_length]at hL⊢;refine⟨.exit 2,_,_,by simp only[go_sem,c96L0b,ZG,ZED,kM,ZSl]<;>rfl,by simp,rfl,Lv,tl,rfl,hL,hc,?_⟩
   refine⟨?_,?_,?_,?_⟩<;>simp only[go_sem])
  l.length 0 [(0,.yld 4),(2,G),(4,.mp 5),(5,Lv0),(37,.isl false ex 1<|l.map encS),(38,I l.length),(39,I 0)] (p0::p1::p2::p3::p4::kM s0.1::tl0) (by omega) ⟨Lv0,tl0,rfl,rfl,hL0,hc0⟩
 obtain⟨rfl,Lv,tl,rfl,h1,h2,h3,h4,h5,h6⟩:=hQ;exact⟨fr',Lv,tl,L,h1,h2,h3,h4,h5,h6⟩
def ZGY(d:Ga)(h:Hp):fnV rE 41 [d.enc] h=some (d.After.enc 1 encS,h):=by
 rw[Q6 (f:=41) rfl rfl];simp only[go_sem,c41,Ga.enc,NL.enc,ZE5 (h:=h) rfl]
def grA(s:Sta):AV:=.iptr false<|(stA s).cells++[.clo (.func 41) [] []]
def wfr(s:Sta)(Lv:AV):Fr:=[(0,.yld 4),(2,grA s),(4,.mp 5),(5,Lv)]
def ZFT(n:Nat):decide (((n+1:Nat):Int)>0)=true:=decide_eq_true<|by omega
def ZEO:∀{n k:Nat}{l:List AObj},X4 n l=true->X4 n (l.take k)=true
 |_,0,_,_=>rfl
 |_,_+1,[],h=>h
 |n,k+1,x::r,h=>by
  simp only[X4,ZS5,ZTH]at h⊢;exact⟨h.1,ZEO h.2⟩
def ZGZ{Lv:AV}{L:List Str}{tl:List AObj}{n:Nat}(h:ZDZ Lv L tl)(hb:bel (n+6) Lv=true):ZDZ Lv L (tl.take n):=by
 obtain⟨bl,g,off,ex,es,rfl,h2,h3⟩:=h;refine⟨bl,g,off,ex,es,rfl,?_,h3⟩;have:bl+6<n+6:=by simpa[bel]using hb
 rw[List.getElem?_take,if_pos<|by omega]
 exact h2
def ZH0{Lv:AV}{L:List Str}{tl:List AObj}(h:ZDZ Lv L tl)(l:List AObj):ZDZ Lv L (tl++l):=by
 obtain⟨bl,g,off,ex,es,rfl,h2,h3⟩:=h;refine⟨bl,g,off,ex,es,rfl,?_,h3⟩;rw[ZSq (ZS7.1 h2).1];exact h2
def ZEE{fr:Fr}{G Lv:AV}{L:List Str}(p0 p1 p2 p3 p4 p5:AObj){tl:List AObj}(n:Nat)(e:AExit)(h0:get fr 0=.yld 4)(h2:get fr 2=G)(h4:get fr 4=.mp 5)(h5:get fr 5=Lv)(hL:ZDZ Lv L tl)(hc:TC' tl):
 ∃tl',kp [0,2,4,5] (n+6) (some (e,fr,p0::p1::p2::p3::p4::p5::tl))=some (e,[(0,.yld 4),(2,G),(4,.mp 5),(5,Lv)],p0::p1::p2::p3::p4::p5::tl')/\ZDZ Lv L tl'/\TC' tl':=by
 have hr:Z2 [0,2,4,5] fr=[(0,.yld 4),(2,G),(4,.mp 5),(5,Lv)]:=by
  show [(0,get fr 0),(2,get fr 2),(4,get fr 4),(5,get fr 5)]=_
  rw[h0,h2,h4,h5]
 rw[Sd,hr,Z07];cases c:Zd (n+6) (frV [(0,.yld 4),(2,G),(4,.mp 5),(5,Lv)])&&X4 (n+6) ((p0::p1::p2::p3::p4::p5::tl).take (n+6))with
 |false=>exact⟨tl,rfl,hL,hc⟩
 |true=>
  refine⟨tl.take n,rfl,ZGZ hL ?_,λm=>ZEO<|hc m⟩
  simp only[frV,List.map,Zd,ZS5,ZSu]at c;exact c.1.2.2.2
def c71L1m:ACode:=match c96L1b with| .keep _ (.seq _<|.seq (.keep _<|.block _ m) _)=>m|_=>.skip
def c71D:ACode:=match c71L1m with| .seq d _=>d|_=>.skip
def c71Y:ACode:=match c71L1m with| .seq _ (.seq y _)=>y|_=>.skip
def c71Z:ACode:=match c71L1m with| .seq _ (.seq _ z)=>z|_=>.skip
def ZEP(tl L:List AObj)(x:AV)(sz:Nat):rowAt (tl++.row sz [x]::L) tl.length 1=some (sz,[x]):=by
 unfold rowAt;rw[ZSI<|ZS6 _,Nat.sub_self];rfl
def ZH1(s:Sta)(P:AObj)(t:AV)(D E:List AV)(K:List Str)(Lv:AV)(id:Str)(r:List Str)(tl:List AObj)(hL:ZDZ Lv (id::r) tl)(k:Nat)(d:Ga)(hd:s.Bc[k]?=some d)
 (hf:pfn rE 22 [stA s,.str id]=some (I k)):
 Zb rE c71D (wfr s Lv++[(16,.bool true)]) (fP P D E<|kM K::tl)=some (.normal,[(0,.yld 4),(2,grA s),(4,.mp 5),(5,Lv),(6,.ptr (tl.length+6) 0 0 1)],fP P D E<|kM K::(tl++[.row 16 [d.enc]])):=by
 obtain⟨bl,g,off,ex,es,rfl,hb,hg1,hg2,hes⟩:=hL;have hlt:bl<tl.length:=(ZS7.1 hb).1;have hr:rowAt tl bl g=some (1,es):=by unfold rowAt;rw[hb];simp only[hg1,beq_self_eq_true,cond_true]
 have hes0:es[off]?=some (.str id):=by
  have:=congrArg List.head? hes;rw[List.head?_drop]at this;exact this
 have hg:=Z6 (f:=Ga.enc) hd;have hk:(0<=(k:Int))=True:=by simp
 have hk2:((k:Int)).toNat=k:=Int.toNat_natCast k;have z0:((0:Int)).toNat=0:=rfl;have hlen:(id::r).length=r.length+1:=rfl;have hi0:iaP (bl+6) g off 1 0 (r.length+1) (some (1,es))=some (.ptr (bl+6) off 0 g):=VT _ _ _ _ _ _ _ ⟨Int.le_refl _,by omega⟩
 have hne:(tl.length+1+1+1+1+1+1==bl+6)=false:=by rw[beq_eq_false_iff_ne];omega
 have hirr:decide (tl.length+1+1+1+1+1+1<tl.length+1+1+1+1+1+1)=false:=by simp
 simp only[stA]at hf;simp only[Ga.enc,NL.enc]at hg;simp only[go_sem,c71D,c71L1m,c96L1b,wfr,fP,kM,grA,stA,hne,hirr,Ga.enc,NL.enc,hr,ZSl,Z04,Bool.and_false,Bool.false_and,hf,hg,hi0,hes0,ZEp,ZSr]
def ZH2(p0 p1 p2 p3 p4 p5 x y:AObj)(tl:List AObj)(b:Bool):trimB (tl.length+1+1+1+1+1+1+1) (p0::p1::p2::p3::p4::p5::(tl++[x,y])) b=p0::p1::p2::p3::p4::p5::(tl++x::bif b then []else [y]):=by
 unfold trimB;cases b with
 |false=>rfl
 |true=>
  simp only[cond_true,ZTH];rw[List.take_append,ZSX<|by omega]
  simp
def ZH3(s:Sta)(t:AV)(D E:List AV)(K:List Str)(Lv:AV)(tl:List AObj)(d:Ga)(h1:D.length<=1000)(h2:E.length<=1000):
 ∃b:Bool,Zb rE c71Y [(0,.yld 4),(2,grA s),(4,.mp 5),(5,Lv),(6,.ptr (tl.length+6) 0 0 1)] (fP (feL .ready t) D E<|kM K::(tl++[.row 16 [d.enc]])) =
  some (.normal,[(0,.yld 4),(2,grA s),(4,.mp 5),(5,Lv),(6,.ptr (tl.length+6) 0 0 1),(33,.bool false)],fP (feL .ready t) (faD d D) (faE d E)<|kM K::(tl++.row 16 [d.enc]::bif b then []else [.row 16 [d.enc]])):=by
 have hy:=ZGU t d D E (kM K::(tl++[.row 16 [d.enc]])) h1 h2;simp only[fP,ZSr,ZT1,ZT7]at hy;simp only[Ga.enc,NL.enc,kM]at hy;apply Exists.intro;simp only[go_sem,S3,c71Y,c71L1m,c96L1b,fP,kM,Ga.enc,NL.enc,ZSl,ZSM,ZT8,ZEP,hy,ZSF,ZH2];rfl
def c71R:ACode:=match c71Z with| .seq r _=>r|_=>.skip
def ZH4(p0 p1 p2 p3 p4 p5 x:AObj)(tl L:List AObj)(b:Bool):trimB (tl.length+(L.length+1)+1+1+1+1+1+1) (p0::p1::p2::p3::p4::p5::(tl++x::L)) b=p0::p1::p2::p3::p4::p5::(tl++x::L):=ZEx<|by simp
def ZH5(s:Sta)(P:AObj)(D E:List AV)(K:List Str)(Lv:AV)(tl L:List AObj)(d:Ga):
 Zb rE c71R [(0,.yld 4),(2,grA s),(4,.mp 5),(5,Lv),(6,.ptr (tl.length+6) 0 0 1),(33,.bool false)] (fP P D E<|kM K::(tl++.row 16 [d.enc]::L)) =
  some (.normal,[(0,.yld 4),(2,grA s),(4,.mp 5),(5,Lv),(37,.isl false d.After.ex 1<|d.After.l.map encS),(38,I d.After.l.length),(39,I 0)],fP P D E<|kM K::(tl++.row 16 [d.enc]::L)):=by
 have ha:=λh=>ZGY d h
 simp only[Ga.enc,NL.enc]at ha;simp only[go_sem,c71R,c71Z,c71L1m,c96L1b,fP,kM,grA,stA,Ga.enc,NL.enc,ZSr,ZT1,ZSl,ZEP,ha,ZH4,ZSf]
def ZH6(s:Sta)(t:AV)(D E:List AV)(K:List Str)(Lv:AV)(id:Str)(r:List Str)(tl:List AObj)(hL:ZDZ Lv (id::r) tl)(hc:TC' tl)(k:Nat)(d:Ga)(hd:s.Bc[k]?=some d)
 (hf:pfn rE 22 [stA s,.str id]=some (I k)) (h1:D.length<=1000) (h2:E.length<=1000) (h3:(id::r).length+d.After.l.length<=1000):
 ∃Lv' tl',Zb rE c71L1m (wfr s Lv++[(16,.bool true)]) (fP (feL .ready t) D E<|kM K::tl)=some (.normal,wfr s Lv',fP (feL .ready t) (faD d D) (faE d E)<|kM (d.After.l.foldl wkS (K,id::r)).1::tl')/\
  ZDZ Lv' (d.After.l.foldl wkS (K,id::r)).2 tl'/\TC' tl':=by
 obtain⟨b,hy⟩:=ZH3 s t D E K Lv tl d h1 h2;have hT:TC' (tl++.row 16 [d.enc]::bif b then []else [.row 16 [d.enc]]):=λn=>by
  have e:Zj n (.row 16 [d.enc])=true:=by simp only[Zj,Zd,Ga.enc,NL.enc,bel,ZSJ]
  rw[ZEu,hc n];cases b<;>simp only[cond_true,cond_false,X4,e,ZSJ]
 generalize(bif b then []else [AObj.row 16 [d.enc]])=X at hy hT;obtain⟨fr',Lv',tl',hin,q1,q2,q3,q4,q5,q6⟩:=ZGX (.row 2 [.agg [.isl false false 1 [],.isl false false 3 []]]) (.row 1<|faD d D) (.row 3<|faE d E) (.row 2 [.agg [.sl 1 (faD d D).length 0 (faD d D).length false,.sl 2 (faE d E).length 0 (faE d E).length false]]) (feL .ready t) (grA s) d.After.ex d.After.l (K,id::r) _ _ (ZH0 hL _) hT h3;obtain⟨tl2,hk,q7,q8⟩:=ZEE (.row 2 [.agg [.isl false false 1 [],.isl false false 3 []]]) (.row 1<|faD d D) (.row 3<|faE d E) (.row 2 [.agg [.sl 1 (faD d D).length 0 (faD d D).length false,.sl 2 (faE d E).length 0 (faE d E).length false]]) (feL .ready t) (kM (d.After.l.foldl wkS (K,id::r)).1) (tl++.row 16 [d.enc]::X).length .normal q3 q4 q5 q6 q1 q2;refine⟨Lv',tl2,?_,q7,q8⟩;show Zb rE (.seq c71D<|.seq c71Y<|.seq c71R<|.keep [0,2,4,5]<|.block 2 c96L0) _ _=_
 rw[SK,ZH1 s (feL .ready t) t D E K Lv id r tl hL k d hd hf,SH,SK,hy,SH,SK,ZH5 s (feL .ready t) (faD d D) (faE d E) K Lv tl X d,SH,Sm,Sl];show kp _ _ (blk 2<|Zg rE [0,2,4,5,37,38,39] c96L0b _ _)=_
 unfold fP;rw[hin];exact hk
def c71A:ACode:=match c96L1b with| .keep _ (.seq a _)=>a|_=>.skip
def c71C:ACode:=match c96L1b with| .keep _ (.seq _<|.seq _<|.keep _ c)=>c|_=>.skip
def ZH7(s:Sta)(P:AObj)(D E:List AV)(K:List Str)(Lv:AV)(id:Str)(r:List Str)(tl:List AObj)(hL:ZDZ Lv (id::r) tl):
 Zb rE c71A (wfr s Lv) (fP P D E<|kM K::tl)=some (.normal,wfr s Lv++[(16,.bool true)],fP P D E<|kM K::tl):=by
 obtain⟨bl,g,off,ex,es,rfl,hb,hg1,hg2,hes⟩:=hL;have hr:rowAt tl bl g=some (1,es):=by unfold rowAt;rw[hb];simp only[hg1,beq_self_eq_true,cond_true]
 have hlen:(id::r).length=r.length+1:=rfl;simp only[go_sem,c71A,c96L1b,wfr,fP,kM,hlen,hr,ZSl,ZFT,ZED,ZSr,ZT1]
def ZH8(s:Sta)(P:AObj)(D E:List AV)(K:List Str)(Lv:AV)(tl:List AObj)(hL:ZDZ Lv [] tl):
 Zb rE c71A (wfr s Lv) (fP P D E<|kM K::tl)=some (.exit 0,wfr s Lv++[(16,.bool false)],fP P D E<|kM K::tl):=by
 obtain⟨bl,g,off,ex,es,rfl,hb,hg1,hg2,hes⟩:=hL;have hr:rowAt tl bl g=some (1,es):=by unfold rowAt;rw[hb];simp only[hg1,beq_self_eq_true,cond_true]
 have hlen:([]:List Str).length=0:=rfl;have h0:decide (((0:Nat):Int)>0)=false:=rfl;simp only[go_sem,c71A,c96L1b,wfr,fP,kM,hlen,hr,ZSl,h0,ZED,ZSr,ZT1]
def ZFU(n:Nat):bounds (some<|.int .i64 1) none none (n+1)=some (1,n+1,none):=by
 have e:bounds (some<|.int .i64 1) none none (n+1)=bif Nat.ble 1 (n+1)&&Nat.ble (n+1) (n+1)&&VB (n+1) (n+1) none then some (1,n+1,none)else none:=rfl;rw[e,ZT2 (show 1<=n+1 by omega),ZT2<|ZS6<|n+1]
 rfl
def ZFV{h:Hp}{b g off n:Nat}{ex:Bool}{es:List AV}(hr:rowAt h b g=some (1,es)):slF h 1 (.sl b g off (n+1) ex) (some (1,n+1,none))=some (.sl b g (off+1) n ex):=by
 simp only[slF,hr,beq_self_eq_true,cond_true,ZSu,Nat.add_sub_cancel]
def ZH9(s:Sta)(P:AObj)(D E:List AV)(K:List Str)(Lv:AV)(id:Str)(r:List Str)(tl:List AObj)(hL:ZDZ Lv (id::r) tl):
 ∃fr Lv',Zb rE c71C (wfr s Lv) (fP P D E<|kM K::tl)=some (.normal,fr,fP P D E<|kM K::tl)/\get fr 0=.yld 4/\get fr 2=grA s/\get fr 4=.mp 5/\get fr 5=Lv'/\ZDZ Lv' r tl:=by
 obtain⟨bl,g,off,ex,es,rfl,hb,hg1,hg2,hes⟩:=hL;have hlen:(id::r).length=r.length+1:=rfl;have hr:rowAt tl bl g=some (1,es):=by unfold rowAt;rw[hb];simp only[hg1,beq_self_eq_true,cond_true]
 refine⟨[(5,.sl (bl+6) g (off+1) r.length ex),(18,.sl (bl+6) g (off+1) r.length ex),(17,.sl (bl+6) g off (r.length+1) ex)]++wfr s (.sl (bl+6) g off (r.length+1) ex),.sl (bl+6) g (off+1) r.length ex,?_,rfl,rfl,rfl,rfl,?_⟩
 .have hs:=ZFV (h:=.row 2 [.agg [.isl false false 1 [],.isl false false 3 []]]::.row 1 D::.row 3 E::.row 2 [.agg [.sl 1 D.length 0 D.length false,.sl 2 E.length 0 E.length false]]::P::.map (K.map encS) (ZO K.length)::tl) (b:=bl+6) (off:=off) (n:=r.length) (ex:=ex) hr;simp only[go_sem,c71C,c96L1b,wfr,fP,kM,hlen,ZFU,hs,ZSr,ZT1]
 .refine⟨bl,g,off+1,ex,es,rfl,hb,hg1,by simp at hg2;omega,?_⟩
  have:=congrArg List.tail hes
  rwa[List.tail_drop]at this
def ZEQ:∀(l:List Str)(K L:List Str)(id:Str)(r:List Str),L=id::r->∃r',(l.foldl wkS (K,L)).2=id::r'
 |[],_,_,id,r,h=>⟨r,h⟩
 |x::l,K,L,id,r,h=>by
  rw[ZTj];unfold wkS;cases(K,L).1.any (Z3 x)with
  |true=>exact ZEQ l K L id r h
  |false=>exact ZEQ l (K++[x]) (L++[x]) id (r++[x])<|by rw[h];rfl
def ZHa(s:Sta)(t:AV)(D E:List AV)(K:List Str)(Lv:AV)(id:Str)(r:List Str)(tl:List AObj)(hL:ZDZ Lv (id::r) tl)(hc:TC' tl)(k:Nat)(d:Ga)(hd:s.Bc[k]?=some d)
 (hf:pfn rE 22 [stA s,.str id]=some (I k)) (h1:D.length<=1000) (h2:E.length<=1000) (h3:(id::r).length+d.After.l.length<=1000):
 ∃Lv' tl',Zb rE c96L1b (wfr s Lv) (fP (feL .ready t) D E<|kM K::tl)=some (.normal,wfr s Lv',fP (feL .ready t) (faD d D) (faE d E)<|kM (d.After.l.foldl wkS (K,id::r)).1::tl')/\
  ZDZ Lv' (d.After.l.foldl wkS (K,id::r)).2.tail tl'/\TC' tl':=by
 obtain⟨r',hne⟩:=ZEQ d.After.l K (id::r) id r rfl;obtain⟨Lv1,tl1,e1,l1,c1⟩:=ZH6 s t D E K Lv id r tl hL hc k d hd hf h1 h2 h3;generalize d.After.l.foldl wkS (K,id::r)=q at hne e1 l1⊢;obtain⟨K',L'⟩:=q;have hne:L'=id::r':=hne;subst hne;have l1:ZDZ Lv1 (id::r') tl1:=l1;obtain⟨tl2,e2,l2,c2⟩:=ZEE (G:=grA s) (Lv:=Lv1) (fr:=wfr s Lv1) (.row 2 [.agg [.isl false false 1 [],.isl false false 3 []]]) (.row 1<|faD d D) (.row 3<|faE d E) (.row 2 [.agg [.sl 1 (faD d D).length 0 (faD d D).length false,.sl 2 (faE d E).length 0 (faE d E).length false]]) (feL .ready t) (kM K') tl.length .normal rfl rfl rfl rfl l1 c1;obtain⟨fr3,Lv3,e3,g0,g2,g4,g5,l3⟩:=ZH9 s (feL .ready t) (faD d D) (faE d E) K' Lv1 id r' tl2 l2;obtain⟨tl4,e4,l4,c5004⟩:=ZEE (G:=grA s) (Lv:=Lv3) (fr:=fr3) (.row 2 [.agg [.isl false false 1 [],.isl false false 3 []]]) (.row 1<|faD d D) (.row 3<|faE d E) (.row 2 [.agg [.sl 1 (faD d D).length 0 (faD d D).length false,.sl 2 (faE d E).length 0 (faE d E).length false]]) (feL .ready t) (kM K') tl2.length .normal g0 g2 g4 g5 l3 c2;obtain⟨tl5,e5,l5,c5005⟩:=ZEE (G:=grA s) (Lv:=Lv3) (fr:=wfr s Lv3) (.row 2 [.agg [.isl false false 1 [],.isl false false 3 []]]) (.row 1<|faD d D) (.row 3<|faE d E) (.row 2 [.agg [.sl 1 (faD d D).length 0 (faD d D).length false,.sl 2 (faE d E).length 0 (faE d E).length false]]) (feL .ready t) (kM K') tl.length .normal rfl rfl rfl rfl l4 c5004;refine⟨Lv3,tl5,?_,l5,c5005⟩;show Zb rE (.keep [0,2,4,5]<|.seq c71A<|.seq (.keep [0,2,4,5]<|.block 1 c71L1m)<|.keep [0,2,4,5] c71C) _ _=_
 rw[Sm,SK,ZH7 s (feL .ready t) D E K Lv id r tl hL,SH,SK,Sm,Sl,e1];show kp _ _ (sq rE _<|kp _ _<|some (.normal,wfr s Lv1,_))=_
 rw[show kp [0,2,4,5] (fP (feL .ready t) D E<|kM K::tl).length (some (.normal,wfr s Lv1,fP (feL .ready t) (faD d D) (faE d E)<|kM K'::tl1))=_ from e2,SH,Sm]
 rw[show Zb rE c71C [(0,.yld 4),(2,grA s),(4,.mp 5),(5,Lv1)] (.row 2 [.agg [.isl false false 1 [],.isl false false 3 []]]::.row 1 (faD d D)::.row 3 (faE d E)::.row 2 [.agg [.sl 1 (faD d D).length 0 (faD d D).length false,.sl 2 (faE d E).length 0 (faE d E).length false]]::feL .ready t::kM K'::tl2)=_ from e3]
 exact(congrArg (kp [0,2,4,5]<|tl.length+6) e4).trans e5
inductive Runs(s:Sta):List Str->List Str->List AV->List AV->List AV->List AV->Prop
 |stop (K:List Str) (D E:List AV):Runs s K [] D E D E
 |step (K:List Str) (id:Str) (r:List Str) (D E D' E':List AV) (k:Nat) (d:Ga) (hd:s.Bc[k]?=some d) (hf:pfn rE 22 [stA s,.str id]=some (I k)) (h1:D.length<=1000) (h2:E.length<=1000)
  (h3:(id::r).length+d.After.l.length<=1000) (h:Runs s (d.After.l.foldl wkS (K,id::r)).1 (d.After.l.foldl wkS (K,id::r)).2.tail (faD d D) (faE d E) D' E'):Runs s K (id::r) D E D' E'
def ZHb(s:Sta)(t:AV){K L:List Str}{D E D' E':List AV}(H:Runs s K L D E D' E'):∀(Lv:AV)(tl:List AObj),ZDZ Lv L tl->TC' tl->
 ∃K' Lv' tl',Zg rE [0,2,4,5] c96L1b (wfr s Lv) (fP (feL .ready t) D E<|kM K::tl)=some (.exit 0,wfr s Lv',fP (feL .ready t) D' E'<|kM K'::tl'):=by
 induction H with
 |stop K D E=>
  intro Lv tl hL hc;obtain⟨tl2,e2,l2,c2⟩:=ZEE (G:=grA s) (Lv:=Lv) (fr:=wfr s Lv++[(16,.bool false)]) (.row 2 [.agg [.isl false false 1 [],.isl false false 3 []]]) (.row 1 D) (.row 3 E) (.row 2 [.agg [.sl 1 D.length 0 D.length false,.sl 2 E.length 0 E.length false]]) (feL .ready t) (kM K) tl.length (.exit 0) rfl rfl rfl rfl hL hc;refine⟨K,Lv,tl2,Q7 rfl ?_ (λh=>by cases h)⟩
  show Zb rE (.keep [0,2,4,5]<|.seq c71A<|.seq (.keep [0,2,4,5]<|.block 1 c71L1m)<|.keep [0,2,4,5] c71C) _ _=_
  rw[Sm,SK,ZH8 s (feL .ready t) D E K Lv tl hL,SI];exact e2
 |step K id r D E D' E' k d hd hf h1 h2 h3 h ih=>
  intro Lv tl hL hc;obtain⟨Lv1,tl1,e1,l1,c1⟩:=ZHa s t D E K Lv id r tl hL hc k d hd hf h1 h2 h3;obtain⟨K',Lv',tl',e⟩:=ih Lv1 tl1 l1 c1;refine⟨K',Lv',tl',?_⟩;rw[Yt rfl e1];exact e
def h5(t:AV)(D E:List AV):List AObj:=[.row 2 [.agg [.isl false false 1 [],.isl false false 3 []]],.row 1 D,.row 3 E,.row 2 [.agg [.sl 1 D.length 0 D.length false,.sl 2 E.length 0 E.length false]],feL .ready t]
def ZHc(e:AExit)(fr:Fr)(p0 p1 p2 p3 p4:AObj)(tl:List AObj){b:Bool}{n:Nat}:∃fr' tl',some (e,fr,trimB (n+5) (p0::p1::p2::p3::p4::tl) b)=some (e,fr',p0::p1::p2::p3::p4::tl'):=by
 cases b with
 |true=>exact⟨fr,tl.take n,rfl⟩
 |false=>exact⟨fr,tl,rfl⟩
def ZHd(s:Sta)(t:AV)(id:Str)(D' E':List AV)(H:Runs s [id] [id] [] [] D' E'):
 ∃fr tl,Zb rE c96 (QP 0<|[]++[.yld 4]++[.iptr false [.str id],grA s]) (h5 t [] [])=some (.normal,fr,h5 t D' E'++tl):=by
 obtain⟨K',Lv',tl',hl⟩:=ZHb s t H (.sl 6 1 0 1 true) [.row 1 [.str id]] ⟨0,1,0,true,[.str id],rfl,rfl,rfl,rfl,rfl⟩<|λn=>rfl
 have hp:=Ur (enc:=encS) (eq:=Z3) Z1Y [] id (h:=h5 t [] []++[.map [] []]) (b:=5) rfl;have hk:Qi Z3 [] id=[id]:=rfl;rw[hk]at hp;have hrep:List.replicate 1 (AV.bool true)=[.bool true]:=rfl;have hrep0:List.replicate 0 (AV.bool true)=[]:=rfl;simp only[h5,ZSr,ZT1,encS,List.map,ZO,ZSl,ZT8,ZSa,hrep]at hp;simp only[wfr,fP,kM,encS,List.map,ZO,ZSl,ZT8,ZSa,hrep]at hl;simp only[go_sem,c96,c96L1,h5,hl,hp];exact ZHc _ _ _ _ _ _ _ _ (n:=2)
def wkT(s:Sta)(id:Str):AV:=.clo (.func 96) [] [.iptr false [.str id],grA s]
def h4(D E:List AV):List AObj:=[.row 2 [.agg [.isl false false 1 [],.isl false false 3 []]],.row 1 D,.row 3 E,.row 2 [.agg [.sl 1 D.length 0 D.length false,.sl 2 E.length 0 E.length false]]]
def ZHe(s:Sta)(id:Str)(D E:List AV)(H:Runs s [id] [id] [] [] D E):
 ∃tl,rf rE (wkT s id) [20] c17R0a c17R0b (ffr<|wkT s id) (h4 [] [])=some (.normal,ffr<|wkT s id,h4 D E++tl):=by
 obtain⟨fr,tl,h⟩:=ZHd s (wkT s id) id D E H;refine⟨.loop .exhausted .normal (ffr<|wkT s id) [20] c17R0a c17R0b::tl,?_⟩;unfold wkT;rw[Z1k (c:=c96) (rs:=[]) rfl];have h':Zb rE c96 (QP 0<|[]++[.yld (h4 [] []).length]++[.iptr false [.str id],grA s]) (h4 [] []++[.loop .ready .normal (ffr<|wkT s id) [20] c17R0a c17R0b])=_:=h;unfold wkT at h';rw[h'];rfl
def grC(s:Sta):List AV:=[.isl false false 6<|s.Fa.map Gk.enc,.isl false false 5<|s.Gm.map By.enc,.isl false false 4<|s.Bt.map Ev.enc,.isl false false 16<|s.Bc.map Ga.enc,.isl false false 6<|s.Nk.map be.enc,.isl false false 2<|s.Gc.map bf.enc,.isl false false 2<|s.ba.map bf.enc]
def ZHf(s:Sta)(id:Str)(h:Hp):fnV rE 42 [.agg<|grC s++[.clo (.func 41) [] []],.str id] h=some (.clo (.func 96) [] [.iptr false [.str id],.iptr false<|grC s++[.clo (.func 41) [] []]],h):=by
 rw[Q6 (f:=42) rfl rfl];unfold grC;simp only[go_sem,c42,ZSr,ZT1,ZE5 (h:=h) rfl]
def ZHg(p0 p1 p2 p3:AObj)(tl:List AObj)(b:Bool):trimB 4 (p0::p1::p2::p3::tl) b=p0::p1::p2::p3::bif b then []else tl:=by cases b<;>rfl
def ZHh{D D2:List AV}(hD:ZE7 44 [ZEa 44] 1 D=some D2)(p0 p2 p3:AObj)(tl:List AObj):
 rsD (rE.rs 43) (p0::.row 1 D::p2::p3::tl) [.sl 1 D.length 0 D.length false,.clo (.func 44) [] []]=some (.sl 1 D.length 0 D.length false,⟨false,[1],some 1,none⟩,some (1,.row 1 D2)):=by
 show ZEn (ZE7 44) _ _=_
 unfold ZEn ZE8;simp only[ZST,ZSs,beq_self_eq_true];have hD':ZE7 44 [.clo (.func 44) [] []] 1 D=some D2:=hD;rw[hD'];rfl
def ZHi{E E2:List AV}(hE:ZEe 46 3 ZEf [ZEa 46] 3 E=some E2)(p0 p1 p3:AObj)(tl:List AObj):
 fnV rE 45 [.sl 2 E.length 0 E.length false,.clo (.func 46) [] []] (p0::p1::.row 3 E::p3::tl)=some (.sl 2 E.length 0 E.length false,p0::p1::.row 3 E2::p3::tl):=by
 rw[V8 (s:=ZEo<|ZEe 46 3 ZEf) rfl];unfold ZEo ZE8;simp only[ZST,ZSs,beq_self_eq_true];have hE':ZEe 46 3 ZEf [.clo (.func 46) [] []] 3 E=some E2:=hE;rw[hE'];rfl
def ZHk{α:Type}{recs:List DRec}{p0 p1 o:AObj}{tl:List AObj}{d:DRec}{k:Option α}:okd recs [] (p0::p1::tl) d (some (1,o)) k=k:=Z9E rfl (ZT2 (show 1<=(p0::p1::tl).length by simp))
def ZHl(p0 p1 p2 p3:AObj)(tl:List AObj)(b:Bool):trimB (tl.length+1+1+1+1) (p0::p1::p2::p3::tl) b=p0::p1::p2::p3::tl:=ZEx<|by simp
def ZFW(s:Sta)(id:Str)(D E D2 E2:List AV)(hc:pfn rE 40 [stA s,.str id]=some (I 0))(H:Runs s [id] [id] [] [] D E)(hD:ZE7 44 [ZEa 44] 1 D=some D2)(hE:ZEe 46 3 ZEf [ZEa 46] 3 E=some E2)(hDl:D2.length=D.length)(hEl:E2.length=E.length)(hDc:Z4 D2=true)(hEc:Z4 E2=true):
 pfn rE 17 [stA s,.str id]=some (.tup [.agg [.isl false false 1 D2,.isl false false 3 E2],I 0]):=by
 obtain⟨tl,hr⟩:=ZHe s id D E H;simp only[stA]at hc;simp only[wkT,grA,ffr,h4,AV.cells,ZSr,ZT1,ZT8]at hr;have hw:=ZHf s id;simp only[grC,ZSr,ZT1]at hw;have b1:(D2.length==D.length)=true:=by rw[hDl];exact beq_self_eq_true _
 have b2:(E2.length==E.length)=true:=by rw[hEl];exact beq_self_eq_true _
 have t1:D2.take D.length=D2:=by rw[<-hDl];exact List.take_length
 have t2:E2.take E.length=E2:=by rw[<-hEl];exact List.take_length
 have f1:∀h n,ZC false h (n+1) D2=some D2:=λh n=>by simp only[ZC,hDc,cond_true]
 have f2:∀h n,ZC false h (n+1) E2=some E2:=λh n=>by simp only[ZC,hEc,cond_true]
 have f1:=λh=>f1 h 34
 have f2:=λh=>f2 h 33
 simp only[Nat.reduceAdd]at f1 f2;have h00:((0:Int) != 0)=false:=rfl;rw[Z5 (f:=17) rfl rfl];simp only[go_sem,c17,stA,hc,h00,hw,put,Sr,hr,ZHg,ZL4,ZHj,ZHk,ZHl,ZH,ZHh hD,ZHi hE,b1,b2,t1,t2,f1,f2]
def HK(a b:List Str):Bool:=a.length==b.length&&Zu (λi x=>match b[i]? with|some y=>Z3 x y|none=>false) 0 a
def Z4L(ea eb:Bool)(a b:List Str)(ha:a.length<=1000):pfn rE 48 [.isl false ea 1<|a.map encS,.isl false eb 1<|b.map encS]=some (.bool<|HK a b):=by
 rw[Z5 (f:=48) rfl rfl];unfold HK;have hne:((a.length:Int) != (b.length:Int)) = !(a.length==b.length):=by
  cases h:a.length==b.length with
  |true=>have:a.length=b.length:=by simpa using h
         rw[this];simp
  |false=>have:a.length≠b.length:=by simpa using h
          simp;omega
 cases c:a.length==b.length with
 |false=>
  rw[c]at hne;simp only[go_sem,c48,hne]
 |true=>
 rw[c]at hne;have hlen:a.length=b.length:=by simpa using c
 have L:=QT (E:=rE) (live:=[0,1,5]) (b:=c48L0b) (h:=[]) a (λi x=>match b[i]? with|some y=>Z3 x y|none=>false) (λi=>[(0,.isl false ea 1<|a.map encS),(1,.isl false eb 1<|b.map encS),(5,I i)]) 0 (λfr=>get fr 4=.bot) (λfr=>get fr 4=.bool false) (λi=>rfl)
  (λi x hx hP=>by
   have hg:=Z6 (f:=encS) hx;have hi:=Zh<|Z7 hx;have hw:=Zx (n:=i) (by have:=Z7 hx;omega)
   obtain⟨y,hy⟩:∃y,b[i]?=some y:=⟨_,ZSb<|by rw[<-hlen];exact Z7 hx⟩
   have hgy:=Z6 (f:=encS) hy;rw[hy]at hP;dsimp only at hP;refine⟨_,by simp only[go_sem,c48L0b,hg,hgy,hi,hw,encS,hP];rfl,?_⟩
   simp only[go_sem])
  (λi x hx hP=>by
   have hg:=Z6 (f:=encS) hx;have hi:=Zh<|Z7 hx;obtain⟨y,hy⟩:∃y,b[i]?=some y:=⟨_,ZSb<|by rw[<-hlen];exact Z7 hx⟩
   have hgy:=Z6 (f:=encS) hy;rw[hy]at hP;dsimp only at hP;refine⟨_,by simp only[go_sem,c48L0b,hg,hgy,hi,encS,hP];rfl,?_⟩
   simp only[go_sem])
  (⟨_,by simp only[go_sem,c48L0b,ZG];rfl,by simp only[go_sem]⟩)
 obtain⟨fr',h1,h2,h3⟩:=L;have h1':Zg rE [0,1,5] c48L0b [(0,.isl false ea 1<|a.map encS),(1,.isl false eb 1<|b.map encS),(5,.int .i64 0)] []=_:=h1;cases e:Zu (λi x=>match b[i]? with|some y=>Z3 x y|none=>false) 0 a with
 |true=>
  rw[e]at h1';simp only[go_sem,c48,c48L0,hne,h1',h2 e,if_true]
 |false=>
  rw[e]at h1';simp only[go_sem,c48,c48L0,hne,h1',h3 e,ZSo]
structure Endz where
 Id:Str
 br:Int
 Day:Int
def Endz.enc(e:Endz):AV:=.agg [.str e.Id,I e.br,I e.Day]
def ZEq(a b:Endz):Bool:=Z3 a.Id b.Id&&(a.br==b.br&&a.Day==b.Day)
def ZEb(s:Sta)(id:Str):Int:=bif Jx s then(bif decide (Zn s id<0)then 10 else 0)else 1
def ZVg(s:Sta)(hs:StE s)(id:Str):pfn rE 40 [stA s,.str id]=some (I<|ZEb s id):=by
 have h1:=Z3i s hs;have h2:=find_ok s hs.sizes id;rw[Z5 (f:=40) rfl rfl];unfold ZEb;cases c:Jx s with
 |false=>rw[c]at h1;simp only[go_sem,c40,h1,ZSw]
 |true=>
  rw[c]at h1;cases c2:decide (Zn s id<0)with
  |true=>simp only[go_sem,c40,h1,h2,c2,ZSF]
  |false=>simp only[go_sem,c40,h1,h2,c2,ZSF]
def ftA(ea eb:Bool)(D:List Str)(E:List Endz):AV:=.agg [.isl false ea 1<|D.map encS,.isl false eb 3<|E.map Endz.enc]
def HL(D D2:List Str)(E E2:List Endz):Bool:=(E.length==E2.length&&HK D D2)&&Zu (λi x=>match E2[i]? with|some y=>ZEq x y|none=>false) 0 E
def ZF5(ea eb ec ed:Bool)(D D2:List Str)(E E2:List Endz)(hD:D.length<=1000)(hE:E.length<=1000):pfn rE 21 [ftA ea eb D E,ftA ec ed D2 E2]=some (.bool<|HL D D2 E E2):=by
 have ht:=Z4L ea ec D D2 hD;rw[Z5 (f:=21) rfl rfl];unfold HL ftA;have hne:((E.length:Int) != (E2.length:Int)) = !(E.length==E2.length):=by
  cases h:E.length==E2.length with
  |true=>have:E.length=E2.length:=by simpa using h
         rw[this];simp
  |false=>have:E.length≠E2.length:=by simpa using h
          simp;omega
 cases c:E.length==E2.length with
 |false=>
  rw[c]at hne;simp only[go_sem,c21,hne,ZSw,Bool.false_and]
 |true=>
 rw[c]at hne;cases ct:HK D D2 with
 |false=>
  rw[ct]at ht;simp only[go_sem,c21,hne,ht,ZSw,ZSF,Bool.false_and,Bool.and_false]
 |true=>
 rw[ct]at ht;have hlen:E.length=E2.length:=by simpa using c
 have L:=QT (E:=rE) (live:=[2,3,5]) (b:=c21L0b) (h:=[]) E (λi x=>match E2[i]? with|some y=>ZEq x y|none=>false) (λi=>[(2,.iptr false [.isl false ea 1<|D.map encS,.isl false eb 3<|E.map Endz.enc]),(3,.iptr false [.isl false ec 1<|D2.map encS,.isl false ed 3<|E2.map Endz.enc]),(5,I i)]) 0 (λfr=>get fr 4=.bot) (λfr=>get fr 4=.bool false) (λi=>rfl)
  (λi x hx hP=>by
   have hg:=Z6 (f:=Endz.enc) hx;have hi:=Zh<|Z7 hx;have hw:=Zx (n:=i) (by have:=Z7 hx;omega)
   obtain⟨y,hy⟩:∃y,E2[i]?=some y:=⟨_,ZSb<|by rw[<-hlen];exact Z7 hx⟩
   have hgy:=Z6 (f:=Endz.enc) hy;rw[hy]at hP;dsimp only at hP;unfold ZEq at hP;refine⟨_,by simp only[go_sem,c21L0b,hg,hgy,hi,hw,Endz.enc,hP,ZSF];rfl,?_⟩
   simp only[go_sem])
  (λi x hx hP=>by
   have hg:=Z6 (f:=Endz.enc) hx;have hi:=Zh<|Z7 hx;obtain⟨y,hy⟩:∃y,E2[i]?=some y:=⟨_,ZSb<|by rw[<-hlen];exact Z7 hx⟩
   have hgy:=Z6 (f:=Endz.enc) hy;rw[hy]at hP;dsimp only at hP;unfold ZEq at hP;refine⟨_,by simp only[go_sem,c21L0b,hg,hgy,hi,Endz.enc,hP,ZSw];rfl,?_⟩
   simp only[go_sem])
  (⟨_,by simp only[go_sem,c21L0b,ZG];rfl,by simp only[go_sem]⟩)
 obtain⟨fr',h1,h2,h3⟩:=L;have h1':Zg rE [2,3,5] c21L0b [(2,.iptr false [.isl false ea 1<|D.map encS,.isl false eb 3<|E.map Endz.enc]),(3,.iptr false [.isl false ec 1<|D2.map encS,.isl false ed 3<|E2.map Endz.enc]),(5,.int .i64 0)] []=_:=h1;cases e:Zu (λi x=>match E2[i]? with|some y=>ZEq x y|none=>false) 0 E with
 |true=>
  rw[e]at h1';simp only[go_sem,c21,c21L0,hne,ht,h1',h2 e,if_true,ZSF,ZSS]
 |false=>
  rw[e]at h1';simp only[go_sem,c21,c21L0,hne,ht,h1',h3 e,ZSo,ZSF,ZSS]
def ZF6:∀(l m:List Str),l.Nodup->(∀x∈l,x∈m)->l.length<=m.length
 |[],m,_,_=>Nat.zero_le _
 |a::r,m,h,hs=>by
  rw[List.nodup_cons]at h;obtain⟨p,q,rfl⟩:=List.append_of_mem<|hs a ZSO;have:=ZF6 r (p++q) h.2 (λx hx=>by
   have h2:=hs x<|ZSW _ hx;have hne:x≠a:=λe=>h.1<|e▸hx
   simp only[ZSz,ZSc,hne,false_or]at h2⊢;exact h2)
  simp only[ZSM,ZSl]at this⊢;omega
def ZFX{s:Sta}(hn:(s.Bc.map (·.Id)).Nodup){d e:Ga}(hd:d∈s.Bc)(he:e∈s.Bc)(h:d.Id=e.Id):d=e:=by
 obtain⟨i,hi⟩:=List.getElem?_of_mem hd;obtain⟨j,hj⟩:=List.getElem?_of_mem he;have h1:=Zi1 (f:=λx:Ga=>x.Id) hn hi
 have h2:=Zi1 (f:=λx:Ga=>x.Id) hn hj
 rw[h]at h1;have:i=j:=by rw[h1]at h2;omega
 rw[this,hj]at hi;exact(Option.some.inj hi).symm
inductive Reach(s:Sta):Str->Str->Prop
 |refl (x:Str):Reach s x x
 |step (x y z:Str) (d:Ga) (h:Reach s x y) (hd:d∈s.Bc) (hi:d.Id=y) (hz:z∈d.After.l):Reach s x z
def ZF7:∀(l K L:List Str),∃new,l.foldl wkS (K,L)=(K++new,L++new)/\(∀x∈new,x∈l)/\(∀x∈l,x∈K++new)/\(K.Nodup->(K++new).Nodup)
 |[],K,L=>⟨[],by simp⟩
 |a::l,K,L=>by
  rw[ZTj];cases c:K.any (Z3 a)with
  |true=>
   obtain⟨new,h1,h2,h3,h4⟩:=ZF7 l K L;refine⟨new,?_,λx hx=>ZSW _<|h2 x hx,λx hx=>?_,h4⟩
   .rw[show wkS (K,L) a=(K,L)by unfold wkS;simp only[c,cond_true],h1]
   .rcases ZSc.1 hx with rfl|hx
    .exact ZTm _<|ZdP.1 c
    .exact h3 x hx
  |false=>
   obtain⟨new,h1,h2,h3,h4⟩:=ZF7 l (K++[a])<|L++[a];have ha:a ∉ K:=λh=>by rw[ZdP.2 h]at c;cases c
   refine⟨a::new,?_,λx hx=>?_,λx hx=>?_,λhn=>?_⟩
   .have e:∀M:List Str,M++a::new=M++[a]++new:=λM=>by simp
    rw[e,e,show wkS (K,L) a=(K++[a],L++[a])by unfold wkS;simp only[c,cond_false],h1]
   .rcases ZSc.1 hx with rfl|hx
    .exact ZSO
    .exact ZSW _<|h2 x hx
   .rcases ZSc.1 hx with rfl|hx
    .simp
    .have:=h3 x hx;simpa using this
   .have e:K++a::new=K++[a]++new:=by simp
    rw[e];refine h4 ?_;rw[List.nodup_append];exact⟨hn,by simp,λx hx y hy=>by simp only[ZSn]at hy;rw[hy];exact λh=>ha<|h▸hx⟩
def ZEc(Q:List Ga):List AV:=(Q.filter λd=>decide (d.Ld<0)).map λd=>.str d.Id
def ZEd(Q:List Ga):List AV:=(Q.filter λd=>!decide (d.Ld<0)&&d.After.l.isEmpty).map ZEB
def ZFY(d:Ga)(Q:List Ga):faD d (ZEc Q)=ZEc (Q++[d]):=by
 unfold faD ZEc;rw[List.filter_append,ZTs];cases c:decide (d.Ld<0)<;>simp[List.filter,c]
def ZFZ(d:Ga)(Q:List Ga):faE d (ZEd Q)=ZEd (Q++[d]):=by
 unfold faE ZEd;rw[List.filter_append,ZTs];cases c:(!decide (d.Ld<0)&&d.After.l.isEmpty)<;>simp only[List.filter,c,cond_true,cond_false,List.map,ZT9]
def ZHn{s:Sta}(hp:Prop' s){d:Ga}(hd:d∈s.Bc){x:Str}(hx:x∈d.After.l):∃e∈s.Bc,e.Id=x:=by
 obtain⟨i,hi⟩:=List.getElem?_of_mem hd;have h1:=((Zd0 s i d).1 (hp.dr i d hi)).2.1 x hx;have h2:decide (Zn s x<0)=false:=decide_eq_false (by have:=of_decide_eq_false h1;omega)
 rw[ZEz]at h2;obtain⟨j,e,_,h4,h5⟩:=ZcU h2;exact⟨e,ZSN h4,h5⟩
def ZEF{s:Sta}(hp:Prop' s):(s.Bc.map (·.Id)).Nodup:=by
 have h:=hp.ids;unfold Qp at h;have h1:=(List.nodup_append.1 h).2.1;have h2:=(List.nodup_append.1 h1).2.1;have h3:=(List.nodup_append.1 h2).2.1;exact(List.nodup_append.1 h3).1
def ZG0(s:Sta)(hp:Prop' s)(hs:StE s)(hN:s.Bc.length<=500)(id0:Str):∀(n:Nat)(P:List Ga)(L:List Str),s.Bc.length<=P.length+n->(∀d∈P,d∈s.Bc)->(P.map (·.Id)++L).Nodup->(∀x∈L,∃d∈s.Bc,d.Id=x)->
 (∀x∈P.map (·.Id)++L,Reach s id0 x)->(∀d∈P,∀y∈d.After.l,y∈P.map (·.Id)++L)->
 ∃Q,Runs s (P.map (·.Id)++L) L (ZEc P) (ZEd P) (ZEc Q) (ZEd Q)/\(Q.map (·.Id)).Nodup/\(∀d∈Q,d∈s.Bc)/\(∀d∈Q,Reach s id0 d.Id)/\(∀d∈Q,∀y∈d.After.l,y∈Q.map (·.Id))/\(∀x∈P.map (·.Id)++L,x∈Q.map (·.Id))
 |n,P,[],_,hP,hn,_,hR,hA=>by
  rw[ZT9]at hn hR hA⊢;exact⟨P,Runs.stop _ _ _,hn,hP,λd hd=>hR _<|List.mem_map_of_mem hd,hA,λx hx=>hx⟩
 |n,P,x::r,hle,hP,hn,hL,hR,hA=>by
  have hsub:∀y∈P.map (·.Id)++x::r,y∈s.Bc.map (·.Id):=λy hy=>by
   rcases ZSz.1 hy with h|h
   .obtain⟨d,hd,rfl⟩:=ZSP.1 h;exact List.mem_map_of_mem<|hP d hd
   .obtain⟨d,hd,rfl⟩:=hL y h;exact List.mem_map_of_mem hd
  have hlen:=ZF6 _ _ hn hsub;simp only[ZSM,ZSf,ZSl]at hlen;obtain⟨d,hd,hid⟩:=hL x ZSO;obtain⟨k,hk⟩:=List.getElem?_of_mem hd;have hf:pfn rE 22 [stA s,.str x]=some (I k):=by
   rw[find_ok s hs.sizes x,ZEz,<-hid,Zi1 (ZEF hp) hk]
  cases n with
  |zero=>omega
  |succ n=>
   obtain⟨new,w1,w2,w3,w4⟩:=ZF7 d.After.l (P.map (·.Id)++x::r)<|x::r;have eK:(P++[d]).map (·.Id)++(r++new)=P.map (·.Id)++x::r++new:=by simp[hid]
   obtain⟨Q,q1,q2,q3,q4,q5,q6⟩:=ZG0 s hp hs hN id0 n (P++[d]) (r++new) (by simp;omega)
    (λe he=>by
     rcases ZSz.1 he with h|h
     .exact hP e h
     .rw[ZSn.1 h];exact hd)
    (by rw[eK];exact w4 hn)
    (λy hy=>by
     rcases ZSz.1 hy with h|h
     .exact hL y<|ZSW _ h
     .exact ZHn hp hd<|w2 y h)
    (λy hy=>by
     rw[eK]at hy;rcases ZSz.1 hy with h|h
     .exact hR y h
     .exact Reach.step id0 x y d (hR x<|by simp) hd hid<|w2 y h)
    (λe he y hy=>by
     rw[eK];rcases ZSz.1 he with h|h
     .exact ZTm _<|hA e h y hy
     .rw[ZSn.1 h]at hy;exact w3 y hy)
   refine⟨Q,?_,q2,q3,q4,q5,λy hy=>q6 y<|by rw[eK];exact ZTm _ hy⟩
   refine Runs.step _ x r _ _ _ _ k d hk hf ?_ ?_ ?_ ?_
   .unfold ZEc;rw[ZSf];have:=List.length_filter_le (λd:Ga=>decide (d.Ld<0)) P;omega
   .unfold ZEd;rw[ZSf];have:=List.length_filter_le (λd:Ga=>!decide (d.Ld<0)&&d.After.l.isEmpty) P;omega
   .have:=(hs.doors d hd).after;simp only[ZSl];omega
   .rw[w1,ZFY,ZFZ,<-eK];exact q1
def ZHo(s:Sta)(hp:Prop' s)(hs:StE s)(hN:s.Bc.length<=500)(id:Str)(hid:decide (Zn s id<0)=false):
 ∃Q,Runs s [id] [id] [] [] (ZEc Q) (ZEd Q)/\(Q.map (·.Id)).Nodup/\(∀d∈Q,d∈s.Bc)/\(∀d∈Q,Reach s id d.Id)/\(∀x,Reach s id x->x∈Q.map (·.Id)):=by
 rw[ZEz]at hid;obtain⟨j,e,_,h4,h5⟩:=ZcU hid;obtain⟨Q,q1,q2,q3,q4,q5,q6⟩:=ZG0 s hp hs hN id s.Bc.length [] [id] (by simp) (λd hd=>by cases hd) (by simp) (λx hx=>⟨e,ZSN h4,by rw[ZSn.1 hx];exact h5⟩)
  (λx hx=>by rw[ZSn.1 hx];exact Reach.refl id) (λd hd=>by cases hd)
 refine⟨Q,q1,q2,q3,q4,λx hx=>?_⟩
 clear hid;induction hx with
 |refl=>exact q6 id<|by simp
 |step y z d h hd hi hz ih=>
  obtain⟨d',hd',he⟩:=ZSP.1 ih;rw[<-ZFX (ZEF hp) (q3 d' hd') hd (he.trans hi.symm)]at hz;exact q5 d' hd' z hz
def toL(x:Str):List UInt8:=x.data.toList
def ofL(l:List UInt8):Str:=⟨l.toArray⟩
def ZER(x:Str):ofL (toL x)=x:=by unfold ofL toL;simp
def ZG1(l:List UInt8):toL (ofL l)=l:=by unfold ofL toL;simp
def ZHp{x y:Str}(h:toL x=toL y):x=y:=by rw[<-ZER x,h,ZER]
def ZEi(l:List Str):List Str:=(WD<|l.map toL).map ofL
def ZHq(l:List Str):Yk (l.map encS)=(ZEi l).map encS:=by
 have e:l.map encS=(l.map toL).map Qd:=by
  rw[ZTq];exact ZTS λx _=>congrArg AV.str (ZER x).symm
 rw[e,D4];unfold ZEi;rw[ZTq];rfl
def ZES(l:List Str):(ZEi l).Perm l:=by
 have h:=(RS<|l.map toL).map ofL;rw[ZTq]at h;have e:l.map (ofL ∘ toL)=l:=by
  conv=>rhs;rw[<-List.map_id l]
  exact ZTS λx _=>ZER x
 rwa[e]at h
def ltS(a b:Str):Prop:=toL a<toL b
def ZHr(l:List Str)(hn:l.Nodup):(ZEi l).Pairwise ltS:=by
 have h1:=D8<|l.map toL;have h2:(ZEi l).Nodup:=(ZES l).nodup_iff.2 hn;unfold ZEi at h2⊢;rw[List.pairwise_map];rw[List.nodup_iff_pairwise_ne,List.pairwise_map]at h2;refine(h1.and h2).imp ?_;intro a b hab;unfold ltS;rw[ZG1,ZG1];refine Decidable.byContradiction λh=>hab.2 ?_
 rw[List.le_antisymm (of_decide_eq_true hab.1)<|List.not_lt.1 h]
def ZHs(a b:Str):lexB (ZE4 a) (ZE4 b)=true↔ltS a b:=by
 unfold ZE4 ltS toL;rw[ZEM,decide_eq_true_iff]
def ZHt{a b:Str}(h:ZE4 a=ZE4 b):a=b:=by
 unfold ZE4 at h;apply ZHp;unfold toL;have:∀x y:List UInt8,(x.map λb=>(b.toNat:Int))=(y.map λb=>(b.toNat:Int))->x=y:=by
  intro x;induction x with
  |nil=>intro y h;cases y with
   |nil=>rfl
   |cons=>simp at h
  |cons a r ih=>intro y h;cases y with
   |nil=>simp at h
   |cons c t=>
    simp only[ZS9,List.cons.injEq]at h;have hc:a=c:=UInt8.toNat_inj.1<|by omega
    rw[ih t h.2,hc]
 exact this _ _ h
def gK(e:Endz):List Int×AV:=(ZE4 e.Id,e.enc)
def ZEy(x:Endz):List Endz->List Endz
 |[]=>[x]
 |y::r=>bif lexB (ZE4 x.Id) (ZE4 y.Id)then x::y::r else y::ZEy x r
def ZEj:List Endz->List Endz
 |[]=>[]
 |x::r=>ZEy x<|ZEj r
def ZG2(x:Endz):∀l:List Endz,ZvI (gK x) (l.map gK)=(ZEy x l).map gK
 |[]=>rfl
 |y::r=>by
  rw[ZS9];unfold ZvI ZEy;rw[show lexB (gK x).1 (gK y).1=lexB (ZE4 x.Id) (ZE4 y.Id)from rfl]
  cases lexB (ZE4 x.Id) (ZE4 y.Id)with
  |true=>rfl
  |false=>simp only[cond_false,ZG2 x r,ZS9]
def ZF8:∀l:List Endz,ZvN (l.map gK)=(ZEj l).map gK
 |[]=>rfl
 |x::r=>by
  rw[ZS9];unfold ZvN ZEj;rw[ZF8 r,ZG2]
def ZG3(x:Endz):∀l,(ZEy x l).Perm (x::l)
 |[]=>.refl _
 |y::r=>by
  unfold ZEy;cases lexB (ZE4 x.Id) (ZE4 y.Id)with
  |true=>exact .refl _
  |false=>exact((ZG3 x r).cons y).trans (.swap x y r)
def ZF9:∀l,(ZEj l).Perm l
 |[]=>.refl _
 |x::r=>(ZG3 x<|ZEj r).trans ((ZF9 r).cons x)
def ZG4:∀l:List Endz,keysOf ZEf (l.map Endz.enc)=some (l.map gK)
 |[]=>rfl
 |x::r=>by
  rw[ZS9,ZS9];unfold keysOf;rw[ZG4 r];rfl
def ZFa:∀l:List Endz,(l.map (·.Id)).Nodup->ZvJ (l.map gK)=true
 |[],_=>rfl
 |x::r,h=>by
  rw[ZS9,List.nodup_cons]at h;rw[ZS9];unfold ZvJ;rw[ZFa r h.2,ZSu,ZSe];intro y hy;obtain⟨z,hz,rfl⟩:=ZSP.1 hy;have:((gK x).1==(gK z).1)=false:=by
   rw[beq_eq_false_iff_ne];intro e;exact h.1<|ZSP.2 ⟨z,hz,(ZHt e).symm⟩
  rw[this];rfl
def ZHu(l:List Endz)(h:(l.map (·.Id)).Nodup):(ZEj l).Pairwise λa b=>ltS a.Id b.Id:=by
 have h1:=ZwI (l.map gK)<|ZFa l h;rw[ZF8,List.pairwise_map]at h1;exact h1.imp λ{a b}hab=>(ZHs a.Id b.Id).1 hab
def ZET:∀l:List Str,Z4 (l.map encS)=true
 |[]=>rfl
 |x::r=>by rw[ZS9];unfold Z4;rw[ZET r];rfl
def ZEU:∀l:List Endz,Z4 (l.map Endz.enc)=true
 |[]=>rfl
 |x::r=>by rw[ZS9];unfold Z4;rw[ZEU r];rfl
def ZFb(l:List Str)(hl:l.length<=1000):ZE7 44 [ZEa 44] 1 (l.map encS)=some ((ZEi l).map encS):=by
 unfold ZE7 ZEa;have h1:(l.map encS).all WB=true:=by rw[ZSe];intro x hx;obtain⟨y,_,rfl⟩:=ZSP.1 hx;rfl
 have h2:Nat.ble (l.map encS).length 1000000=true:=ZT2<|by rw[ZSf];omega
 simp only[h1,h2,ZHq];rfl
def ZG5(l:List Endz)(hl:l.length<=1000)(hn:(l.map (·.Id)).Nodup):ZEe 46 3 ZEf [ZEa 46] 3 (l.map Endz.enc)=some ((ZEj l).map Endz.enc):=by
 unfold ZEe ZEa;have h1:(l.map Endz.enc).all Zwl=true:=by rw[ZSe];intro x hx;obtain⟨y,_,rfl⟩:=ZSP.1 hx;rfl
 have h2:Nat.ble (l.map Endz.enc).length 1000000=true:=ZT2<|by rw[ZSf];omega
 have h3:(l.map Endz.enc).all (fits 3)=true:=by rw[ZSe];intro x hx;obtain⟨y,_,rfl⟩:=ZSP.1 hx;rfl
 simp only[ZG4,h1,h2,h3,ZEU,ZFa l hn,ZF8,ZTq];rfl
def ZEk(d:Ga):Endz:=⟨d.Id,d.Why,d.Ld⟩
structure IsFate(s:Sta)(id:Str)(D:List Str)(E:List Endz):Prop where
 dn:D.Nodup
 ds:D.Pairwise ltS
 es:E.Pairwise λa b=>ltS a.Id b.Id
 dm:∀x,x∈D↔∃d∈s.Bc,d.Id=x/\d.Ld<0/\Reach s id d.Id
 em:∀e,e∈E↔∃d∈s.Bc,e=ZEk d/\¬d.Ld<0/\d.After.l=[]/\Reach s id d.Id
 dl:D.length<=500
 el:E.length<=500
def ZHv(s:Sta)(hp:Jx s=true)(hs:StE s)(hN:s.Bc.length<=500)(id:Str)(hid:decide (Zn s id<0)=false):∃D E,pfn rE 17 [stA s,.str id]=some (.tup [ftA false false D E,I 0])/\IsFate s id D E:=by
 have hp':=((Zdb s).1 hp).1;obtain⟨Q,q1,q2,q3,q4,q5⟩:=ZHo s hp' hs hN id hid;have hQ:Q.length<=500:=by
  have:=ZF6 (Q.map (·.Id)) (s.Bc.map (·.Id)) q2 (λx hx=>by obtain⟨d,hd,rfl⟩:=ZSP.1 hx;exact List.mem_map_of_mem<|q3 d hd)
  simp only[ZSf]at this;omega
 have hin:∀d,d∈Q↔d∈s.Bc/\Reach s id d.Id:=λd=>⟨λh=>⟨q3 d h,q4 d h⟩,λ⟨h1,h2⟩=>by
  obtain⟨d',h3,h4⟩:=ZSP.1<|q5 _ h2
  rwa[<-ZFX (ZEF hp') (q3 d' h3) h1 h4]⟩
 have eD:ZEc Q=((Q.filter λd=>decide (d.Ld<0)).map (·.Id)).map encS:=by unfold ZEc;rw[ZTq];rfl
 have eE:ZEd Q=((Q.filter λd=>!decide (d.Ld<0)&&d.After.l.isEmpty).map ZEk).map Endz.enc:=by unfold ZEd;rw[ZTq];rfl
 have nD:((Q.filter λd=>decide (d.Ld<0)).map (·.Id)).Nodup:=q2.sublist<|(List.filter_sublist).map _
 have nE:(((Q.filter λd=>!decide (d.Ld<0)&&d.After.l.isEmpty).map ZEk).map (·.Id)).Nodup:=by
  rw[ZTq];exact q2.sublist<|(List.filter_sublist).map _
 have lD:((Q.filter λd=>decide (d.Ld<0)).map (·.Id)).length<=500:=by rw[ZSf];have:=List.length_filter_le (λd:Ga=>decide (d.Ld<0)) Q;omega
 have lE:((Q.filter λd=>!decide (d.Ld<0)&&d.After.l.isEmpty).map ZEk).length<=500:=by rw[ZSf];have:=List.length_filter_le (λd:Ga=>!decide (d.Ld<0)&&d.After.l.isEmpty) Q;omega
 have mD:∀x,x∈((Q.filter λd=>decide (d.Ld<0)).map (·.Id))↔∃d∈s.Bc,d.Id=x/\d.Ld<0/\Reach s id d.Id:=λx=>by
  rw[ZSP];constructor
  .rintro⟨d,hd,rfl⟩;rw[List.mem_filter]at hd;exact⟨d,q3 d hd.1,rfl,of_decide_eq_true hd.2,q4 d hd.1⟩
  .rintro⟨d,h1,h2,h3,h4⟩;exact⟨d,List.mem_filter.2 ⟨(hin d).2 ⟨h1,h4⟩,decide_eq_true h3⟩,h2⟩
 have mE:∀e,e∈((Q.filter λd=>!decide (d.Ld<0)&&d.After.l.isEmpty).map ZEk)↔∃d∈s.Bc,e=ZEk d/\¬d.Ld<0/\d.After.l=[]/\Reach s id d.Id:=λe=>by
  rw[ZSP];constructor
  .rintro⟨d,hd,rfl⟩;simp only[List.mem_filter,ZS5,ZSy,decide_eq_false_iff_not,List.isEmpty_iff]at hd;exact⟨d,q3 d hd.1,rfl,hd.2.1,hd.2.2,q4 d hd.1⟩
  .rintro⟨d,h1,h2,h3,h4,h5⟩;refine⟨d,?_,h2.symm⟩;simp only[List.mem_filter,ZS5,ZSy,decide_eq_false_iff_not,List.isEmpty_iff];exact⟨(hin d).2 ⟨h1,h5⟩,h3,h4⟩
 rw[eD,eE]at q1;generalize(Q.filter λd=>decide (d.Ld<0)).map (·.Id)=D0 at*
 generalize(Q.filter λd=>!decide (d.Ld<0)&&d.After.l.isEmpty).map ZEk=E0 at*
 have hc:pfn rE 40 [stA s,.str id]=some (I 0):=by
  rw[ZVg s hs id];unfold ZEb;rw[hp,hid];rfl
 have pD:=ZES D0;have pE:=ZF9 E0;refine⟨ZEi D0,ZEj E0,?_,pD.nodup_iff.2 nD,ZHr D0 nD,ZHu E0 nE,λx=>by rw[pD.mem_iff,mD],λe=>by rw[pE.mem_iff,mE],by rw[pD.length_eq];exact lD,by rw[pE.length_eq];exact lE⟩
 exact ZFW s id _ _ _ _ hc q1 (ZFb D0<|by omega) (ZG5 E0 (by omega) nE) (by simp[pD.length_eq]) (by simp[pE.length_eq]) (ZET _)<|ZEU _
def ZFi(s:Sta)(hs:StE s)(id:Str)(h:ZEb s id≠0):pfn rE 17 [stA s,.str id]=some (.tup [ftA false false [] [],I<|ZEb s id]):=by
 have hc:=ZVg s hs id;simp only[stA]at hc;have h0:(ZEb s id != 0)=true:=by rw[bne_iff_ne];exact h
 rw[Z5 (f:=17) rfl rfl];generalize ZEb s id=e at hc h0⊢;simp only[go_sem,c17,stA,hc,h0,ftA,List.map]
def ZGg{a b:Endz}:ZEq a b=true↔a=b:=by
 unfold ZEq;rw[ZS5,ZS5,Ky,beq_iff_eq,beq_iff_eq];constructor
 .rintro⟨h1,h2,h3⟩;cases a;cases b;simp_all
 .rintro rfl;exact⟨rfl,rfl,rfl⟩
def ZaX(l:List Str):HK l l=true:=by
 unfold HK;rw[beq_self_eq_true,ZSS,Zda];intro j x hx;rw[ZSa,hx];exact(Ky _ _).2 rfl
def ZIe(D:List Str)(E:List Endz):HL D D E E=true:=by
 unfold HL;rw[beq_self_eq_true,ZaX,ZSS,ZSS,Zda];intro j x hx;rw[ZSa,hx];exact ZGg.2 rfl
structure Tkt where
 Ga:Str
 Day:Int
 cd:Int
 Mark:Str
def Tkt.enc(t:Tkt):AV:=.agg [.str t.Ga,I t.Day,I t.cd,.str t.Mark]
def ZAD(n:Int):Bool:=!decide (n<0)&&!decide (n>100000)
def ZyM(bw ex:Bool)(l:List Int)(hl:l.length<9223372036854775807):pfn rE 35 [.isl bw ex 1<|l.map I]=some (.bool<|l.all ZAD):=by
 have L:=Uf (E:=rE) (live:=[5,6,7]) (b:=c35L0b) (h:=[]) l (λ_ x=>ZAD x) (λi=>[(5,.isl bw ex 1<|l.map I),(6,I l.length),(7,I i)]) 0 (λfr=>get fr 2=.bool false) (λi=>rfl)
  (λi x hx hP=>by
   have hg:=Z6 (f:=I) hx;have hi:=Zh<|Z7 hx;have hw:=Zx (n:=i) (by have:=Z7 hx;omega)
   unfold ZAD at hP;rw[ZS5,ZSy,ZSy]at hP;refine⟨_,by simp only[go_sem,c35L0b,hg,hi,hw,hP.1,hP.2];rfl,?_⟩
   simp only[go_sem])
  (λi x hx hP=>by
   have hg:=Z6 (f:=I) hx;have hi:=Zh<|Z7 hx;unfold ZAD at hP;cases h1:decide (x<0)with
   |true=>
    refine⟨_,by simp only[go_sem,c35L0b,hg,hi,h1];rfl,?_⟩
    simp only[go_sem]
   |false=>
    rw[h1]at hP;have h2:decide (x>100000)=true:=by simpa using hP
    refine⟨_,by simp only[go_sem,c35L0b,hg,hi,h1,h2];rfl,?_⟩
    simp only[go_sem])
  (⟨_,by simp only[go_sem,c35L0b,ZG];rfl⟩)
 rw[Z5 (f:=35) rfl rfl];rw[QE]at L;obtain⟨fr',h1,h2⟩:=L;have h1':Zg rE [5,6,7] c35L0b [(5,.isl bw ex 1<|l.map I),(6,I l.length),(7,.int .i64 0)] []=_:=h1;cases hc:l.all ZAD with
 |true=>rw[hc]at h1';simp only[go_sem,c35,c35L0,h1']
 |false=>
  rw[hc]at h1';have h2':=h2 hc;simp only[go_sem,c35,c35L0,h1',h2',ZSo]
def ZQR(n:Int):pfn rE 35 [.isl false false 1 [I n]]=some (.bool<|ZAD n):=by
 have:=ZyM false false [n]<|by simp
 rw[show [n].map I=[I n]from rfl]at this
 rw[this];simp only[ZSU,List.all_nil,ZSu]
def ZOx:Str:=B [48,49,50,51,52,53,54,55,56,57,97,98,99,100,101,102]
def ZOO(s c:Str):Str:=⟨(Go.Lib.trimS s.data.toList c.data.toList).toArray⟩
def ZOj(s:Str):Bool:=(s.size:Int)==16&&Z3 (ZOO s ZOx) emp
def ZQS(s:Str):pfn rE 56 [.str s]=some (.bool<|ZOj s):=by
 rw[Z5 (f:=56) rfl rfl];unfold ZOj;cases h:(s.size:Int)==16 with
 |false=>simp only[go_sem,c56,h]
 |true=>
  have hz:s.size=16:=by have:=eq_of_beq h;omega
  have e:ZOv [.str s,.str<|B [48,49,50,51,52,53,54,55,56,57,97,98,99,100,101,102]] []=some (.str<|ZOO s ZOx,[]):=by
   show(bif (Nat.ble s.size 9223372036854775807&&_)then some _ else none)=_
   rw[hz];rfl
  have e2:pfn rE 111 [.str s,.str<|B [48,49,50,51,52,53,54,55,56,57,97,98,99,100,101,102]]=some (.str<|ZOO s ZOx):=by
   unfold pfn;rw[V8 (s:=ZOv) rfl,e];rfl
  simp only[go_sem,c56,h,e2]
def ZUV(s:Str):Bool:=(Up s).err==0&&match(Up s).toks with
 |[t]=>t.br==1&&Z3 t.Text s
 |_=>false
def ZOe(t:Tkt):Bool:=ZUV t.Ga&&(decide (t.cd>=0)&&(decide (t.cd<=999999)&&(ZAD t.Day&&ZOj t.Mark)))
def ZUX(t:Tkt):pfn rE 27 [t.enc]=some (.bool<|ZOe t):=by
 have h:=Z1W t.Ga;have hd:=ZQR t.Day;have hm:=ZQS t.Mark;unfold ZOe ZUV;obtain⟨dr,dy,is,mk⟩:=t;unfold Tkt.enc;simp only at h hd hm⊢;generalize Up dr=x at h⊢;obtain⟨ts,err,pos⟩:=x;unfold Lx.val at h;simp only at h⊢;rw[Z5 (f:=27) rfl rfl];cases h0:err==0 with
 |false=>simp only[go_sem,c27,h,h0]
 |true=>
  rcases ts with _|⟨⟨tk,ta,tn,tt⟩,_|⟨t2,ts⟩⟩
  .have e:(((0:Nat):Int)==1)=false:=rfl;simp only[go_sem,c27,h,h0,e]
  .have e:(((0+1:Nat):Int)==1)=true:=rfl;have e1:ixG [.agg [I tk,I ta,I tn,.str tt]] 0=some (.agg [I tk,I ta,I tn,.str tt]):=rfl;have e2:(((1:Nat):Int)==1)=true:=rfl;cases h1:tk==1 with
   |false=>simp only[go_sem,c27,h,h0,e,e1,h1,Tok.enc]
   |true=>
    cases h2:Z3 tt dr with
    |false=>simp only[go_sem,c27,h,h0,e,e1,h1,h2,Tok.enc]
    |true=>
     cases h3:decide (is>=0)with
     |false=>simp only[go_sem,c27,h,h0,e,e1,h1,h2,h3,Tok.enc]
     |true=>
      cases h4:decide (is<=999999)with
      |false=>simp only[go_sem,c27,h,h0,e,e1,h1,h2,h3,h4,Tok.enc]
      |true=>
       cases h5:ZAD dy<;>simp only[go_sem,c27,h,h0,e,e1,h1,h2,h3,h4,h5,Tok.enc,hd,hm]
  .have e:(((ts.length+1+1:Nat):Int)==1)=false:=by
    rw[beq_eq_false_iff_ne];omega
   simp only[go_sem,c27,h,h0,e]
structure TkOk(t:Tkt):Prop where
 nm:ZUV t.Ga=true
 i0:0<=t.cd
 i1:t.cd<=999999
 d0:0<=t.Day
 d1:t.Day<=100000
 dg:ZOj t.Mark=true
def tkS:Str:=B [116,105,99,107,101,116]
def ZOR(t:Tkt):Bool:=decide ((t.Ga.size:Int)<=100)&&decide ((t.Mark.size:Int)<=100)
def ZUW(t:Tkt):pfn rE 10 [t.enc]=some (.bool<|ZOR t):=by
 obtain⟨dr,dy,is,mk⟩:=t;unfold Tkt.enc ZOR;simp only;rw[Z5 (f:=10) rfl rfl];cases h1:decide ((dr.size:Int)<=100)<;>simp only[go_sem,c10,h1,ZSS,Bool.false_and]
def ZVh(s:Sta)(id:Str):Option Ga:=bif decide (Zn s id<0)then none else s.Bc[(Zn s id).toNat]?
def ZUZ(s:Sta)(t:Tkt):Bool:=match ZVh s t.Ga with
 |some d=>decide (d.From<=t.Day)
 |none=>false
def vwA(s:Sta)(t:Tkt):AV:=.agg [.str t.Ga,I t.Day,I t.cd,.str t.Mark,.isl false false 6<|s.Fa.map Gk.enc,.isl false false 5<|s.Gm.map By.enc,.isl false false 4<|s.Bt.map Ev.enc,.isl false false 16<|s.Bc.map Ga.enc,.isl false false 6<|s.Nk.map be.enc,.isl false false 2<|s.Gc.map bf.enc,.isl false false 2<|s.ba.map bf.enc]
def ZVj(s:Sta)(hs:StS s)(t:Tkt):pfn rE 36 [vwA s t]=some (.bool<|ZUZ s t):=by
 have hf:=find_ok s hs t.Ga;obtain⟨dr,dy,is,mk⟩:=t;unfold ZUZ ZVh vwA stA at*;simp only at hf⊢;rw[Z5 (f:=36) rfl rfl];cases h0:decide (Zn s dr<0)with
 |true=>
  have h1:decide (Zn s dr>=0)=false:=decide_eq_false (by have:=of_decide_eq_true h0;omega)
  simp only[go_sem,c36,hf,h1]
 |false=>
  obtain⟨j,d,hj,hd⟩:=QC (l:=s.Bc) h0;have hj':Zn s dr=(j:Int):=hj;rw[hj']at hf⊢;have h1:decide ((j:Int)>=0)=true:=decide_eq_true<|by omega
  have hg:=Z6 (f:=Ga.enc) hd;rw[cond_false,show((j:Int)).toNat=j from rfl,hd]
  have he:d.enc=.agg [.str d.Id,.str d.Ev,.str d.By,I d.bh,I d.An.N,.str d.An.bn,I d.An.Num,I d.An.Den,I d.bg.X,I d.bg.Y,I d.From,I d.Ld,d.After.enc 1 encS,I d.Why,I d.bz,.str d.Veil]:=rfl;rw[he]at hg;simp only[go_sem,c36,hf,h1,hg]
def ZV0(s:Sta)(t:Tkt)(bq bp:Int)(D:List Str)(E:List Endz)(e:Int):AV×Int:=
 bif !ZOe t||!(ZAD bq&&ZAD bp)then(ftA false false [] [],1)else bif decide (bq<t.Day)then(ftA false false [] [],13)else bif !ZUZ s t then(ftA false false [] [],10)else(ftA false false D E,e)
def ZV7(V:NL Ver)(t:Tkt)(bq bp:Int)(s:Sta)(hs:StS s)(er:List Int)(D:List Str)(E:List Endz)(e:Int)
 (hA:pfn rE 16 [vsA V,I bq,I bp]=some (.tup [stA s,.isl false false 1<|er.map I])) (hF:pfn rE 17 [stA s,.str t.Ga]=some (.tup [ftA false false D E,I e])):
 pfn rE 15 [vsA V,t.enc,I bq,I bp]=some (.tup [(ZV0 s t bq bp D E e).1,I (ZV0 s t bq bp D E e).2]):=by
 have h1:=ZUX t;have h2:=ZyM false false [bq,bp]<|by simp
 have h3:=ZVj s hs t;have hcl:Z4 (er.map I)=true:=Zw (λ_=>rfl) er
 have hcs:Z4 [AV.isl false false 6<|s.Fa.map Gk.enc,.isl false false 5<|s.Gm.map By.enc,.isl false false 4<|s.Bt.map Ev.enc,.isl false false 16<|s.Bc.map Ga.enc,.isl false false 6<|s.Nk.map be.enc,.isl false false 2<|s.Gc.map bf.enc,.isl false false 2<|s.ba.map bf.enc]=true:=rfl;rw[show [bq,bp].map I=[I bq,I bp]from rfl]at h2
 unfold ZV0;generalize ZOe t=b1 at h1⊢;rw[show [bq,bp].all ZAD=(ZAD bq&&ZAD bp)by simp]at h2
 generalize(ZAD bq&&ZAD bp)=b2 at h2⊢;generalize ZUZ s t=b4 at h3⊢;obtain⟨dr,dy,is,mk⟩:=t;unfold vwA stA ftA vsA Tkt.enc at*;simp only at*;rw[Z5 (f:=15) rfl rfl];cases b1 with
 |false=>simp only[go_sem,c15,h1,ZSw,Bool.true_or,ZSA]
 |true=>
  cases b2 with
  |false=>simp only[go_sem,c15,h1,h2,ZSF,ZSw,Bool.false_or,ZSA]
  |true=>
   cases b3:decide (bq<dy)with
   |true=>simp only[go_sem,c15,h1,h2,b3,ZSF,Bool.false_or,ZSA]
   |false=>
    cases b4 with
    |false=>simp only[go_sem,c15,h1,h2,b3,hA,h3,ZSF,ZSw,Bool.false_or,ZSA]
    |true=>simp only[go_sem,c15,h1,h2,b3,hA,h3,hF,ZSF,Bool.false_or]
def ZVk(s:Sta)(hs:StE s)(hN:s.Bc.length<=500)(id:Str):∃D E e,pfn rE 17 [stA s,.str id]=some (.tup [ftA false false D E,I e])/\D.length<=1000/\E.length<=1000:=by
 by_cases h:ZEb s id=0
 .have hp:Jx s=true:=by
   unfold ZEb at h;cases c:Jx s with
   |true=>rfl
   |false=>rw[c]at h;cases h
  have hid:decide (Zn s id<0)=false:=by
   unfold ZEb at h;rw[hp,cond_true]at h;cases c:decide (Zn s id<0)with
   |false=>rfl
   |true=>rw[c]at h;cases h
  obtain⟨D,E,h1,h2⟩:=ZHv s hp hs hN id hid;exact⟨D,E,0,h1,by have:=h2.dl;omega,by have:=h2.el;omega⟩
 .exact⟨[],[],_,ZFi s hs id h,by simp,by simp⟩
def atP(bp:Int)(v:Ver):Bool:=decide (v.At<=bp)
def ZCL(l:List Ver):List Ver:=l.reverse++l
def ZUY(l:List Ver)(bp:Int):List Ver:=l.reverse.filter<|atP bp
def ZAE(L:List Ver):Z4 (L.map Ver.enc)=true:=Zw (λv=>by have:=Zyt v;unfold Z4 at this;rw[ZS5]at this;exact this.1) L
def ZD7(L:List Ver):(L.map Ver.enc).all (fits 8)=true:=by rw[List.all_map,ZSe];intro x _;rfl
def tkI(t:Tkt):AV:=.iptr false [.str t.Ga,I t.Day,I t.cd,.str t.Mark]
abbrev knF(V:NL Ver)(T:AV)(bq bp:Int)(n m:Nat)(x:Int):Fr:=[(0,vsA V),(2,I bq),(3,I bp),(5,T),(9,.bool true),(10,.sl 0 n 0 n false),(11,.sl 1 m 0 m false),(12,I x)]
abbrev knH(O Q:List Ver):Hp:=[.row 8<|O.map Ver.enc,.row 8<|Q.map Ver.enc]
def ZVl(O Q:List Ver)(v:Ver)(hl:O.length<=1000):appW (knH O Q) false 8 120 (.sl 0 O.length 0 O.length false) (.isl false false 8 [v.enc])=some (.sl 0 (O.length+1) 0 (O.length+1) false,knH (O++[v]) Q):=by
 rw[XC (b:=0) (g:=O.length) (es:=O.map Ver.enc) (ys:=[v.enc]) (by simp[rowAt]) rfl (by rfl) (by decide) (by decide) (by simp;omega)]
 unfold knH;rw[ZTs];rfl
def ZVm(O Q:List Ver)(v:Ver)(hl:Q.length<=1000):appW (knH O Q) false 8 120 (.sl 1 Q.length 0 Q.length false) (.isl false false 8 [v.enc])=some (.sl 1 (Q.length+1) 0 (Q.length+1) false,knH O<|Q++[v]):=by
 rw[XC (b:=1) (g:=Q.length) (es:=Q.map Ver.enc) (ys:=[v.enc]) (by simp[rowAt]) rfl (by rfl) (by decide) (by decide) (by simp;omega)]
 unfold knH;rw[ZTs];rfl
def ZV1(O Q:List Ver):∀n,Zj n (.row 8<|O.map Ver.enc)=true/\Zj n (.row 8<|Q.map Ver.enc)=true:=λn=>⟨ZN _<|ZAE O,ZN _<|ZAE Q⟩
def ZVn(V:NL Ver)(t:Tkt)(bq bp:Int)(hl:V.l.length<=100):
 Zg rE [0,2,3,5,9,10,11,12] c5L0b (knF V (tkI t) bq bp 0 0<|(V.l.length:Int)-1) (knH [] []) =
  some (.exit 0,knF V (tkI t) bq bp V.l.length (ZUY V.l bp).length<|-1,knH V.l.reverse<|ZUY V.l bp):=by
 have L:=Y8 (E:=rE) (live:=[0,2,3,5,9,10,11,12]) (b:=c5L0b) V.l.length (λj=>knF V (tkI t) bq bp j ((V.l.reverse.take j).filter (atP bp)).length<|(V.l.length:Int)-1-(j:Int))
  (λj=>knH (V.l.reverse.take j)<|(V.l.reverse.take j).filter (atP bp)) (λj=>rfl)
  (λj hj=>by
   have hi:V.l.length-1-j<V.l.length:=by omega
   have hv:V.l[V.l.length-1-j]?=some V.l[V.l.length-1-j]:=ZSb hi;generalize V.l[V.l.length-1-j]=v at hv;have hg:=Z6 (f:=Ver.enc) hv;have hev:v.enc=.agg [I v.Mv,I v.An,I v.At,.str v.Prev,.isl false v.bc.ex 18<|v.bc.l.map λe=>evA e,I v.Index,.isl false v.Sig.ex 1<|v.Sig.l.map encS,.isl false v.Path.ex 1<|v.Path.l.map encS]:=rfl
   have hr:V.l.reverse.take (j+1)=V.l.reverse.take j++[v]:=by
    rw[List.take_add_one,List.getElem?_reverse hj,hv];rfl
   have hlen:(V.l.reverse.take j).length=j:=by rw[ZTd,List.length_reverse];omega
   have hx:(V.l.length:Int)-1-(j:Int)=((V.l.length-1-j:Nat):Int):=by omega
   have hc:decide (((V.l.length-1-j:Nat):Int)>=0)=true:=decide_eq_true<|by omega
   have hw:IntKind.i64.wrap (((V.l.length-1-j:Nat):Int)-1)=(V.l.length:Int)-1-((j+1:Nat):Int):=by rw[YM (by omega)<|by omega];omega
   rw[hr,List.filter_append];have hfl:((V.l.reverse.take j).filter (atP bp)).length<=j:=by
    have:=List.length_filter_le (atP bp)<|V.l.reverse.take j;omega
   generalize(V.l.reverse.take j).filter (atP bp)=Q at*;generalize V.l.reverse.take j=O at*;have hb0:=ZV1 O Q;have hb1:=ZV1 (O++[v]) Q;have hb2:=ZV1 (O++[v])<|Q++[v];have hA:=ZVl O Q v<|by omega
   have hB:=ZVm (O++[v]) Q v<|by omega
   unfold knH at hA hB;rw[hlen]at hA;have hb0':=λn=>(hb0 n).1
   have hb0'':=λn=>(hb0 n).2
   have hb1':=λn=>(hb1 n).1
   have hb2':=λn=>(hb2 n).2
   rw[hev]at hg hA hB;show ∃fr',Zb rE c5L0b (knF V (tkI t) bq bp j Q.length<|(V.l.length:Int)-1-(j:Int)) (knH O Q)=_/\_
   rw[hx];cases c:decide (v.At<=bp)with
   |true=>
    have hf:[v].filter (atP bp)=[v]:=by rw[List.filter_cons];unfold atP;rw[c];rfl
    rw[hf,ZSM,ZU5];refine⟨knF V (tkI t) bq bp (j+1) (Q.length+1)<|(V.l.length:Int)-1-((j+1:Nat):Int),?_,rfl⟩;simp only[go_sem,c5L0b,knF,knH,hg,hc,hw,hA,hB,c,hb0'',hb1',hb2']
   |false=>
    have hf:[v].filter (atP bp)=[]:=by rw[List.filter_cons];unfold atP;rw[c];rfl
    rw[hf,ZT9];refine⟨knF V (tkI t) bq bp (j+1) Q.length<|(V.l.length:Int)-1-((j+1:Nat):Int),?_,rfl⟩;simp only[go_sem,c5L0b,knF,knH,hg,hc,hw,hA,c,hb0'',hb1'])
  (e:=.exit 0) (fr:=knF V (tkI t) bq bp V.l.length (ZUY V.l bp).length<|-1) (h:=knH V.l.reverse<|ZUY V.l bp) (by
   have hb:=ZV1 V.l.reverse<|ZUY V.l bp;have hb':=λn=>(hb n).1
   have hb'':=λn=>(hb n).2
   have hx:(V.l.length:Int)-1-(V.l.length:Int)=-1:=by omega
   have hc:decide ((-1:Int)>=0)=false:=rfl;have ht:V.l.reverse.take V.l.length=V.l.reverse:=ZSX<|by simp
   rw[hx,ht];show Zb rE c5L0b (knF V (tkI t) bq bp V.l.length (ZUY V.l bp).length<|-1) (knH V.l.reverse<|ZUY V.l bp)=_
   simp only[go_sem,c5L0b,knF,knH,hc,hb',hb'']) (by simp)
 have e0:(V.l.length:Int)-1-((0:Nat):Int)=(V.l.length:Int)-1:=by omega
 rw[e0]at L;exact L
def ZV8(l:List Ver)(bp:Int):SameK l (ZCL l) bp:=by
 unfold ZCL;refine⟨λv hv _=>ZTT _ hv,λv hv=>?_⟩
 rcases ZSz.1 hv with h|h
 .exact List.mem_reverse.1 h
 .exact h
def ZV9(l:List Ver)(bp:Int):SameK l (ZUY l bp) bp:=by
 unfold ZUY;refine⟨λv hv ha=>List.mem_filter.2 ⟨List.mem_reverse.2 hv,decide_eq_true ha⟩,λv hv=>?_⟩
 exact List.mem_reverse.1 (List.mem_filter.1 hv).1
def ZVo(V:NL Ver)(t:Tkt)(hm:∀v∈V.l,v.bc.l.length<=140737488355328):pfn rE 14 [vsA V,t.enc]=some (.bool<|ZvT V.l 16&&ZOR t):=by
 have h1:=ZAm V 16 hm;have h2:=ZUW t;unfold Tkt.enc at*;rw[Z5 (f:=14) rfl rfl];cases c:ZvT V.l 16 with
 |false=>rw[c]at h1;simp only[go_sem,c14,h1,Bool.false_and]
 |true=>rw[c]at h1;simp only[go_sem,c14,h1,h2,ZSS]
def ZVp{V:NL Ver}(h:FewS V.l)(bq bp:Int):StE (Zr5 V.l bq bp).1/\(Zr5 V.l bq bp).1.Bc.length<=500:=by
 have h1:=Zwf V.l bq bp;have h2:=h.sum;have h3:=(Zx3 h.vs (Zr3 V.l bq bp) 0 (Yh,[]) (StN.zero 0)<|by omega).1
 refine⟨h3.e,?_⟩;have h4:=h3.doors;have h5:(Zr5 V.l bq bp).1=((Zr3 V.l bq bp).foldl (Zvi V.l) (Yh,[])).1:=rfl;rw[h5];omega
def ZVq(s:Sta)(t:Tkt)(bq bp:Int)(D:List Str)(E:List Endz)(e:Int)(hD:D.length<=1000)(hE:E.length<=1000):∃D' E' q,ZV0 s t bq bp D E e=(ftA false false D' E',q)/\D'.length<=1000/\E'.length<=1000:=by
 unfold ZV0;cases !ZOe t||!(ZAD bq&&ZAD bp)with
 |true=>exact⟨[],[],1,rfl,by simp,by simp⟩
 |false=>
  cases decide (bq<t.Day)with
  |true=>exact⟨[],[],13,rfl,by simp,by simp⟩
  |false=>
   cases ZUZ s t with
   |false=>exact⟨[],[],10,rfl,by simp,by simp⟩
   |true=>exact⟨D,E,e,rfl,hD,hE⟩
def ZDM{h:Hp}{aid b g sz bytes:Nat}{es ys:List AV}{bw ex fz:Bool}(hr:rowAt h b g=some (sz,es))(hy:ys.isEmpty=false)(hf:ys.all (fits sz)=true)(h0:0<sz)(h1:0<bytes)(h2:(g+ys.length)*bytes<=140737488355328):
 Qt h aid fz sz bytes (.sl b g 0 g false) (.isl bw ex sz ys)=some (.sl b (g+ys.length) 0 (g+ys.length) false,[b],some (b,.row sz<|es++ys)):=by
 unfold rowAt at hr;cases hb:h[b]? with
 |none=>rw[hb]at hr;cases hr
 |some o=>
  rw[hb]at hr;cases o with
  |row sz' es'=>
   dsimp only at hr;cases hg:(es'.length==g)with
   |false=>rw[hg]at hr;cases hr
   |true=>
    rw[hg]at hr;simp only[cond_true,Option.some.injEq,Prod.mk.injEq]at hr;obtain⟨rfl,rfl⟩:=hr;have hl:es'.length=g:=by simpa using hg
    have ht:List.take g es'=es':=ZSX<|by omega
    subst hl;simp only[Qt,Q2,hb,hg,cond_true,ZTA,ht,Qq,beq_self_eq_true,Bool.true_or,h0,h1,h2,and_self,if_true,hy,cond_false,hf,ZSJ,Zs]
  |_=>cases hr
def ZDN{h:Hp}{aid b g sz bytes:Nat}{es:List AV}{bw ex fz:Bool}(hr:rowAt h b g=some (sz,es))(h0:0<sz)(h1:0<bytes)(h2:g*bytes<=140737488355328):
 Qt h aid fz sz bytes (.sl b g 0 g false) (.isl bw ex sz [])=some (.sl b g 0 g false,[b],none):=by
 unfold rowAt at hr;cases hb:h[b]? with
 |none=>rw[hb]at hr;cases hr
 |some o=>
  rw[hb]at hr;cases o with
  |row sz' es'=>
   dsimp only at hr;cases hg:(es'.length==g)with
   |false=>rw[hg]at hr;cases hr
   |true=>
    rw[hg]at hr;simp only[cond_true,Option.some.injEq,Prod.mk.injEq]at hr;obtain⟨rfl,rfl⟩:=hr;have hl:es'.length=g:=by simpa using hg
    have ht:List.take g es'=es':=ZSX<|by omega
    subst hl;simp only[Qt,Q2,hb,hg,cond_true,ZTA,ht,Qq,beq_self_eq_true,Bool.true_or,h0,h1,h2,and_self,if_true,Zs,ZT8,ZSp,List.isEmpty_nil,ZT9]
  |_=>cases hr
def ZDG{h:Hp}{b g sz bytes:Nat}{es ys:List AV}{bw ex:Bool}(hr:rowAt h b g=some (sz,es))(hf:ys.all (fits sz)=true)(h0:0<sz)(h1:0<bytes)(h2:(g+ys.length)*bytes<=140737488355328)(hc:Z4 (es++ys)=true):
 Zwk h sz bytes (.sl b g 0 g false) (.isl bw ex sz ys)=some (.isl false false sz<|es++ys,[b],some (b,.gone)):=by
 unfold Zwk;have hg:∃z,h[b]?=some (.row sz es)/\es.length=g/\z=0:=by
  unfold rowAt at hr;cases hb:h[b]? with
  |none=>rw[hb]at hr;cases hr
  |some o=>
   rw[hb]at hr;cases o with
   |row sz' es'=>
    dsimp only at hr;cases hg:(es'.length==g)with
    |false=>rw[hg]at hr;cases hr
    |true=>
     rw[hg]at hr;simp only[cond_true,Option.some.injEq,Prod.mk.injEq]at hr;obtain⟨rfl,rfl⟩:=hr;exact⟨0,rfl,by simpa using hg,rfl⟩
   |_=>cases hr
 obtain⟨_,hb,hl,_⟩:=hg;cases ys with
 |nil=>
  rw[ZDN hr h0 h1<|by simpa using h2]
  rw[ZT9]at hc⊢;have e1:(es.length==g&&Z4 es)=true:=by rw[hc,hl];simp
  simp only[ZvE,hb,e1,cond_true,ZTA];rw[ZSX<|Nat.le_of_eq hl]
 |cons y r=>
  rw[ZDM hr rfl hf h0 h1 h2];have e1:((es++y::r).length==g+(y::r).length&&Z4 (es++y::r))=true:=by rw[hc,ZSM,hl];simp
  have e2:(b==b&&((es++y::r).length==g+(y::r).length&&Z4 (es++y::r)))=true:=by rw[e1];simp
  simp only[ZvE,e2,cond_true,ZTA];rw[ZSX<|Nat.le_of_eq<|by rw[ZSM,hl]]
def Zrb(hup:pfn rE 8 []=some (.bool true))(V:NL Ver)(t:Tkt)(hm:∀v∈V.l,v.bc.l.length<=140737488355328)(bq bp:Int):
 pfn rE 5 [vsA V,t.enc,I bq,I bp]=some (.bool true):=by
 have hF:=ZVo V t hm;cases c1:ZvT V.l 16&&ZOR t with
 |false=>
  rw[c1]at hF;unfold Tkt.enc at*;rw[Z5 (f:=5) rfl rfl];simp only[go_sem,c5,hup,hF,ZSw]
 |true=>
  rw[c1]at hF;rw[ZS5]at c1;have hfew:=Zx5 c1.1;have hlen:=hfew.len;have hD:=ZD0 V<|by omega
  cases c3:decide ((V.l.length:Int)>10)with
  |true=>
   unfold Tkt.enc at*;rw[Z5 (f:=5) rfl rfl];simp only[go_sem,c5,hup,hF,c3,ZSF,ZSf]
  |false=>
   cases c2:ZCQ V.l with
   |false=>
    rw[c2]at hD;unfold Tkt.enc at*;rw[Z5 (f:=5) rfl rfl];simp only[go_sem,c5,hup,hF,c3,hD,ZSF,ZSw,ZSf]
   |true=>
    rw[c2]at hD;have hd:=ZD3 c2;obtain⟨hS,hN⟩:=ZVp hfew bq bp;obtain⟨D,E,e,hFt,hDl,hEl⟩:=ZVk _ hS hN t.Ga;have hbl:(ZCL V.l).length<=40:=by unfold ZCL;rw[ZSM,List.length_reverse];omega
    have hll:(ZUY V.l bp).length<=V.l.length:=by
     have:=List.length_filter_le (atP bp) V.l.reverse;rw[List.length_reverse]at this;exact this
    have hA1:=Zwg V hfew bq bp;have hA2:=ZyF ⟨false,ZCL V.l⟩ (ZVe hfew hbl (ZV8 V.l bp).of) bq bp (by have:=ZVf hfew hd (ZV8 V.l bp) (bq:=bq);dsimp only;omega)
    have hA3:=ZyF ⟨false,ZUY V.l bp⟩ (ZVe hfew (by omega) (ZV9 V.l bp).of) bq bp (by have:=ZVf hfew hd (ZV9 V.l bp) (bq:=bq);dsimp only;omega)
    dsimp only at hA2 hA3;rw[ZVd hd<|ZV8 V.l bp]at hA2;rw[ZVd hd<|ZV9 V.l bp]at hA3;have R1:=ZV7 V t bq bp _ hS.sizes _ D E e hA1 hFt;have R2:=ZV7 ⟨false,ZCL V.l⟩ t bq bp _ hS.sizes _ D E e hA2 hFt;have R3:=ZV7 ⟨false,ZUY V.l bp⟩ t bq bp _ hS.sizes _ D E e hA3 hFt;obtain⟨D',E',q,hr,hD',hE'⟩:=ZVq (Zr5 V.l bq bp).1 t bq bp D E e hDl hEl;rw[hr]at R1 R2 R3;have hS1:=ZF5 false false false false D' D' E' E' hD' hE';rw[ZIe]at hS1;have L:=ZVn V t bq bp<|by omega
    have hw0:IntKind.i64.wrap ((V.l.length:Int)-1)=(V.l.length:Int)-1:=YM (by omega)<|by omega
    have hap:=λX=>ZDG (h:=[.row 8<|V.l.reverse.map Ver.enc,.row 8<|(ZUY V.l bp).map Ver.enc,X]) (b:=0) (g:=V.l.length) (sz:=8) (bytes:=120) (es:=V.l.reverse.map Ver.enc) (ys:=V.l.map Ver.enc) (bw:=false) (ex:=V.ex) (by simp[rowAt]) (ZD7 _) (by decide) (by decide) (by simp;omega)<|by rw[<-ZTs];exact ZAE _
    rw[<-ZTs,show V.l.reverse++V.l=ZCL V.l from rfl]at hap
    have hcl2:Z4 ((ZUY V.l bp).map Ver.enc)=true:=ZAE _;have htk:((ZUY V.l bp).map Ver.enc).take (ZUY V.l bp).length=(ZUY V.l bp).map Ver.enc:=ZSX<|by simp
    have hqq:(q==q)=true:=beq_self_eq_true q;have hb:=ZV1 V.l.reverse<|ZUY V.l bp;have hb0:=λn=>(hb n).1
    have hb1:=λn=>(hb n).2
    have hbf:∀n,Zj n (.row 2 [ftA false false D' E'])=true:=λn=>ZN (n:=n) [_]<|by simp only[Z4,ftA,clean];rfl
    have f2:∀h n,ZC true h (n+1) ((ZUY V.l bp).map Ver.enc)=some ((ZUY V.l bp).map Ver.enc):=λh n=>by simp only[ZC,hcl2,cond_true]
    have f2:=λh=>f2 h 37
    simp only[Nat.reduceAdd]at f2;have hok:∀w,Qy ⟨false,[],none,none⟩ ⟨false,[0],w,none⟩=true:=λw=>by cases w<;>rfl
    unfold knF knH tkI at L;simp only[ZSA]at L;unfold Tkt.enc ftA at*;simp only at R1 R2 R3;rw[Z5 (f:=5) rfl rfl];simp only[go_sem,c5,c5L0,hup,hF,hD,c3,hw0,L,hap,hcl2,htk,R1,R2,R3,hS1,hqq,hb0,hb1,hbf,hok,ZwE,ZM,ZH,wrB,ZSt,ZSF,ZSf,ZTA,beq_self_eq_true]
end Go.AM
