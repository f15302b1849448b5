/- The abstract machine and its soundness, part 2: what it computes, the program computes. No condition. -/
import Derived.Test.YtaeppjlndecijabGreatDoorQ1
import Derived.LoopNIn
import Derived.RangeFuncRecord
import Derived.OrdersIn
set_option linter.unusedVariables false
set_option linter.defProp false
set_option linter.unusedSimpArgs false
set_option linter.unusedSectionVars false
namespace Go.AM
open Go
variable [Dr]
variable {P:Program} {E:Env} {T:Ty} {X:Xt} {w:World} {h:Hp} {fr:Fr} {a:Act}
mutual
theorem KK:(v:AV)->clean v=true->Zy v=true
 | .agg cs,h=>XW cs h
 | .tup cs,h=>XW cs h
 | .ifc _ v,h=>KK v h
 | .clo _ f c,h=>by
  simp only[clean,ZXf]at h;simp only[Zy,ZXf];exact⟨XW f h.1,XW c h.2⟩
 | .bot,_=>rfl
 | .bool _,_=>rfl
 | .int _ _,_=>rfl
 | .str _,_=>rfl
 | .nilp,_=>rfl
 | .nilsl,_=>rfl
 | .nilmap,_=>rfl
 | .nilfn,_=>rfl
 | .nilif,_=>rfl
 | .iptr _ _,_=>rfl
 | .isl _ _ _ _,_=>rfl
 | .imap _ _ _,_=>rfl
 | .ptr _ _ _ _,h=>by simp[clean]at h
 | .sl _ _ _ _ _,h=>by simp[clean]at h
 | .mp _,h=>by simp[clean]at h
 | .it _,h=>by simp[clean]at h
 | .yld _,h=>by simp[clean]at h
theorem XW:(vs:List AV)->Z4 vs=true->Zi vs=true
 |[],_=>rfl
 |v::vs,h=>by
  simp only[Z4,ZXf]at h;simp only[Zi,ZXf];exact⟨KK v h.1,XW vs h.2⟩
end
def V6{bw:Bool}{cs:List AV}(a:okc bw cs=true):Zi cs=true:=by
 cases bw with
 |false=>exact XW cs a
 |true=>exact a
def Ty.empty:Ty:=λ_=>none
def XX(r:Nat):¬Ty.empty.rng r:=by
 rintro⟨b,c,a,_⟩;cases a
mutual
theorem Ww{X2:Xt}(h2:∀r,¬T.rng r->¬X r->¬X2 r):(v:AV)->(rv:Value)->Zy v=true->R T X w v rv->R Ty.empty X2 w v rv
 | .bot,_,_,_=>trivial
 | .bool _,_,_,h=>h
 | .int _ _,_,_,h=>h
 | .str _,_,_,h=>h
 | .nilp,_,_,h=>h
 | .nilsl,_,_,h=>h
 | .nilmap,_,_,h=>h
 | .nilfn,_,_,h=>h
 | .nilif,_,_,h=>h
 | .agg cs,v,hn,h=>by
  obtain⟨vs,rfl,h⟩:=h;exact⟨vs,rfl,XY h2 cs _ hn h⟩
 | .tup cs,v,hn,h=>by
  obtain⟨vs,rfl,h⟩:=h;exact⟨vs,rfl,XY h2 cs _ hn h⟩
 | .iptr bw cs,v,hn,h=>by
  obtain⟨r,o,rfl,d,e,a,i,b⟩:=h;exact⟨r,o,rfl,XX r,λj=>h2 r d<|e j,a,i,Gg h2 r cs o (V6 a) b⟩
 | .isl bw ex sz es,v,hn,h=>by
  obtain⟨ad,p,cap,rfl,d,e,a,i,b⟩:=h;refine⟨ad,p,cap,rfl,d,e,a,i,?_⟩;rcases b with b|⟨r,o,m,k,n,q9,q10⟩
  .exact .inl b
  .exact .inr ⟨r,o,m,XX r,λj=>h2 r k<|n j,q9,Gh h2 sz r es o (V6 i) q10⟩
 | .imap bw ks vs,v,hn,h=>by
  obtain⟨r,es,g,l,rfl,d,e,a,i,b,m,k,n⟩:=h;exact⟨r,es,g,l,rfl,XX r,λj=>h2 r d<|e j,a,i,b,m,XY h2 ks _ (V6 a.1) k,XY h2 vs _ (V6 a.2) n⟩
 | .ifc t x,v,hn,h=>by
  obtain⟨u,rfl,h⟩:=h;exact⟨u,rfl,Ww h2 x u hn h⟩
 | .clo fn first cap,v,hn,h=>by
  obtain⟨f,c,rfl,d,e⟩:=h;simp only[Zy,ZXf]at hn;exact⟨f,c,rfl,XY h2 first _ hn.1 d,XY h2 cap _ hn.2 e⟩
 | .ptr _ _ _ _,_,hn,_=>by simp[Zy]at hn
 | .sl _ _ _ _ _,_,hn,_=>by simp[Zy]at hn
 | .mp _,_,hn,_=>by simp[Zy]at hn
 | .it _,_,hn,_=>by simp[Zy]at hn
 | .yld _,_,hn,_=>by simp[Zy]at hn
theorem XY{X2:Xt}(h2:∀r,¬T.rng r->¬X r->¬X2 r):(vs:List AV)->(rs:List Value)->Zi vs=true->Rs T X w vs rs->Rs Ty.empty X2 w vs rs
 |[],_,_,h=>h
 |a::as,vs,hn,h=>by
  obtain⟨v,b,rfl,d,c⟩:=h;simp only[Zi,ZXf]at hn;exact⟨v,b,rfl,Ww h2 a v hn.1 d,XY h2 as b hn.2 c⟩
theorem Gg{X2:Xt}(h2:∀r,¬T.rng r->¬X r->¬X2 r)(r:Nat):(cs:List AV)->(o:Nat)->Zi cs=true->ZV T X w r cs o->ZV Ty.empty X2 w r cs o
 |[],_,_,_=>trivial
 |a::as,o,hn,h=>by
  have⟨⟨v,c,b⟩,q3⟩:=h;simp only[Zi,ZXf]at hn;exact⟨⟨v,c,Ww h2 a v hn.1 b⟩,Gg h2 r as (o+1) hn.2 q3⟩
theorem Gh{X2:Xt}(h2:∀r,¬T.rng r->¬X r->¬X2 r)(sz r:Nat):(cs:List AV)->(o:Nat)->Zi cs=true->ZA T X w sz r cs o->ZA Ty.empty X2 w sz r cs o
 |[],_,_,_=>trivial
 |a::as,o,hn,h=>by
  simp only[Zi,ZXf]at hn;cases a with
  |agg cs=>
   have⟨d,c,b⟩:=h;exact⟨d,Gg h2 r cs o hn.1 c,Gh h2 sz r as (o+sz) hn.2 b⟩
  |_=>
   have⟨d,⟨v,c,b⟩,q4⟩:=h;exact⟨d,⟨v,c,Ww h2 _ v hn.1 b⟩,Gh h2 sz r as (o+sz) hn.2 q4⟩
end
mutual
theorem KL{q:Ty}{X2:Xt}(h2:∀r,¬T.rng r->¬X r->¬q.rng r/\¬X2 r):(v:AV)->(rv:Value)->clean v=true->R T X w v rv->R q X2 w v rv
 | .bot,_,_,_=>trivial
 | .bool _,_,_,h=>h
 | .int _ _,_,_,h=>h
 | .str _,_,_,h=>h
 | .nilp,_,_,h=>h
 | .nilsl,_,_,h=>h
 | .nilmap,_,_,h=>h
 | .nilfn,_,_,h=>h
 | .nilif,_,_,h=>h
 | .agg cs,v,hn,h=>by
  obtain⟨vs,rfl,h⟩:=h;exact⟨vs,rfl,VJ h2 cs _ hn h⟩
 | .tup cs,v,hn,h=>by
  obtain⟨vs,rfl,h⟩:=h;exact⟨vs,rfl,VJ h2 cs _ hn h⟩
 | .iptr bw cs,v,hn,h=>by
  obtain⟨r,o,rfl,d,e,a,i,b⟩:=h;have j:bw=false:=by simpa[clean]using hn
  subst j;have:=h2 r d<|e rfl;exact⟨r,o,rfl,this.1,λ_=>this.2,a,i,Rj h2 r cs o a b⟩
 | .isl bw ex sz es,v,hn,h=>by
  obtain⟨ad,p,cap,rfl,d,e,a,i,b⟩:=h;have j:bw=false:=by simpa[clean]using hn
  subst j;refine⟨ad,p,cap,rfl,d,e,a,i,?_⟩;rcases b with b|⟨r,o,m,k,n,q9,q10⟩
  .exact .inl b
  .have:=h2 r k<|n rfl;exact .inr ⟨r,o,m,this.1,λ_=>this.2,q9,Rk h2 sz r es o i q10⟩
 | .imap bw ks vs,v,hn,h=>by
  obtain⟨r,es,g,l,rfl,d,e,a,i,b,m,k,n⟩:=h;have j:bw=false:=by simpa[clean]using hn
  subst j;have:=h2 r d<|e rfl;exact⟨r,es,g,l,rfl,this.1,λ_=>this.2,a,i,b,m,VJ h2 ks _ a.1 k,VJ h2 vs _ a.2 n⟩
 | .ifc t x,v,hn,h=>by
  obtain⟨u,rfl,h⟩:=h;exact⟨u,rfl,KL h2 x u hn h⟩
 | .clo fn first cap,v,hn,h=>by
  obtain⟨f,c,rfl,d,e⟩:=h;simp only[clean,ZXf]at hn;exact⟨f,c,rfl,VJ h2 first _ hn.1 d,VJ h2 cap _ hn.2 e⟩
 | .ptr _ _ _ _,_,hn,_=>by simp[clean]at hn
 | .sl _ _ _ _ _,_,hn,_=>by simp[clean]at hn
 | .mp _,_,hn,_=>by simp[clean]at hn
 | .it _,_,hn,_=>by simp[clean]at hn
 | .yld _,_,hn,_=>by simp[clean]at hn
theorem VJ{b:Ty}{X2:Xt}(h2:∀r,¬T.rng r->¬X r->¬b.rng r/\¬X2 r):(vs:List AV)->(rs:List Value)->Z4 vs=true->Rs T X w vs rs->Rs b X2 w vs rs
 |[],_,_,h=>h
 |a::as,vs,hn,h=>by
  obtain⟨v,c,rfl,e,d⟩:=h;simp only[Z4,ZXf]at hn;exact⟨v,c,rfl,KL h2 a v hn.1 e,VJ h2 as c hn.2 d⟩
theorem Rj{b:Ty}{X2:Xt}(h2:∀r,¬T.rng r->¬X r->¬b.rng r/\¬X2 r)(r:Nat):(cs:List AV)->(o:Nat)->Z4 cs=true->ZV T X w r cs o->ZV b X2 w r cs o
 |[],_,_,_=>trivial
 |a::as,o,hn,h=>by
  have⟨⟨v,d,c⟩,q3⟩:=h;simp only[Z4,ZXf]at hn;exact⟨⟨v,d,KL h2 a v hn.1 c⟩,Rj h2 r as (o+1) hn.2 q3⟩
theorem Rk{e:Ty}{X2:Xt}(h2:∀r,¬T.rng r->¬X r->¬e.rng r/\¬X2 r)(sz r:Nat):(cs:List AV)->(o:Nat)->Z4 cs=true->ZA T X w sz r cs o->ZA e X2 w sz r cs o
 |[],_,_,_=>trivial
 |a::as,o,hn,h=>by
  simp only[Z4,ZXf]at hn;cases a with
  |agg cs=>
   have⟨d,c,b⟩:=h;exact⟨d,Rj h2 r cs o hn.1 c,Rk h2 sz r as (o+sz) hn.2 b⟩
  |_=>
   have⟨d,⟨v,c,b⟩,q4⟩:=h;exact⟨d,⟨v,c,KL h2 _ v hn.1 b⟩,Rk h2 sz r as (o+sz) hn.2 q4⟩
end
def MJ{bw:Bool}:∀{n:Nat}{cs a:List AV},ZC bw h n cs=some a->a.length=cs.length:=by
 intro n;induction n with
 |zero=>intro cs a b;cases cs<;>simp[ZC]at b
 |succ n d=>
  intro cs a b;cases cs with
  |nil=>grind [ZC]
  |cons c cs=>
   simp[ZC]at b
   grind
def Bd{bw:Bool}{v:AV}{vs:List AV}(h1:okc bw [v]=true)(h2:okc bw vs=true):okc bw (v::vs)=true:=by
 cases bw<;>simp_all[okc,Z4,Zi]
def Be{bw:Bool}{v:AV}(a:clean v=true):okc bw [v]=true:=by
 cases bw
 all_goals grind [okc,Z4,Zi,KK]
def Bf(T:Ty)(X X2:Xt)(w:World)(h:Hp)(bw:Bool)(n:Nat):Prop:=
 (∀(v v':AV),freeze bw h n v=some v'->okc bw [v']=true/\((∃cs,v=.agg cs)->∃cs b,v=.agg cs/\v'=.agg b/\b.length=cs.length)/\((∀cs,v≠.agg cs)->∀cs,v'≠.agg cs)/\∀rv,R T X w v rv->R Ty.empty X2 w v' rv)/\
 (∀(vs a:List AV),ZC bw h n vs=some a->okc bw a=true/\(∀rs,Rs T X w vs rs->Rs Ty.empty X2 w a rs)/\(∀r o,ZV T X w r vs o->ZV Ty.empty X2 w r a o)/\(∀sz r o,ZA T X w sz r vs o->ZA Ty.empty X2 w sz r a o))
def MK{X2:Xt}{bw:Bool}(m:M T X h w)(h2:∀r,¬T.rng r->¬X r->¬X2 r)(h3:bw=false->∀r,T.rng r->¬X2 r):∀n,Bf T X X2 w h bw n:=by
 intro n;induction n with
 |zero=>exact⟨λv v' a=>by grind [freeze],λv v' a=>by cases v<;>simp[ZC]at a⟩
 |succ n J=>
  constructor
  .intro v v' a;simp[freeze]at a;cases q:clean v with
   |true=>
    rw[q]at a;simp[Option.some.injEq]at a;subst a;exact⟨Be q,λ⟨cs,d⟩=>⟨cs,cs,d,d,rfl⟩,λd=>d,λrv k=>Ww h2 v rv (KK v q) k⟩
   |false=>
    rw[q]at a;simp only[cond_false]at a;cases v<;>(first|(simp only[reduceCtorEq]at a;done)|dsimp only at a|skip)
    case agg cs=>
     simp only[ZXt]at a;obtain⟨E,z,rfl⟩:=a;have⟨s,G,_,_⟩:=J.2 _ _ z;refine⟨by cases bw<;>simpa[okc,Z4,clean,Zi,Zy]using s,λ_=>⟨cs,E,rfl,rfl,MJ z⟩,λd=>(d cs rfl).elim,?_⟩
     rintro rv ⟨vs,rfl,k⟩;exact⟨vs,rfl,G _ k⟩
    case tup cs=>
     simp only[ZXt]at a;obtain⟨E,z,rfl⟩:=a;have⟨s,G,_,_⟩:=J.2 _ _ z;refine⟨by cases bw<;>simpa[okc,Z4,clean,Zi,Zy]using s,(λ⟨cs,d⟩=>by grind),(λ_ cs d=>by grind),?_⟩
     rintro rv ⟨vs,rfl,k⟩;exact⟨vs,rfl,G _ k⟩
    case ifc t x=>
     simp only[ZXt]at a;obtain⟨x',z,rfl⟩:=a;have⟨s,_,_,G⟩:=J.1 _ _ z;refine⟨by cases bw<;>simpa[okc,Z4,clean,Zi,Zy]using s,(λ⟨cs,d⟩=>by grind),(λ_ cs d=>by grind),?_⟩
     rintro rv ⟨u,rfl,k⟩;exact⟨u,rfl,G _ k⟩
    case clo fn first cap=>
     split at a
     .next f' c' z d=>
      simp only[Option.some.injEq]at a;subst a;have⟨s,G,_,_⟩:=J.2 _ _ z;have⟨q3,O,_,_⟩:=J.2 _ _ d;refine⟨by cases bw<;>simp_all[okc,Z4,clean,Zi,Zy],(λ⟨cs,d⟩=>by grind),(λ_ cs d=>by grind),?_⟩
      rintro rv ⟨f,c,rfl,K,H⟩;exact⟨f,c,rfl,G _ K,O _ H⟩
     grind
    case iptr b cs=>
     cases b with
     |false=>grind
     |true=>
      cases bw with
      |false=>grind
      |true=>
       simp at a;subst a;exact⟨rfl,(λ⟨cs,d⟩=>by grind),(λ_ cs d=>by grind),λrv k=>Ww h2 _ rv rfl k⟩
    case isl b ex sz es=>
     cases b with
     |false=>grind
     |true=>
      cases bw with
      |false=>grind
      |true=>
       simp at a;subst a;exact⟨rfl,(λ⟨cs,d⟩=>by grind),(λ_ cs d=>by grind),λrv k=>Ww h2 _ rv rfl k⟩
    case imap b ks vs=>
     cases b with
     |false=>grind
     |true=>
      cases bw with
      |false=>grind
      |true=>
       simp at a;subst a;exact⟨rfl,(λ⟨cs,d⟩=>by grind),(λ_ cs d=>by grind),λrv k=>Ww h2 _ rv rfl k⟩
    case ptr b i off g=>
     cases D:h[b]? with
     |none=>grind
     |some o=>
      rw[D]at a;cases o<;>(first|(simp only[reduceCtorEq]at a;done)|dsimp only at a|skip)
      case row sz es=>
       cases hg:(es.length==g)with
       |false=>grind
       |true=>
        rw[hg]at a;simp only[cond_true]at a;cases hi:es[i]? with
        |none=>grind
        |some e=>
         rw[hi]at a;simp only[ZXt]at a;obtain⟨E,z,rfl⟩:=a;have⟨s,_,q3,_⟩:=J.2 _ _ z;refine⟨by cases bw<;>rfl,(λ⟨cs,d⟩=>by grind),(λ_ cs d=>by grind),?_⟩
         intro rv k;obtain⟨r,C,B,cs,el,P,rfl,af,k1,k2,k3,k4,Z⟩:=JU m D k<|by grind
         have⟨k6,k7⟩:=Kw i Z hi;rw[<-ZXQ]at k7;have j:T.rng r:=⟨b,_,P,rfl⟩;exact⟨r,(B+i)*sz+off,rfl,XX r,λD=>h3 D r j,s,m.lt r j,q3 _ _<|Ku off k7⟩
    case sl b g off len ex=>
     cases D:h[b]? with
     |none=>grind
     |some o=>
      rw[D]at a;cases o<;>(first|(simp only[reduceCtorEq]at a;done)|dsimp only at a|skip)
      case row sz es=>
       cases hg:(es.length==g)with
       |false=>grind
       |true=>
        rw[hg]at a;simp only[cond_true,ZXt]at a;obtain⟨E,z,rfl⟩:=a;have⟨s,_,_,O⟩:=J.2 _ _ z;have N:=MJ z;refine⟨by cases bw<;>rfl,(λ⟨cs,d⟩=>by grind),(λ_ cs d=>by grind),?_⟩
        intro rv k;have ac:es.length=g:=by grind
        have⟨r,C,B,P,k0,hC,A⟩:=XV m D;have⟨_,ag,g2,H,C2,B2,F,k1,k2,k3⟩:=k;rw[P]at F;cases F;have⟨cap,k4,Z,k6,k7⟩:=k3 ac.symm;have hl:E.length=len:=by grind
        rcases k7 with⟨V,rfl,rfl⟩|⟨rfl,p,rfl,k8⟩
        .have⟨ad,el,j1,j2,j3⟩:=A;have j:T.rng V:=⟨b,_,P,rfl⟩;refine⟨_,_,_,rfl,hl.symm,k4,λhx=>k6 (by grind),s,.inr ⟨V,(B+off)*sz,rfl,XX V,λD=>h3 D V j,m.lt V j,?_⟩⟩
         refine O _ _ _ ?_;have:=UV len<|UU off j3
         grind
        .have ah:len=0:=by omega
         refine⟨_,_,_,rfl,by omega,ZXh _,λ_=>rfl,s,.inl ?_⟩
         grind
    case mp b=>
     cases D:h[b]? with
     |none=>grind
     |some o=>
      rw[D]at a;cases o<;>(first|(simp only[reduceCtorEq]at a;done)|dsimp only at a|skip)
      case map ks vs=>
       cases L:Z4 ks with
       |false=>grind
       |true=>
        rw[L]at a;simp only[cond_true,ZXt]at a;obtain⟨aa,z,rfl⟩:=a;have⟨s,G,_,_⟩:=J.2 _ _ z;refine⟨by cases bw<;>rfl,(λ⟨cs,d⟩=>by grind),(λ_ cs d=>by grind),?_⟩
        rintro rv ⟨r,P,rfl⟩;have⟨H,es,S,l,F,k1,k2,k3,k4,Z⟩:=JS m D;rw[P]at F;cases F;have j:T.rng r:=⟨b,_,P,rfl⟩;refine⟨r,es,S,l,rfl,XX r,λD=>h3 D r j,⟨?_,s⟩,k1,k2,k3,XY h2 ks _ (XW ks L) k4,G _ Z⟩
        cases bw
        .exact L
        .exact XW ks L
  .intro vs aa a;cases q:Z4 vs with
   |true=>
    simp only[ZC,q,cond_true,Option.some.injEq]at a;subst a;have hn:=XW vs q;exact⟨by cases bw<;>first|exact q|exact hn,λrs k=>XY h2 vs rs hn k,λr o k=>Gg h2 r vs o hn k,λsz r o k=>Gh h2 sz r vs o hn k⟩
   |false=>
   cases vs with
   |nil=>grind [Z4]
   |cons v vs=>
    simp only[ZC,q,cond_false]at a;split at a
    .next x y h1 ab=>
     simp only[Option.some.injEq]at a;subst a;have⟨s,G,q3,O⟩:=J.1 _ _ h1;have⟨p1,p2,p3,p4⟩:=J.2 _ _ ab;refine⟨Bd s p1,?_,?_,?_⟩
     .rintro rs ⟨u,ur,rfl,K,H⟩;exact⟨u,ur,rfl,O _ K,p2 _ H⟩
     .rintro r o ⟨⟨u,K,H⟩,Y⟩;exact⟨⟨u,K,O _ H⟩,p3 _ _ Y⟩
     .intro sz r o A;by_cases W:∃cs,v=.agg cs
      .obtain⟨cs,E,rfl,rfl,N⟩:=G W;have⟨K,H,Y⟩:=A;refine⟨N.trans K,?_,p4 _ _ _ Y⟩;have:=Kv H;have⟨us,u1,u2⟩:=this;have ae:=O (.agg us.toArray) ⟨us.toArray,rfl,by grind⟩
       have⟨ws,aj,ak⟩:=ae
       grind [Xs]
      .have hx:=q3 (λcs d=>W ⟨cs,d⟩)
       have Q:sz=1/\(∃u,World.at w r o=some u/\R T X w v u)/\ZA T X w sz r vs (o+sz):=by
        cases v<;>first|exact A|grind
       have⟨K,⟨u,H,Y⟩,r4⟩:=Q;have U:sz=1/\(∃u,World.at w r o=some u/\R Ty.empty X2 w x u)/\ZA Ty.empty X2 w sz r y (o+sz):=⟨K,⟨u,H,O _ Y⟩,p4 _ _ _ r4⟩;cases x<;>first|exact U|grind
    grind
end Go.AM
namespace Go.AM
open Go
variable [Dr]
variable {P:Program} {E:Env} {T:Ty} {X:Xt} {w:World} {h:Hp} {fr:Fr} {a:Act}
def Qa(ro:Option Nat):Fence:={Fence.wide with round:=ro}
def VK(ro:Option Nat)(f:FuncId):(Qa ro).fn f:=trivial
def Rl(ro:Option Nat)(n:Nat):(Qa ro).depth.isSome=true->1<=n:=λh=>by cases h
def Rm{ro:Option Nat}{n:Nat}{f:FuncId}{args:Array Value}{K:Ending->World->Prop}:CallsIn (Qa ro) n P f args w K↔Calls P f args w K:=
 (callsIn_wide (n:=n):CallsIn Fence.wide n P f args w K↔_)
def YI(P:Program)(r:Result Next)(w:World)(K:Value->World->Prop):Prop:=
 (∃rv w',r=.ok (.value rv) w'/\K rv w')\/
 (∃f args,r=.ok (.enter f args) w/\Calls P f args w λe w'=>∃rv,e=.returned rv/\K rv w')\/
 (∃l g a as bd,r=.ok (.round l g a as bd) w/\∀n ro,RoundIn (Qa ro) n P l g a as bd w λe w'=>∃rv,e=.returned rv/\K rv w')
def YI.mono{r:Result Next}{K b:Value->World->Prop}(a:∀v w',K v w'->b v w')(c:YI P r w K):YI P r w b:=by
 rcases c with⟨rv,w',h1,h2⟩|⟨f,args,h1,h2⟩|⟨l,g,tmps,as,bd,h1,h2⟩
 .exact .inl ⟨rv,w',h1,a _ _ h2⟩
 .exact .inr<|.inl ⟨f,args,h1,h2.mono λe w'⟨rv,he,hq⟩=>⟨rv,he,a _ _ hq⟩⟩
 .exact .inr<|.inr ⟨l,g,tmps,as,bd,h1,λn ro=>(h2 n ro).mono λe w'⟨rv,he,hq⟩=>⟨rv,he,a _ _ hq⟩⟩
def YI.upon{r:Result Next}{K:Value->World->Prop}(c:YI P r w K){o:Oper}{ro:Option Nat}{n:Nat}{next:Act->World->Prop}{Q:Exit->Act->World->Prop}
 (b:∀rv w',K rv w'->next (a.put o.dst rv) w'):o.uponIn (Qa ro) n P a next Q r:=by
 rcases c with⟨rv,w',rfl,h2⟩|⟨f,args,rfl,h2⟩|⟨l,g,tmps,as,bd,rfl,h2⟩
 .exact b _ _ h2
 .refine⟨Rl ro n,Rm.2<|h2.mono ?_⟩
  grind
 .refine⟨Rl ro n,(h2 _ ro).mono ?_⟩
  grind
def Yq(T:Ty)(X:Xt)(w:World)(h':Hp)(v:AV)(rv:Value)(w':World):Prop:=∃a,Step T w a w'/\M a X h' w'/\R a X w' v rv
def ZRJ{j:Ty}{w':World}{v:AV}{g:Nat}(h:Step T w j w')(k:R T X w v<|.pointer<|some ⟨g,0,none⟩)(a:GlS w g v):GlS w' g v:=by
 cases v with
 |iptr bw cs=>
  have⟨r,o,e,h1,h2,m,b,l⟩:=k;cases e;have⟨c,t,f,d,i⟩:=a;exact⟨c,t,f,(h.keep _ b h1).trans d,i⟩
 |_=>trivial
def Ctx.step{a:Ty}{w':World}{h':Hp}(c:Ctx E T X h w)(b:Step T w a w')(m:M a X h' w'):Ctx E a X h' w':=
 ⟨m,λg=>⟨HR b _ _ (c.gl g).1,ZRJ b (c.gl g).1 (c.gl g).2⟩,λr d=>ZYh (c.hX r d) b.size⟩
def Marks(T:Ty)(w:World)(a:Nat)(b:List Deferred):Prop:=
 ∃rs:List Nat,b=rs.map (λr=>{target:=.collected r,args:=#[]})/\rs.Nodup/\∀r∈rs,a<=r/\Wn T w r
def Marks.step{c:Ty}{w':World}{a:Nat}{d:List Deferred}(f:Marks T w a d)(g:Step T w c w'):Marks c w' a d:=by
 have⟨rs,h1,h2,b⟩:=f;exact⟨rs,h1,h2,λr e=>⟨(b r e).1,Md g (b r e).2⟩⟩
structure St(E:Env)(T:Ty)(X:Xt)(h:Hp)(w:World)(fr:Fr)(base sz:Nat)(a:Act):Prop where
 c:Ctx E T X h w
 f:FrR T X w fr a.tmps
 sz:a.tmps.size=sz
 marks:Marks T w base a.defers
 base:base<=w.heap.size
def ML{a:Array Value}{d:Nat}{v:AV}{rv:Value}(c:FrR T X w fr a)(f:R T X w v rv)(g:d<a.size):FrR T X w (put fr d v) (a.setIfInBounds d rv):=by
 intro t;simp only[put,get];by_cases e:d=t
 .simp_all
 .have b:(d==t)=false:=by grind
  simp only[b];rw[ZYC,ZZP e,<-ZYC];exact c t
def JX(N:Nat):Option Nat->Option Nat->Bool
 |none,none=>true
 |some t,some d=>t==d&&Nat.blt t N
 |_,_=>false
def JY(N:Nat)(a:Array Oper):Option (Nat×Bool)->Option (Nat×Bool)->Bool
 |none,none=>true
 |some (j,b),some (t,c)=>b==c&&(match(a[j]?).bind (·.dst)with|some d=>d==t&&Nat.blt d N|none=>false)
 |_,_=>false
def Wx:Op->AOp->Bool
 | .call c,.call _ f args=>(match c.callee with| .value (.func g)=>g==f|_=>false)&&Wt c.args.toList args
 | .call c,.callv _ x args=>(match c.callee with| .value y=>Zr y x|_=>false)&&Wt c.args.toList args
 |_,_=>false
def X6(P:Program)(N:Nat)(a:Array Oper)(o:Oper)(q:AOper):Bool:=
 JX N o.dst q.dst&&JY N a o.guard q.guard&&(match q.op with| .apa sz b s x=>Gb P o.op (.app false sz b s x)|op=>bif op.isCall then Wx o.op op else Gb P o.op op)
def X7(P:Program)(N:Nat)(a:Array Oper):List Oper->List AOper->Bool
 |[],[]=>true
 |o::os,q::qs=>X6 P N a o q&&X7 P N a os qs
 |_,_=>false
def Gi{i:Ty}{w':World}{h':Hp}{v:AV}{rv:Value}{e sz N:Nat}{d:Option Nat}{b:Option Nat}(s:St E T X h w fr e sz a)(o:N<=sz)(k:JX N d b=true)
 (g:Step T w i w') (m:M i X h' w') (l:R i X w' v rv):St E i X h' w' (ZB fr b v) e sz (a.put d rv):=by
 have c':=s.c.step g m;have j:=Kr g s.f;cases d with
 |none=>
  cases b with
  |some t=>grind [JX]
  |none=>exact⟨c',j,s.sz,s.marks.step g,ZXW s.base g.size⟩
 |some d=>
  cases b with
  |none=>grind [JX]
  |some t=>
   simp[JX,ZYs]at k;obtain⟨rfl,n⟩:=k;refine⟨c',ML j l (by have:=s.sz;omega),?_,s.marks.step g,ZXW s.base g.size⟩
   simp[Act.put];exact s.sz
def MM{a:Array Value}{h:Array Oper}{N:Nat}{o:Oper}{g:Option (Nat×Bool)}{b:Bool}(y:FrR T X w fr a)(u:N<=a.size)(i:JY N h o.guard g=true)
 (f:ZJ fr g=some b):Region.wanted o (yielded h a)=b:=by
 cases v:o.guard with
 |none=>
  grind [JY,ZJ,Region.wanted]
 |some p=>
  have⟨j,m⟩:=p;rw[v]at i;cases g with
  |none=>grind [JY]
  |some q=>
   have⟨t,c⟩:=q;simp[JY,beq_iff_eq]at i;obtain⟨rfl,i⟩:=i;cases r:(h[j]?).bind (·.dst)with
   |none=>grind
   |some d=>
    rw[r]at i;simp[ZYs]at i;obtain⟨rfl,n⟩:=i;simp[ZJ]at f;cases e:get fr d with
    |bool x=>
     rw[e]at f;simp[Option.some.injEq]at f;subst f;have k:=y d;rw[e]at k;have k:a.getD d undef=.bool x:=k;have l:d<a.size:=ZYh n u;have:a[d]?=some (.bool x):=by
      simp_all
     simp only[Region.wanted,v,yielded,r,Option.bind_some,this];cases x<;>cases m<;>rfl
    |tup vs=>
     cases vs with
     |cons _ _=>grind
     |nil=>
      rw[e]at f;simp[Option.some.injEq]at f;have k:=y d;rw[e]at k;have⟨us,k,s⟩:=k;have s:us.toList=[]:=s;have z:us = #[]:=by grind
      have l:d<a.size:=ZYh n u
      simp_all[Region.wanted,yielded]
    |_=>rw[e]at f;simp at f
end Go.AM
namespace Go.AM
open Go
variable [Dr]
variable {P:Program} {E:Env} {T:Ty} {X:Xt} {w:World} {h:Hp} {fr:Fr} {a:Act}
def KM(a:List Nat)(o:Oper):Nat:=o.after.toList.foldl (λm e=>bif Region.binds .any e then(m ||| (1 <<< e.on)) ||| (a.getD e.on 0)else m) 0
def YS:List Oper->List Nat->List Nat
 |[],ms=>ms
 |o::os,ms=>YS os<|ms++[KM ms o]
def MN:Option (Nat×Bool)->List Nat
 |some (t,_)=>[t]
 |none=>[]
def AOper.reads(q:AOper):List Nat:=q.op.slots++MN q.guard
def XZ(x y:AOper):Bool:=
 (match x.dst with|none=>true|some t=>!(y.reads.contains t)&&!(y.dst==some t))&&
 (match y.dst with|none=>true|some t=>!(x.reads.contains t))
def Rn(m:Nat)(a:List AOper)(i:Nat)(q:AOper)(u:List Nat):Bool:=
 (List.range i).all λj=>m.testBit j||(match a[j]? with|some x=>(u.contains j||(X3 x.op&&X3 q.op))&&XZ x q|none=>false)
def JZ(a:List Nat)(b:List AOper):Nat->List AOper->List (List Nat)->Bool
 |_,[],[]=>true
 |i,q::qs,u::us=>Rn (a.getD i 0) b i q u&&JZ a b (i+1) qs us
 |_,_,_=>false
def KO:Nat->List Oper->Bool
 |_,[]=>true
 |i,o::os=>o.after.toList.all (λe=>!Region.binds .any e||Nat.blt e.on i)&&KO (i+1) os
def MO(m:Nat)(i:Nat):Bool:=(List.range i).all λj=>m.testBit j
def Gj(P:Program)(N:Nat)(a:Array Oper)(d:List<|List Nat)(b c:List AOper):Bool:=
 P.follows .mixedOrders&&KO 0 a.toList&&X7 P N a a.toList (b++c)&&JZ (YS a.toList []) b 0 b d&&
  (List.range c.length).all λk=>MO ((YS a.toList []).getD (b.length+k) 0)<|b.length+k
def ZvV:AV->List (Nat×Nat)->Bool
 | .agg cs,ps=>ps.all λp=>decide (0<p.2)&&(match cs[p.1]? with|some (.isl _ _ _ [])=>true|_=>false)
 | .isl _ _ _ [],[(0,s)]=>decide (0<s)
 |_,_=>false
def QZ(P:Program)(N:Nat):Bool->Code->ACode->Bool
 |_,.skip,.skip=>true
 |_,.label _,.skip=>true
 |_,.region _ ops false,.region qs=>X7 P N ops ops.toList qs
 |_,.region _ ops false,.zbox d sz z ps=>X7 P N ops ops.toList [⟨some d,.box sz<|.c z,none⟩]&&(ops.toList.all (λo=>match o.op with| .alloc _=>true|_=>false)&&ZvV z ps)
 |_,.region _ ops false,.nils s d off p=>X7 P N ops ops.toList [⟨some d,.fadr off p,none⟩,⟨none,.store 1 (.t d)<|.c<|.isl false false s [],none⟩]&&decide (0<s)
 |_,.region _ ops true,.draw un p1 p2=>Gj P N ops un p1 p2
 |rd,.seq a b,.seq x y=>QZ P N rd a x&&QZ P N rd b y
 |rd,.cond c a b,.cond d x y=>Zr c d&&QZ P N rd a x&&QZ P N rd b y
 |rd,.block i a,.block j x=>i==j&&QZ P N rd a x
 |rd,.loop a,.loop _ x=>QZ P N rd a x
 |rd,.rangeFunc g ps as bd,.rangeFunc f qs x y=>
  !rd&&Zr g f&&decide (ps.toList=qs)&&qs.all (λp=>Nat.blt p N)&&QZ P N true as x&&QZ P N true bd y
 |_,.exit i,.exit j=>i==j
 |_,.ret,.ret=>true
 |rd,.scope a,.keep _ x=>QZ P N rd a x
 |rd,c,.keep _ x=>QZ P N rd c x
 |rd,c,.ghost _ _ _ x=>QZ P N rd c x
 |_,_,_=>false
def Chk(P:Program)(n:Nat)(c:Code)(q:ACode):Prop:=∃N,N<=n/\QZ P N true c q=true
def YJ(P:Program):List ResultVar->List ResVar->Bool
 |[],[]=>true
 | .tmp t::r,.tmp u::s=>t==u&&YJ P r s
 | .cell b t::r,.cell u n::s=>b==u&&Xv P t n&&YJ P r s
 |_,_=>false
def Qn(P:Program)(E:Env)(f:Nat)(s:List AV->Hp->Option (AV×Hp)):Prop:=
 ∀args h v h',s args h=some (v,h')->∀(T:Ty)(X:Xt)(w:World)(a:Array Value),X.cr=Chk P->Ctx E T X h w->Rs T X w args a.toList->
  YI P ((callFunc f a).run P w) w (Yq T X w h' v)
def ZEs(P:Program)(E:Env)(f:Nat)(s:List AV->Nat->List AV->Option (List AV)):Prop:=
 ∀args h v b,ZE8 s h args=some (v,b)->∀(T:Ty)(X:Xt)(w:World)(a:Array Value),X.cr=Chk P->Ctx E T X h w->Rs T X w args a.toList->
  YI P ((callFunc f a).run P w) w (Yq T X w (ZH h b) v)
structure EnvOk(P:Program)(E:Env):Prop where
 gl:∀g,clean (E.gl g)=true
 fn:∀f q,E.fn f=some q->∃(fn:Func)(c:Code),P.funcs[f]?=some fn/\(fn.name=="runtime.NumGoroutine")=false/\fn.body=some c/\QZ P fn.ntmps false c q.body=true/\YJ P fn.results.toList q.res=true
 sum:∀f s,E.sum f=some s->Qn P E f s
 rs:∀f s,E.rs f=some s->ZEs P E f s
def exR:AExit->Exit
 | .normal=>.normal
 | .exit id=>.exit id
 | .ret=>.ret
structure AllOk(P:Program)(E:Env)(k:Nat):Prop where
 rsum:∀f s,E.rs f=some s->ZEs P E f s
 fn:∀f args h v h',Qz E k f args h=some (v,h')->∀(T:Ty)(X:Xt)(w:World)(rargs:Array Value),X.cr=Chk P->Ctx E T X h w->Rs T X w args rargs.toList->
  YI P ((callFunc f rargs).run P w) w (Yq T X w h' v)
 body:∀f args h v h',QX E k f args h=some (v,h')->∀(T:Ty)(X:Xt)(w:World)(rargs:Array Value),X.cr=Chk P->Ctx E T X h w->Rs T X w args rargs.toList->
  (callFunc f rargs).run P w=.ok (.enter f rargs) w/\Calls P f rargs w λe w'=>∃rv,e=.returned rv/\Yq T X w h' v rv w'
 call:∀p f args h v h',Qm E k p f args h=some (v,h')->∀(T:Ty)(X:Xt)(w:World)(rargs:Array Value),X.cr=Chk P->Ctx E T X h w->Rs T X w args rargs.toList->
  YI P ((callFunc f rargs).run P w) w (Yq T X w h' v)
 yield:∀b args h v h',YG E k b args h=some (v,h')->∀(T:Ty)(X:Xt)(w:World)(rargs:Array Value)(l:Nat),X.cr=Chk P->Ctx E T X h w->Rs T X w args rargs.toList->T b=some (.loop l)->
  YI P ((Instr.yield l rargs).run P w) w (Yq T X w h' v)
 callv:∀p f args h v h',QQ E k p f args h=some (v,h')->∀(T:Ty)(X:Xt)(w:World)(fv:Value)(rargs:Array Value),X.cr=Chk P->Ctx E T X h w->R T X w f fv->Rs T X w args rargs.toList->
  YI P ((do let d <-Deferred.ofValue fv rargs;invoke d.target d.args:Sem Next).run P w) w (Yq T X w h' v)
 op:∀q fr h fr' h',Q5 E k q fr h=some (fr',h')->∀(T:Ty)(X:Xt)(w:World)(a:Act)(N:Nat)(ops:Array Oper)(o:Oper)(base sz:Nat)(ro:Option Nat)(n:Nat),
  X.cr=Chk P->N<=sz->X6 P N ops o q=true->St E T X h w fr base sz a->∀(next:Act->World->Prop)(Q:Exit->Act->World->Prop),
  (∀T' a' w',Step T w T' w'->St E T' X h' w' fr' base sz a'->next a' w')->
  if Region.wanted o (yielded ops a.tmps)=true then o.wpIn (Qa ro) n P a w next Q else(∀f,o.about P w a.eval=some f->(Qa ro).fn f)/\next (a.put o.dst undef) w
 ops:∀qs fr h fr' h',ZS E k qs fr h=some (fr',h')->∀(T:Ty)(X:Xt)(w:World)(a:Act)(N:Nat)(ops:Array Oper)(os:List Oper)(base sz:Nat)(ro:Option Nat)(n:Nat),
  X.cr=Chk P->N<=sz->X7 P N ops os qs=true->St E T X h w fr base sz a->∀(Q:Exit->Act->World->Prop),
  (∀T' a' w',Step T w T' w'->St E T' X h' w' fr' base sz a'->Q .normal a' w')->wpListIn (Qa ro) n P ops Q os a w
 code:∀q fr h e fr' h',Ze E k q fr h=some (e,fr',h')->∀(T:Ty)(X:Xt)(w:World)(a:Act)(N:Nat)(c:Code)(base sz:Nat)(rd:Bool)(ro:Option Nat)(n:Nat),
  X.cr=Chk P->N<=sz->QZ P N rd c q=true->(rd=false->ro=none)->St E T X h w fr base sz a->∀(Q:Exit->Act->World->Prop),
  (∀T' a' w',Step T w T' w'->St E T' X h' w' fr' base sz a'->Q (exR e) a' w')->c.wpIn (Qa ro) n P Q a w
 rounds:∀live q fr h e fr' h',Ze E k (.loop live q) fr h=some (e,fr',h')->∀(T:Ty)(X:Xt)(w:World)(a:Act)(N:Nat)(c:Code)(base sz:Nat)(rd:Bool)(ro:Option Nat)(n:Nat),
  X.cr=Chk P->N<=sz->QZ P N rd c q=true->(rd=false->ro=none)->St E T X h w fr base sz a->∀(Q:Exit->Act->World->Prop),
  (∀T' a' w',Step T w T' w'->St E T' X h' w' fr' base sz a'->Q (exR e) a' w')->Code.roundsIn (Qa ro) n P c Q k a w
def MP(T:Ty)(w:World){D:Nat}{f:Option (List Deferred)}(g:w.heap[D]?=some (.deferred f))(a:Option<|List Deferred):Stp T w T (w.putObj D<|.deferred a):=by
 have h:∀b,b≠D->(w.putObj D<|.deferred a).heap[b]?=w.heap[b]?:=λb d=>World.putObj_heap_other d
 have e:(w.putObj D<|.deferred a).heap[D]?=some (.deferred a):=by grind [World.putObj]
 refine⟨by simp_all,λb c d=>⟨c,d,.refl c⟩,λb _ _ o=>?_,λb es c _ _ d=>?_,λb d=>.inl d⟩
 all_goals grind [World.at,World.cell?]
def Bh(m:M T X h w){D:Nat}{i:Option (List Deferred)}(g:w.heap[D]?=some (.deferred i))(d:¬T.rng D)(a:Option<|List Deferred):M T X h (w.putObj D<|.deferred a) where
 inj:=m.inj
 lt r d:=ZYh (m.lt r d)<|by simp_all
 notX:=m.notX
 obj b:=Mf (MP T w g a) _ _ (λt r f c=>World.putObj_heap_other<|λe=>d ⟨b,t,f,by rw[c,<-e]⟩)<|m.obj b
def Bi{fn:Func}{a:Array Value}{K:Ending->World->Prop}{n:Nat}{T0:Ty}{w0:World}{v:AV}(g:∀w',M T X h w'->FrR T X w' fr a->Step T0 w0 T w'->∃rv,(results fn a).run P w'=.ok rv w'/\K (.returned rv) w'):
 ∀(rs:List Nat)(w:World),rs.Nodup->(∀r∈rs,w0.heap.size<=r/\Wn T w r)->M T X h w->FrR T X w fr a->Step T0 w0 T w->
 LeavesInM Fence.wide n P fn a K (rs.map<|λr=>{target:=.collected r,args:=#[]}) .returning w:=by
 intro rs;induction rs with
 |nil=>
  intro w _ _ m i c;have⟨rv,h1,h2⟩:=g w m i c;exact⟨rv,h1,h2⟩
 |cons r rs x=>
  intro w f u m i c;have⟨D,B,q,k⟩:=u r<|by simp
  refine⟨by simp,.inl ⟨r,_,rfl,run_takeDeferred k,?_⟩⟩
  have l:=MP T w k none;have d:∀b,b≠r->(w.putObj r<|.deferred none).heap[b]?=w.heap[b]?:=λb t=>World.putObj_heap_other t
  refine x _ (ZYo.1 f).2 ?_ (Bh m k q none) (Me l i) ?_
  .intro j o;have s:j≠r:=λe=>(ZYo.1 f).1 (e▸o)
   have⟨y,C,A,z⟩:=u j<|by grind
   exact⟨y,by grind,A,(d j s).trans z⟩
  .exact⟨c.os,c.tape,c.output,by grind [World.putObj],c.le,λb t p=>(d b<|by omega).trans (c.keep b t p),c.rng,c.drawn⟩
def Bj(m:M T X h w){a:Array Value}(y:FrR T X w fr a):∀{rs:List ResultVar}{d:List ResVar}{vs:List AV},YJ P rs d=true->YD fr h d=some vs->
 ∃us:List Value,(rs.mapM (λ(x:ResultVar)=>(match x with
  | .tmp t=>pure<|a.getD t undef
  | .cell b t=>do loadVar t (<-asAddr (a.getD b undef)):Sem Value))).run P w=.ok us w/\Rs T X w vs us:=by
 intro rs;induction rs with
 |nil=>
  intro d vs c f;cases d with
  |cons _ _=>grind [YJ]
  |nil=>
   simp[YD]at f;subst f;exact⟨[],by simp,rfl⟩
 |cons r rs G=>
  intro d vs c f;cases d with
  |nil=>cases r<;>simp[YJ]at c
  |cons q d=>
   simp[YD]at f;split at f
   .next v vr h1 h2=>
    simp[Option.some.injEq]at f;subst f;have j:YJ P rs d=true/\∃u,((match r with
     | .tmp t=>pure<|a.getD t undef
     | .cell b t=>do loadVar t (<-asAddr (a.getD b undef)):Sem Value)).run P w=.ok u w/\R T X w v u:=by
     cases r with
     |tmp t=>
      cases q with
      |cell _ _=>grind [YJ]
      |tmp u=>
       simp only[YJ,ZXf,beq_iff_eq]at c;obtain⟨rfl,c⟩:=c;simp only[WX,Option.some.injEq]at h1;subst h1;exact⟨c,_,by simp,y t⟩
     |cell b t=>
      cases q with
      |tmp _=>grind [YJ]
      |cell u n=>
       simp only[YJ,ZXf,beq_iff_eq]at c;obtain⟨⟨rfl,L⟩,c⟩:=c;refine⟨c,?_⟩;have k:=y b;simp only[WX]at h1;split at h1
       .next b' i off g l=>
        rw[l]at k;split at h1
        .next sz es K=>
         cases s:(es.length==g)with
         |false=>grind
         |true=>
          rw[s]at h1;simp only[cond_true]at h1;cases E:es[i]? with
          |none=>grind
          |some e=>
           rw[E]at h1;simp only at h1;have⟨r,C,B,cs,el,U,H,z,k1,S,Y,Z,J⟩:=JU m K k<|by grind
           have⟨A,D⟩:=Kw i J E;rw[<-ZXQ]at D;have⟨rv,W,V⟩:=G0 L (Ku off D) h1
           grind [asAddr]
        grind
       .next bw cs l=>
        rw[l]at k;have⟨r,o,H,_,_,_,_,N⟩:=k
        grind [G0,asAddr]
       grind
    have⟨p,u,O,Q⟩:=j;have⟨us,F,A⟩:=G p h2;refine⟨u::us,?_,u,us,rfl,Q,A⟩;rw[List.mapM_cons,Sem.run_bind,O,Result.andThen_ok,Sem.run_bind,F,Result.andThen_ok,Sem.run_pure]
   grind
def Bk{fn:Func}(m:M T X h w){a:Array Value}(j:FrR T X w fr a){f:List ResVar}{v:AV}(i:YJ P fn.results.toList f=true)(e:QO fr h f=some v):
 ∃rv,(results fn a).run P w=.ok rv w/\R T X w v rv:=by
 unfold QO at e;cases c:YD fr h f with
 |none=>grind
 |some vs=>
  rw[c]at e;have⟨us,h1,h2⟩:=Bj m j i c;have b:(results fn a).run P w=.ok (if h:us.toArray.size=1 then us.toArray[0]else .tuple us.toArray) w:=by
   unfold results;rw[Sem.run_bind,Array.mapM_eq_mapM_toList,Sem.run_map]
   grind [Result.andThen_ok,Sem.run_pure]
  refine⟨_,b,?_⟩;have d:=Qr h2;by_cases g:us.length=1
  .obtain⟨x,rfl⟩:=List.length_eq_one_iff.1<|d.trans g;simp[Option.some.injEq]at e;have⟨y,n,k,l,o⟩:=h2
   grind
  .have:v=.tup vs:=by
    grind
   subst this;rw[dif_neg<|by grind]
   exact⟨us.toArray,rfl,by grind⟩
end Go.AM
namespace Go.AM
open Go
variable [Dr]
variable {P:Program} {E:Env} {T:Ty} {X:Xt} {w:World} {h:Hp} {fr:Fr} {a:Act}
def Bl(j:EnvOk P E){k:Nat}(i:AllOk P E k){f:Nat}{args:List AV}{v:AV}{h':Hp}(d:Qz E (k+1) f args h=some (v,h'))(a:Array Value)(b:X.cr=Chk P)(c:Ctx E T X h w)(g:Rs T X w args a.toList):
 YI P ((callFunc f a).run P w) w (Yq T X w h' v):=by
 simp[Qz]at d;cases e:E.sum f with
 |some s=>
  rw[e]at d;exact j.sum f s e args h v h' d T X w a b c g
 |none=>
  rw[e]at d;have⟨h1,h2⟩:=i.body f args h v h' d T X w a b c g;exact .inr<|.inl ⟨f,a,h1,h2⟩
def Bm:∀(args:List AV)(i t:Nat),get (QP i args) t=if i<=t then(args[t-i]?).getD .bot else .bot:=by
 intro args;induction args with
 |nil=>grind [QP,get]
 |cons v r a=>
  simp[QP,get]
  grind
def Bn{args:List AV}{a:Array Value}(e:Rs T X w args a.toList)(n:Nat):FrR T X w (QP 0 args) (a++Array.replicate n undef):=by
 intro t;rw[Bm,if_pos<|ZXi _,Nat.sub_zero];cases c:args[t]? with
 |none=>trivial
 |some v=>
  have⟨rv,h1,h2⟩:=Wp t e c;have b:a[t]?=some rv:=by grind
  have d:=(ZYd.1 b).1
  simp_all[ZYX]
def Bo(G:EnvOk P E){k:Nat}(C:AllOk P E k){f:Nat}{args:List AV}{v:AV}{h':Hp}(b:QX E (k+1) f args h=some (v,h'))(a:Array Value)(r:X.cr=Chk P)(c:Ctx E T X h w)(M:Rs T X w args a.toList):
 (callFunc f a).run P w=.ok (.enter f a) w/\Calls P f a w λe w'=>∃rv,e=.returned rv/\Yq T X w h' v rv w':=by
 simp[QX]at b;cases y:E.fn f with
 |none=>grind
 |some q=>
  rw[y]at b;simp at b;have⟨fn,J,h1,h2,O,Q,A⟩:=G.fn f q y;have g:(callFunc f a).run P w=.ok (.enter f a) w:=by
   simp_all[callFunc]
  refine⟨g,(Rm (ro:=none) (n:=0)).1 ?_⟩;have B:∀e fr' ,Ze E k q.body (QP 0 args) h=some (e,fr',h')->(e=.normal\/e=.ret)->QO fr' h' q.res=some v->CallsIn (Qa none) 0 P f a w λe w'=>∃rv,e=.returned rv/\Yq T X w h' v rv w':=by
   intro e fr' x t d;refine callsIn_of_wp_marks h1 O (VK _ _) ?_;have o:St E T X h w (QP 0 args) w.heap.size (a++Array.replicate (fn.ntmps-a.size) undef).size {tmps:=a++Array.replicate (fn.ntmps-a.size) undef,defers:=[]}:=
    ⟨c,Bn M _,rfl,⟨[],rfl,ZZb,by simp⟩,ZXh _⟩
   refine C.code q.body (QP 0 args) h e fr' h' x T X w _ fn.ntmps J w.heap.size _ false none 0 r ?_ Q (λ_=>rfl) o _ ?_
   .grind
   .intro H R w' F j;have⟨rs,p,i,s⟩:=j.marks;have:=Bi (P:=P) (fn:=fn) (n:=0) (K:=λe w'=>∃rv,e=.returned rv/\Yq T X w h' v rv w') (T0:=T) (w0:=w) (v:=v)
     (λS z N u=>by
      have⟨rv,D,L⟩:=Bk (P:=P) (fn:=fn) z N A d;exact⟨rv,D,rv,rfl,H,u,z,L⟩)
     rs w' i s j.c.m j.f F
    rw[<-p]at this;rcases t with rfl|rfl<;>exact this
  split at b
  .next fr' l x=>
   simp[ZXt]at b
   grind
  .next fr' l x=>
   simp only[ZXt]at b
   grind
  grind
def Bp{v:AV}{rv:Value}{X2:Xt}(h2:∀r,¬T.rng r->¬X r->¬X2 r)(a:clean v=true)(b:R T X w v rv):R Ty.empty X2 w v rv:=by grind [Ww,KK]
def Bq(F:EnvOk P E){k:Nat}(C:AllOk P E k){p:Bool}{f:Nat}{args:List AV}{v:AV}{h':Hp}(n:Qm E (k+1) p f args h=some (v,h'))(a:Array Value)(x:X.cr=Chk P)(c:Ctx E T X h w)(d:Rs T X w args a.toList):
 YI P ((callFunc f a).run P w) w (Yq T X w h' v):=by
 cases p with
 |false=>
  exact C.fn f args h v h' n T X w a x c d
 |true=>
  simp[Qm]at n;split at n
  .next as l=>
   split at n
   .next u h2 t=>
    simp only[ZXt]at n;have⟨v',z,n⟩:=n;cases n
    let X2:Xt:=⟨λr=>X r\/T.rng r,X.cr⟩
    have q:∀r,¬T.rng r->¬X r->¬X2 r:=λr D G y=>y.elim G D
    have H:M Ty.empty X2 [] w:=by
     refine⟨λb c' K A r j=>(by cases j),λr d=>(XX r d).elim,λr d=>(XX r d).elim,λb=>?_⟩
     trivial
    have A:Ctx E Ty.empty X2 [] w:=
     ⟨H,λg=>⟨Bp q (F.gl g) (c.gl g).1,(c.gl g).2⟩,λr d=>d.elim (c.hX r)<|c.m.lt r⟩
    have B:Rs Ty.empty X2 w as a.toList:=by
     unfold Ql at l;cases e:Z4 args with
     |true=>
      rw[e]at l
      grind [XY,XW]
     |false=>
      rw[e]at l;exact((MK c.m q (λj=>by grind) 40).2 args as l).2.1 _ d
    refine(C.fn f as [] u h2 t Ty.empty X2 w a x A B).mono ?_;rintro rv w' ⟨T',st,m',hu⟩;have i:∀b,b<w.heap.size->w'.heap[b]?=w.heap[b]?:=λb j=>st.keep b j<|XX b
    have s:Step T w T w':=⟨st.os,st.tape,st.output,st.size,λb c j=>⟨c,j,.refl c⟩,λb j _=>i b j,λb j=>.inl j,st.drawn⟩
    have o:∀r,T'.rng r->w.heap.size<=r:=λr d=>(st.rng r d).resolve_left (XX r)
    refine⟨T,s,Xr c.m s<|λr d=>i r<|c.m.lt r d,?_⟩
    unfold YE at z;cases e:clean u with
    |true=>
     rw[e]at z
     grind [KL]
    |false=>
     rw[e]at z;have⟨D,_,_,J⟩:=(MK (X2:=X2) (bw:=false) m' (λr _ y=>y)
      (λ_ r d y=>by have:=o r d;have:=A.hX r y;omega) 40).1 u v z
     grind [okc,Z4,KL]
   grind
  grind
def Br{k:Nat}(m:AllOk P E k){p:Bool}{f:AV}{args:List AV}{v:AV}{h':Hp}(j:QQ E (k+1) p f args h=some (v,h'))(o:Value)(a:Array Value)(i:X.cr=Chk P)(c:Ctx E T X h w)(r:R T X w f o)(t:Rs T X w args a.toList):
 YI P ((do let d <-Deferred.ofValue o a;invoke d.target d.args:Sem Next).run P w) w (Yq T X w h' v):=by
 cases f with
 |clo fn first cap=>
  cases fn with
  |func g=>
   obtain⟨n,q,rfl,h1,h2⟩:=r;have e:(do let d <-Deferred.ofValue (.func (.func g) n q) a;invoke d.target d.args:Sem Next).run P w=(callFunc g<|(n++a)++q).run P w:=by
    grind [Deferred.ofValue,invoke]
   refine m.call p g _ h v h' j T X w _ i c ?_
   grind [QR]
  |_=>grind [QQ]
 |yld b=>
  simp[QQ]at j;cases p with
  |true=>grind
  |false=>
   obtain⟨l,s,rfl⟩:=r;have e:(do let d <-Deferred.ofValue (.func (.yield l) #[] #[]) a;invoke d.target d.args:Sem Next).run P w=(Instr.yield l a).run P w:=by
    grind [Deferred.ofValue,invoke]
   rw[e];exact m.yield b args h v h' j T X w a l i c t s
 |_=>simp[QQ]at j
end Go.AM
namespace Go.AM
open Go
variable {E:Env} {fr:Fr} {h h':Hp}
def MQ{x:AV}(a:∀b∈Zs x,h'[b]?=h[b]?):Q2 h' x=Q2 h x:=by
 cases x<;>first|rfl|skip
 grind [Q2,Zs]
def MR{sz:Nat}{x:AV}(a:∀b∈Zs x,h'[b]?=h[b]?):Qq h' sz x=Qq h sz x:=by
 cases x<;>first|rfl|skip
 grind [Qq,Zs]
def Bs{x:AV}(a:∀b∈Zs x,h'[b]?=h[b]?):X1 h' x=X1 h x:=by
 cases x<;>first|rfl|skip
 all_goals grind [X1,Zs]
def Bu{aid sz bytes:Nat}{fz:Bool}{s x:AV}(a:∀b∈Zs s++Zs x,h'[b]?=h[b]?):Qt h' aid fz sz bytes s x=Qt h aid fz sz bytes s x:=by
 have h1:∀b∈Zs s,h'[b]?=h[b]?:=λb c=>a b<|by grind
 have h2:∀b∈Zs x,h'[b]?=h[b]?:=λb c=>a b<|by grind
 unfold Qt;rw[MQ h1,MQ h2,MR h1,MR h2]
 grind [Zs]
theorem Bv{aid:Nat}{e:AOp}(a:∀b∈opT E fr e,h'[b]?=h[b]?):Z8 E fr h' aid e=Z8 E fr h aid e:=by
 cases e<;>try rfl
 case load n x=>
  simp only[opT]at a;simp only[Z8];generalize ev E fr x=y at a⊢;cases y<;>first|rfl|(have d:=a _<|ZXO.2 rfl;grind)
 case store n x y=>
  simp only[opT]at a;simp only[Z8];generalize ev E fr x=y at a⊢;cases y<;>first|rfl|(have d:=a _<|ZXO.2 rfl;grind)
 case isn neg x=>
  simp only[opT]at a;simp only[Z8];generalize ev E fr x=y at a⊢;cases y<;>first|rfl|(have d:=a _<|ZXO.2 rfl;grind)
 case nilck x=>
  simp only[opT]at a;simp only[Z8];generalize ev E fr x=y at a⊢;cases y<;>first|rfl|(have d:=a _<|ZXO.2 rfl;grind)|skip
  grind
 case ldr n c x=>
  simp only[opT]at a;simp only[Z8];generalize ev E fr x=y at a⊢;cases y<;>first|rfl|skip
  simp_all[ZvH]
 case asl n x y=>
  simp only[opT]at a;simp only[Z8];generalize ev E fr x=z at a⊢;cases z<;>first|rfl|(have d:=a _<|ZXO.2 rfl;grind)
 case rel x=>
  simp only[opT]at a;simp only[Z8];generalize ev E fr x=y at a⊢;cases y<;>first|rfl|(have d:=a _<|ZXO.2 rfl;grind)
 case fadr n x=>
  simp only[opT]at a;simp only[Z8];generalize ev E fr x=y at a⊢;cases y<;>first|rfl|(have d:=a _<|ZXO.2 rfl;grind)
 case nxt x=>
  simp only[opT]at a;simp only[Z8];generalize ev E fr x=y at a⊢;cases y<;>first|rfl|(have d:=a _<|ZXO.2 rfl;grind)
 case len k x=>
  simp only[opT]at a;simp only[Z8,Bs a]
 case iadr sz x i=>
  simp only[opT]at a;simp only[Z8];generalize ev E fr x=y at a⊢;generalize ev E fr i=z;cases y<;>cases z<;>first|rfl|(have d:=a _<|ZXO.2 rfl;grind)
 case aadr sz n x i=>
  simp only[opT]at a;simp only[Z8];generalize ev E fr x=y at a⊢;generalize ev E fr i=z;cases y<;>cases z<;>first|rfl|(have d:=a _<|ZXO.2 rfl;grind)
 case slc sz x lo hi mx=>
  simp only[opT]at a;simp only[Z8];generalize ev E fr x=y at a⊢;cases y<;>first|rfl|(have d:=a _<|ZXO.2 rfl;grind)
 case ins ag ks m k v=>
  simp only[opT]at a;simp only[Z8];generalize ev E fr m=y at a⊢;cases y<;>first|rfl|(have d:=a _<|ZXO.2 rfl;grind)
 case mupd ag ks m k v=>
  simp only[opT]at a;simp only[Z8];generalize ev E fr m=y at a⊢;cases y<;>first|rfl|(have d:=a _<|ZXO.2 rfl;grind)
 case lkp ag ks ok z m k=>
  simp only[opT]at a;simp only[Z8];generalize ev E fr m=y at a⊢;cases y<;>first|rfl|(have d:=a _<|ZXO.2 rfl;grind)
 case app fz sz bytes s x=>
  simp only[opT]at a;simp only[Z8];exact Bu a
 case apr sz bytes s x=>
  simp only[opT]at a;simp only[Z8];rw[Bu a];cases f:Qt h aid false sz bytes (ev E fr s) (ev E fr x)with
  |none=>rfl
  |some r=>
   have⟨v,rs,g⟩:=r;dsimp only;cases g with
   |some p=>cases v<;>first|rfl|(have⟨l,o⟩:=p;cases o<;>rfl)
   |none=>
    have j:=Zzc f;cases v<;>first|rfl|skip
    grind [Zs,ZvE]
theorem MS{x:AV}{es:List AV}(a:Q2 h x=some es):∀b∈Zs x,∃o,h[b]?=some o:=by
 intro b c;cases x<;>simp[Zs]at c<;>simp[Q2]at a
 grind
theorem Bw{aid:Nat}{e:AOp}{r:Zt}(a:Z8 E fr h aid e=some r):∀b∈opT E fr e,∃o,h[b]?=some o:=by
 intro b d;cases f:h[b]? with
 |some o=>grind
 |none=>
  cases e<;>simp only[opT,ZY1]at d<;>simp only[Z8]at a
  case ldr n c x=>
   generalize ev E fr x=y at d a;cases y<;>first|(simp at d;done)|skip
   case ptr b' i off g=>
    simp only[ZXF,ZY1,or_false]at d;rcases d with rfl|rfl
    .grind
    .dsimp only at a
     repeat' (split at a)
     all_goals first
      |(cases a;done)
      |skip
     all_goals try simp only[cond]at a
     all_goals (repeat' (split at a))
     all_goals first
      |(cases a;done)
      |(unfold ZvH at a
        grind)
  case fadr n x=>
   generalize ev E fr x=y at d a;cases y<;>simp[Zs]at d<;>subst d<;>simp[f]at a
  case nxt x=>
   generalize ev E fr x=y at d a;cases y<;>simp[Zs]at d<;>subst d<;>simp[f]at a
  case len k x=>
   generalize ev E fr x=y at d a;cases y<;>simp[Zs]at d<;>subst d<;>cases j:VC k _<;>rw[j]at a<;>simp[X1,f]at a
  all_goals grind [Zs,Qt,MS]
def Le(h h':Hp):Prop:=∀(b:Nat)(o:AObj),h[b]?=some o->h'[b]?=some o
variable {bw:Bool}
mutual
theorem MT(d:Le h h'){bw:Bool}:(n:Nat)->(v v':AV)->freeze bw h n v=some v'->freeze bw h' n v=some v'
 |0,v,v',he=>by simp[freeze]at he
 |n+1,v,v',he=>by
  simp only[freeze]at he⊢;cases l:clean v with
  |true=>rw[l]at he;exact he
  |false=>
   rw[l]at he;simp only[cond_false]at he⊢;cases v<;>(first|(simp only[reduceCtorEq]at he;done)|dsimp only at he⊢ |skip)
   case agg cs=>
    simp only[ZXt]at he⊢;have⟨a,h1,h2⟩:=he;exact⟨a,Wy d n cs a h1,h2⟩
   case tup cs=>
    simp only[ZXt]at he⊢;have⟨a,h1,h2⟩:=he;exact⟨a,Wy d n cs a h1,h2⟩
   case ifc t x=>
    simp only[ZXt]at he⊢;have⟨a,h1,h2⟩:=he;exact⟨a,MT d n x a h1,h2⟩
   case clo fn first cap=>
    split at he
    .next f c h1 h2=>rw[Wy d n first f h1,Wy d n cap c h2];exact he
    .cases he
   case iptr b cs=>cases b<;>exact he
   case isl b ex sz es=>cases b<;>exact he
   case imap b ks vs=>cases b<;>exact he
   case ptr b i off g=>
    cases j:h[b]? with
    |none=>rw[j]at he;cases he
    |some o=>
     rw[j]at he;rw[d b o j];cases o<;>(first|(simp only[reduceCtorEq]at he;done)|dsimp only at he⊢ |skip)
     case row sz es=>
      cases k:(es.length==g)with
      |false=>rw[k]at he;cases he
      |true=>
       rw[k]at he;simp only[cond_true]at he⊢;cases m:es[i]? with
       |none=>rw[m]at he;cases he
       |some e=>
        rw[m]at he;simp only[ZXt]at he⊢;have⟨a,h1,h2⟩:=he;exact⟨a,Wy d n _ a h1,h2⟩
   case sl b g off len ex=>
    cases j:h[b]? with
    |none=>rw[j]at he;cases he
    |some o=>
     rw[j]at he;rw[d b o j];cases o<;>(first|(simp only[reduceCtorEq]at he;done)|dsimp only at he⊢ |skip)
     case row sz es=>
      cases k:(es.length==g)with
      |false=>rw[k]at he;cases he
      |true=>
       rw[k]at he;simp only[cond_true,ZXt]at he⊢;have⟨a,h1,h2⟩:=he;exact⟨a,Wy d n _ a h1,h2⟩
   case mp b=>
    cases j:h[b]? with
    |none=>rw[j]at he;cases he
    |some o=>
     rw[j]at he;rw[d b o j];cases o<;>(first|(simp only[reduceCtorEq]at he;done)|dsimp only at he⊢ |skip)
     case map ks vs=>
      cases k:Z4 ks with
      |false=>rw[k]at he;cases he
      |true=>
       rw[k]at he;simp only[cond_true,ZXt]at he⊢;have⟨a,h1,h2⟩:=he;exact⟨a,Wy d n _ a h1,h2⟩
theorem Wy(d:Le h h'){bw:Bool}:(n:Nat)->(v v':List AV)->ZC bw h n v=some v'->ZC bw h' n v=some v'
 |0,v,v',he=>by cases v<;>simp[ZC]at he
 |n+1,[],v',he=>by simpa[ZC]using he
 |n+1,v::r,v',he=>by
  simp only[ZC]at he⊢;cases c:Z4 (v::r)with
  |true=>rw[c]at he;exact he
  |false=>
   rw[c]at he;simp only[cond_false]at he⊢;split at he
   .next a b h1 h2=>rw[MT d n v a h1,Wy d n r b h2];exact he
   .cases he
end
mutual
theorem MU{bw:Bool}:(n:Nat)->(v:AV)->Zy v=true->freeze bw h n v=freeze bw h' n v
 |0,v,_=>by simp[freeze]
 |n+1,v,hn=>by
  simp only[freeze];cases a:clean v with
  |true=>rfl
  |false=>
   simp only[cond_false];cases v<;>first|rfl|(simp[Zy]at hn;done)|skip
   case iptr b _=>cases b<;>rfl
   case isl b _ _ _=>cases b<;>rfl
   case imap b _ _=>cases b<;>rfl
   case agg cs=>simp only[KP n cs<|by simpa[Zy]using hn]
   case tup cs=>simp only[KP n cs<|by simpa[Zy]using hn]
   case ifc t x=>simp only[MU n x<|by simpa[Zy]using hn]
   case clo fn first cap=>
    simp only[Zy,ZXf]at hn;simp only[KP n first hn.1,KP n cap hn.2]
theorem KP{bw:Bool}:(n:Nat)->(v:List AV)->Zi v=true->ZC bw h n v=ZC bw h' n v
 |0,v,_=>by cases v<;>simp[ZC]
 |n+1,[],_=>by simp[ZC]
 |n+1,v::r,hn=>by
  simp only[Zi,ZXf]at hn;simp only[ZC,MU n v hn.1,KP n r hn.2]
end
end Go.AM
namespace Go.AM
open Go
variable [Dr]
variable {P:Program} {E:Env} {T:Ty} {X:Xt} {w:World} {h:Hp} {fr:Fr} {a:Act}
def Bx{s:Sem Next}{t ty:TypeId}{k:Nat}{x:AV}{v:Value}{res:Zt}(m:M T X h w)(l:(match k with|0=>V3 P t|1=>(isSlice P t).isSome|2=>(isMap P t).isSome|_=>false)=true)(i:R T X w x v)
 (b:∀rv,(Builtin.len_ #[t] ty #[v]).run P w=.ok rv w->s.run P w=.ok (.value rv) w)
 (a:(bif VC k x then X1 h x else none)=some res):Sim P T X h w s res:=by
 cases f:VC k x with
 |false=>grind
 |true=>
  rw[f]at a;have j:V3 P t=true->P.underlying t=some .string:=Gd;have c:(isSlice P t).isSome=true->∃e,P.underlying t=some (.slice e):=by
   simp_all[ZYZ,KJ]
  have g:(isMap P t).isSome=true->∃k e,P.underlying t=some (.map k e):=by
   intro d;have⟨⟨k,e⟩,a⟩:=ZYZ.1 d;exact⟨k,e,Ge a⟩
  refine CN (ty:=ty) m ?_ ?_ i b a
  all_goals grind [VC]
def MV{sz aid:Nat}{x:AV}{res:Zt}(a:(bif fits sz x then(bif Z4 x.cells then Zl (some<|.iptr false x.cells)else bif Zi x.cells then Zl (some<|.iptr true x.cells)else some (.ptr aid 0 0 1,[],some (aid,.row sz [x])))else none)=some res):
 fits sz x=true/\((∃bw,okc bw x.cells=true/\res=(.iptr bw x.cells,[],none))\/res=(.ptr aid 0 0 1,[],some (aid,.row sz [x]))):=by
 cases e:fits sz x with
 |false=>grind
 |true=>
  rw[e,cond_true]at a;cases c:Z4 x.cells with
  |true=>
   rw[c,cond_true]at a;obtain⟨u,b,rfl⟩:=ZY a;cases b;exact⟨rfl,.inl ⟨false,c,rfl⟩⟩
  |false=>
   rw[c,cond_false]at a;cases d:Zi x.cells with
   |true=>
    rw[d,cond_true]at a;obtain⟨u,b,rfl⟩:=ZY a;cases b;exact⟨rfl,.inl ⟨true,d,rfl⟩⟩
   |false=>
    grind
def MW{s:Sem Next}{mx:Bool}{x y:AV}{v u:Value}{res:Zt}(m:M T X h w)(g:R T X w x v)(f:R T X w y u)
 (e:∀k p j q,v=.int k p->u=.int j q->s.run P w=.ok (.value<|.int k<|bif mx then(if q>p then q else p)else(if q<p then q else p)) w)
 (c:(match(generalizing:=false) x,y with| .int k a,.int _ b=>Zl (some<|AV.int k<|bif mx then(if b>a then b else a)else(if b<a then b else a))|_,_=>none)=some res):Sim P T X h w s res:=by
 cases x<;>(first|(simp[reduceCtorEq]at c)|skip)
 cases y<;>(first|(simp[reduceCtorEq]at c)|skip)
 next k a j b=>
 obtain⟨z,d,rfl⟩:=ZY c;cases d;exact Sim.pure m (e k a j b g f) rfl
def MX{es:List AV}(a:Z4 es=true):∀(n k:Nat),Z4 ((es.drop n).take k)=true:=by
 induction es with
 |nil=>grind
 |cons e es b=>
  intro n k;simp[Z4]at a;cases n with
  |zero=>
   cases k with
   |zero=>rfl
   |succ k=>
    have:=b a.2 0 k
    simp_all[Z4]
  |succ n=>grind
theorem MY{s:Sem Next}{x:AV}{v:Value}{res:Zt}(m:M T X h w)(hx:R T X w x v)(O:s.run P w=.ok (.value v) w)
 (d:(match(generalizing:=false) x with
 | .sl b g off len ex=>
  match h[b]? with
  |some (.row sz es)=>bif es.length==g&&Z4 es then some (AV.isl false ex sz<|(es.drop off).take len,[b],some (b,AObj.gone))else none
  |_=>none
 |v=>bif (Zs v).isEmpty then Zl (some v)else none)=some res):Sim P T X h w s res:=by
 have j:∀y:AV,y=x->(bif (Zs y).isEmpty then Zl (some y)else none)=some res->Sim P T X h w s res:=by
  rintro y rfl d;cases Y:(Zs y).isEmpty with
  |false=>grind
  |true=>
   rw[Y]at d;obtain⟨u,hu,rfl⟩:=ZY d
   grind [Sim.pure]
 cases x<;>first|exact j _ rfl d|skip
 case sl b g off len ex=>
  dsimp only at d;split at d
  .next sz es J=>
   cases G:(es.length==g&&Z4 es)with
   |false=>grind
   |true=>
    rw[G]at d;simp only[cond_true,Option.some.injEq]at d;subst d;simp only[ZXf,beq_iff_eq]at G;have⟨N,l⟩:=G;have⟨r,C,B,z,k0,hC,n⟩:=XV m J;have⟨_,K,g2,r2,C2,B2,o,k1,k2,S⟩:=hx;rw[z]at o;cases o;have⟨cap,U,k5,Q,k7⟩:=S N.symm;have t:b<h.length:=(ZXu.1 J).1;have a:∀q,(upd T b<|.row sz (es.length+1) none 0 0).rng q->∃i c',i≠b/\T i=some c'/\c'.real=some q:=by
     rintro q ⟨i,c',h1,h2⟩;by_cases e:i=b
     .subst e;rw[upd_same]at h1;cases h1;cases h2
     grind [upd_ne]
    have A:Step T w (upd T b<|.row sz (es.length+1) none 0 0) w:=by
     refine⟨rfl,rfl,rfl,ZXh _,λy c H=>?_,λ_ _ _=>rfl,λq D=>?_,λ_=>ZXh _⟩
     .by_cases e:y=b
      .subst e;rw[z]at H;cases H;exact⟨_,upd_same _ _ _,rfl,.inr<|by omega⟩
      .exact⟨c,by grind [upd_ne],.refl _⟩
     .have⟨i,c',_,h1,h2⟩:=a q D;exact .inl ⟨i,c',h1,h2⟩
    have Z:=WZ m b .gone (.row sz (es.length+1) none 0 0) (ZYg t) A (λ_ _ _ _ _ _=>rfl) (λr W=>by cases W) trivial
    refine⟨_,w,v,.inl O,A,Z,?_⟩;have hl:((es.drop off).take len).length=len:=by grind
    rcases k7 with⟨k,rfl,rfl⟩|⟨rfl,p,rfl,k8⟩
    .have⟨E,el,j1,j2,V⟩:=n;have f:T.rng k:=⟨b,_,z,rfl⟩;refine⟨_,_,_,rfl,hl.symm,U,Q,MX l _ _,.inr ⟨k,(B+off)*sz,rfl,?_,λ_=>m.notX k f,m.lt k f,?_⟩⟩
     .intro D;have⟨i,c',F,h1,h2⟩:=a k D;exact F<|m.inj i c' b _ k h1 z h2 rfl
     .have:=UV len<|UU off V;rw[ZXQ];exact HS A _ _ rfl _ _ this
    .have L:len=0:=by omega
     refine⟨_,_,_,rfl,by omega,ZXh _,λ_=>rfl,MX l _ _,.inl ?_⟩
     grind
  grind
def Zze{s:Sem Next}{r res:Zt}(G:Sim P T X h w s r)(L:∀b o,r.2.2=some (b,o)->b<=h.length)(d:ZvE h r=some res):Sim P T X h w s res:=by
 have⟨v,rs,n⟩:=r;have⟨T0,w0,rv,e,l,H,q⟩:=G;have f:∀(b g off c sz:Nat)(ex:Bool)(es:List AV),v=.sl b g off c ex->(ZH h n)[b]?=some (.row sz es)->(es.length==g&&Z4 es)=true->
  setH (ZH h n) b .gone=setH h b .gone->Sim P T X h w s (.isl false ex sz<|(es.drop off).take c,rs,some (b,.gone)):=by
  rintro b g off c sz ex es rfl hrow A hset;have j:Sim P T0 X (ZH h n) w0 (Pure.pure (Next.value rv):Sem Next) (AV.isl false ex sz<|(es.drop off).take c,[b],some (b,AObj.gone)):=by
   grind [MY,Sem.run_pure]
  have⟨D,x,p,z,t,K,u⟩:=j;have F:x=w0/\p=rv:=by
   simp_all
  obtain⟨rfl,rfl⟩:=F;have m:M D X (setH (ZH h n) b .gone) x:=K;rw[hset]at m;exact⟨D,x,_,e,l.trans t,m,u⟩
 unfold ZvE at d;split at d
 .next b g off c ex i C sz es a=>
  obtain⟨rfl,rfl,rfl⟩:=a;cases B:(C==b&&(es.length==g&&Z4 es))with
  |false=>grind
  |true=>
   rw[B]at d;simp only[cond_true,Option.some.injEq]at d;subst d;have y:C=b:=by grind
   subst y;have⟨J,E⟩:=Zzb (.row sz es) .gone<|L _ _ rfl;exact f _ _ _ _ _ _ es rfl E (by grind) J
 .next b g off c ex i a=>
  simp only[Prod.mk.injEq]at a;obtain⟨rfl,rfl,rfl⟩:=a;cases k:h[b]? with
  |none=>grind
  |some o=>
   rw[k]at d;cases o<;>simp only[reduceCtorEq]at d
   case row sz es=>
    cases A:(es.length==g&&Z4 es)with
    |false=>grind
    |true=>
     rw[A]at d;simp only[cond_true,Option.some.injEq]at d;subst d;exact f _ _ _ _ _ _ es rfl k A rfl
 .next bw ex sz es i a=>
  simp only[Prod.mk.injEq]at a;obtain⟨rfl,rfl,rfl⟩:=a;simp only[Option.some.injEq]at d;subst d;exact⟨T0,w0,rv,e,l,H,q⟩
 grind
def ZxQ:∀{cs:List AV}{vs:List Value}{o:Nat}{x:AV}{v:Value},Rs T X w cs vs->vs[o]?=some v->R T X w x v->Rs T X w (cs.set o x) vs
 |[],vs,o,x,v,h,_,_=>h
 |c::cs,vs,0,x,v,h,hv,hx=>by
  obtain⟨u,us,rfl,h1,h2⟩:=h;simp[Option.some.injEq]at hv;subst hv;exact⟨_,_,rfl,hx,h2⟩
 |c::cs,vs,o+1,x,v,h,hv,hx=>by
  obtain⟨u,us,rfl,h1,h2⟩:=h;exact⟨_,_,rfl,h1,ZxQ h2 (by grind) hx⟩
def Zzf{s:Sem Next}{t:TypeId}{n c:Nat}{x:AV}{v:Value}{res:Zt}(m:M T X h w)(W:Xv P t (some n)=true)(Y:R T X w x v)
 (O:∀rv,(Instr.loadAt t v).run P w=.ok rv w->s.run P w=.ok (.value rv) w)
 (a:(match(generalizing:=false) x with
  | .ptr b i off g=>
   match h[b]? with
   |some (.row _ es)=>
    bif es.length==g then
     match es[i]? with
     |some e=>
      match takeC (some n) (e.cells.drop off)with
      |some u=>ZvH h b c u
      |none=>none
     |none=>none
    else none
   |_=>none
  |_=>none)=some res):Sim P T X h w s res:=by
 cases x<;>simp[reduceCtorEq]at a
 case ptr b i off g=>
  cases Z:h[b]? with
  |none=>grind
  |some o=>
   rw[Z]at a;cases o<;>simp[reduceCtorEq]at a
   case row sz es=>
    cases L:(es.length==g)with
    |false=>grind
    |true=>
     rw[L]at a;simp[cond_true]at a;cases K:es[i]? with
     |none=>grind
     |some e=>
      rw[K]at a;dsimp only at a;cases U:takeC (some n) (e.cells.drop off)with
      |none=>grind
      |some u=>
       rw[U]at a;have E:Sim P T X h w s (u,[b],none):=by
        refine Cv (n:=some n) m W Y O ?_
        grind
       have⟨T0,w0,rv,j,B,V,r⟩:=E;have S:M T0 X h w0:=V;cases u<;>simp[ZvH]at a
       case agg cs=>
        cases l:cs[c]? with
        |none=>grind
        |some q=>
         rw[l]at a;cases q<;>simp only[reduceCtorEq]at a
         case sl b2 g2 off2 len ex=>
          obtain⟨vs,rfl,d⟩:=r;have⟨J,A,hR⟩:=Wp c d l;cases G:(b2==b+1)with
          |false=>grind
          |true=>
          rw[G]at a;simp only[cond_true]at a;have D:b2=b+1:=by grind
          subst D;cases z:h[b+1]? with
          |none=>grind
          |some Q=>
           rw[z]at a;cases Q<;>simp only[reduceCtorEq]at a
           case row sz2 es2=>
            cases C:(es2.length==g2&&Z4 es2)with
            |false=>grind
            |true=>
             rw[C]at a;simp only[cond_true,Option.some.injEq]at a;subst a;have k:Sim P T0 X h w0 (Pure.pure (Next.value J):Sem Next) (AV.isl false ex sz2<|(es2.drop off2).take len,[b+1],some (b+1,AObj.gone)):=by
              grind [MY,Sem.run_pure]
             have⟨T1,H,p,F,f,m1,y⟩:=k;have N:H=w0/\p=J:=by
              simp_all
             obtain⟨rfl,rfl⟩:=N;exact⟨T1,H,_,j,B.trans f,m1,vs,rfl,ZxQ (Yb f _ _ d) A y⟩
def ZRK:∀{es:List AV},ZPi es=true->Z4 es=true
 |[],_=>rfl
 | .int _ _::r,h=>ZRK (es:=r) h
def ZRL{T:Ty}{X:Xt}{w:World}{r:Nat}:∀{es:List AV}(k o:Nat),ZPi es=true->ZV T X w r es o->ZA T X w 1 r (es.take k) o
 |[],k,o,_,_=>by simp[List.take_nil];trivial
 |_::_,0,_,_,_=>trivial
 | .int _ _::_,_+1,o,h,⟨h1,h2⟩=>⟨rfl,h1,ZRL _ _ h h2⟩
def ZTx{s:Sem Next}{t e:TypeId}{n:Nat}{x Q:AV}{v rhi:Value}{res:Zt}(m:M T X h w)(ha:P.underlying t=some (.array n e))(hn:ZR P e=some 1)
 (hx:R T X w x v) (F:R T X w Q rhi) (W:∀rv,(Instr.sliceAt t v none (some rhi) none).run P w=.ok rv w->s.run P w=.ok (.value rv) w)
 (j:(match(generalizing:=false) x with
 | .ptr b i off g=>
  match h[b]? with
  |some (.row sz es)=>ZP5 b n i off g sz Q es
  |_=>none
 |_=>none)=some res):Sim P T X h w s res:=by
 split at j
 .next b i off g=>
  split at j
  .next sz es O=>
   unfold ZP5 at j;split at j
   .next cs=>
    split at j
    .next l k mx E=>
     cases K:(i==0&&(off==0&&g==1))&&(ZPi cs&&(cs.length==sz&&sz==n))with
     |false=>grind
     |true=>
      rw[K]at j;simp only[cond_true,Option.some.injEq]at j;subst j;simp only[ZXf,beq_iff_eq]at K;obtain⟨⟨rfl,rfl,rfl⟩,hin,hcl,rfl⟩:=K;have⟨r,C,B,A,k0,hC,p⟩:=XV m O;have⟨_,U,g2,r2,C2,B2,u,k1,S⟩:=hx;rw[A]at u;cases u;obtain⟨d,rfl,_,rfl⟩:=S rfl;have⟨H,el,j1,j2,Z⟩:=p;have⟨j4,Y,_⟩:=Z;have z:b<h.length:=(ZXu.1 O).1;have a:∀q,(upd T b<|.row sz 2 none 0 0).rng q->∃f c',f≠b/\T f=some c'/\c'.real=some q:=by
       rintro q ⟨f,c',h1,h2⟩;by_cases e:f=b
       .subst e;rw[upd_same]at h1;cases h1;cases h2
       grind [upd_ne]
      have D:Step T w (upd T b<|.row sz 2 none 0 0) w:=by
       refine⟨rfl,rfl,rfl,ZXh _,λy c L=>?_,λ_ _ _=>rfl,λq G=>?_,λ_=>ZXh _⟩
       .by_cases e:y=b
        .subst e;rw[A]at L;cases L;exact⟨_,upd_same _ _ _,rfl,.inr<|by simp⟩
        .exact⟨c,by grind [upd_ne],.refl _⟩
       .have⟨f,c',_,h1,h2⟩:=a q G;exact .inl ⟨f,c',h1,h2⟩
      have m':=WZ m b .gone (.row sz 2 none 0 0) (ZYg z) D (λ_ _ _ _ _ _=>rfl) (λr hr=>by cases hr) trivial
      have⟨e1,e2,e3,e4⟩:=G4 (P:=P) (w:=w) (T:=T) (X:=X) E (rlo:=none) (rhi:=some rhi) (rmx:=none) trivial F trivial (cap:=sz) (ZXh _) false;have V:l=0:=by
       grind [bounds,VA]
      have aa:mx.getD sz=sz:=by
       grind [bounds,Vz]
      have N:∀q:Nat,(if sz=0 then(⟨d,q,none⟩:Addr)else(⟨d,q,none⟩:Addr).add (0*1))=⟨d,q,none⟩:=by
       intro q;split<;>simp[Addr.add]
      refine⟨_,w,.slice (some ⟨d,(B+0)*sz+0,none⟩) k sz,.inl<|W _ ?_,D,m',?_⟩
      .simp_all[Instr.sliceAt,run_underlying,Instr.sureAddr,QY]
      .have o:T.rng d:=⟨b,_,A,rfl⟩;refine⟨_,_,_,rfl,by grind,by omega,(λh0=>by grind),?_,.inr ⟨d,(B+0)*sz+0,rfl,?_,λ_=>m.notX d o,m.lt d o,?_⟩⟩
       .have:=MX (ZRK hin) 0 k;rw[ZXS]at this;exact this
       .intro G;have⟨f,c',J,h1,h2⟩:=a d G;exact J<|m.inj f c' b _ d h1 A h2 rfl
       .have:=ZRL k _ hin Y;rw[ZYb];exact HS D _ _ rfl _ _ this
    grind
   grind
  grind
 grind
set_option maxHeartbeats 1000000 in
def MZ(c:Ctx E T X h w)(C:FrR T X w fr a.tmps){o:Oper}{q:AOp}{aid:Nat}{res:Zt}(N:aid<=h.length)(hT:T aid=none)(g:Gb P o.op q=true)(A:Z8 E fr h aid q=some res):
 Sim P T X h w (execOp a.eval o) res:=by
 have⟨bc,op,ty,be,bf,gd⟩:=o;simp only at g;have B:=c.gl;have m:=c.m;have hX:=c.hX;unfold Gb at g;split at g
 .cases A
 .next x y=>exact MY m (evR B C g) rfl A
 .next x y=>exact MY m (evR B C g) rfl A
 .next x y=>
  obtain⟨u,K,rfl⟩:=ZY A;cases K;exact Sim.pure m rfl (evR B C g)
 .next x y=>
  obtain⟨u,K,rfl⟩:=ZY A;cases K;exact Sim.pure m rfl (evR B C g)
 .next x sz=>
  simp only[ZXf,decide_eq_true_eq]at g;cases MG g.1;simp only[Z8,Option.some.injEq]at A;subst A;exact MH m N hT g.2 rfl
 .next x sz=>
  simp only[ZXf,decide_eq_true_eq]at g;cases MG g.1;simp only[Z8,Option.some.injEq]at A;subst A;exact MH m N hT g.2 rfl
 .next cc x y c' x' y'=>
  simp only[ZXf]at g;have h1:=evR B C g.1.1;have h2:=evR B C g.1.2;have h3:=evR B C g.2;simp only[Z8]at A;generalize ev E fr c'=cv at A h1;cases cv<;>(first|(simp only[reduceCtorEq]at A;done)|skip)
  case bool b=>
   have M:=Wu h1;cases b
   .obtain⟨u,K,rfl⟩:=ZY A;cases K;exact Sim.pure m (by simp[execOp,M,asBool]) h3
   .obtain⟨u,K,rfl⟩:=ZY A;cases K;exact Sim.pure m (by simp[execOp,M,asBool]) h2
 .next t sz z=>
  simp only[ZXf,decide_eq_true_eq]at g;have⟨v,hv,ak⟩:=Gf g.1;simp only[Z8,ev]at A;cases O:fits sz z with
  |false=>rw[O]at A;cases A
  |true=>
   rw[O]at A;simp only[cond_true,Option.some.injEq]at A;subst A;exact UZ (e:=t) m hX N hT g.2 O (Ws v z ak)<|Qg (s:=Instr.alloc t true<|.tuple #[]) rfl (by simp[Instr.alloc,Xu w hv,KB])
 .next t x sz y=>
  simp only[ZXf,decide_eq_true_eq]at g;simp only[Z8]at A;cases O:fits sz (ev E fr y)with
  |false=>rw[O]at A;cases A
  |true=>
   rw[O]at A;simp only[cond_true,Option.some.injEq]at A;subst A;exact UZ (e:=t) m hX N hT g.2 O (evR B C g.1)<|Qg (s:=Instr.box t<|a.eval x) rfl (by simp[Instr.box,KB])
 .next t sz z=>
  simp only[ZXf,decide_eq_true_eq]at g;have⟨v,hv,ak⟩:=Gf g.1;simp only[Z8,ev]at A;obtain⟨O,⟨bw,aq,rfl⟩|rfl⟩:=MV A
  .exact Mj (e:=t) m hX O aq (Ws v z ak)<|Qg (s:=Instr.alloc t true<|.tuple #[]) rfl (by simp[Instr.alloc,Xu w hv,KB])
  .exact UZ (e:=t) m hX N hT g.2 O (Ws v z ak)<|Qg (s:=Instr.alloc t true<|.tuple #[]) rfl (by simp[Instr.alloc,Xu w hv,KB])
 .next t x sz y=>
  simp only[ZXf,decide_eq_true_eq]at g;simp only[Z8]at A;obtain⟨O,⟨bw,aq,rfl⟩|rfl⟩:=MV A
  .exact Mj (e:=t) m hX O aq (evR B C g.1)<|Qg (s:=Instr.box t<|a.eval x) rfl (by simp[Instr.box,KB])
  .exact UZ (e:=t) m hX N hT g.2 O (evR B C g.1)<|Qg (s:=Instr.box t<|a.eval x) rfl (by simp[Instr.box,KB])
 .next t ps z qs=>
  simp only[ZXf]at g;have⟨S,W⟩:=g;obtain⟨zv,ac,af⟩:∃zv,YH P t=some zv/\Wr zv.cells.toList z=true:=by
   cases ac:YH P t with
   |none=>rw[ac]at S;cases S
   |some v=>rw[ac]at S;exact⟨v,rfl,S⟩
  refine CT (a:=a) m B C ac af ?_ (λrv F=>Qg (s:=Instr.build t<|ps.map λ(i,x)=>(i,a.eval x)) rfl F) A
  cases D:V5 P t with
  |some fs=>
   rw[D]at W;simp only[ZXf]at W;have⟨l,hl⟩:=ZYZ.1 W.1;exact .inl ⟨fs,l,Rh D,hl,W.2⟩
  |none=>
   rw[D]at W;cases ha:V4 P t with
   |none=>rw[ha]at W;cases W
   |some ne=>
    have⟨n,e⟩:=ne;rw[ha]at W;simp only at W;cases H:ZR P e with
    |none=>rw[H]at W;cases W
    |some sz=>rw[H]at W;exact .inr ⟨n,e,sz,Rg ha,H,W⟩
 .next t ap ps fz ex sz z bb qs=>
  cases D:isSlice P t with
  |none=>rw[D]at g;cases g
  |some e=>
   rw[D]at g;simp only[ZXf,decide_eq_true_eq]at g;obtain⟨⟨⟨⟨⟨rfl,h0⟩,hlen⟩,H⟩,S⟩,W⟩:=g;have⟨zv,ac,af⟩:=Gf S;exact CV (a:=a) m B C hX N hT h0 hlen (KJ D) H ac af W (λrv w' F=>Qg (s:=Instr.buildSlice t ap<|ps.map λ(i,x)=>(i,a.eval x)) rfl F) A
 .next t x n y=>
  simp only[ZXf]at g;exact Cv m g.1 (evR B C g.2) (λrv F=>Qg (s:=Instr.loadAt t<|a.eval x) rfl F) A
 .next t x n c y=>
  simp only[ZXf]at g;exact Zzf m g.1 (evR B C g.2) (λrv F=>Qg (s:=Instr.loadAt t<|a.eval x) rfl F) A
 .next t x y n x' y'=>
  simp only[ZXf,decide_eq_true_eq]at g;exact Cx m g.1.1 (evR B C g.1.2) (evR B C g.2) (λw' F=>Ri (s:=Instr.storeAt t (a.eval x)<|a.eval y) rfl F) A
 .next x y=>
  refine CE m (evR B C g) ?_ A;rintro(⟨p,W⟩|⟨f,c,e,W⟩)<;>simp[execOp,W]
 .next ab t x yt neg y=>
  simp only[ZXf,decide_eq_true_eq]at g;obtain⟨⟨rfl,W⟩,h1⟩:=g;refine ZGx (neg:=neg) m (evR B C h1) ?_ A;intro p hv;have hg:(eqGuard (if neg then .neq else .eql) t x (.const<|.pointer none) (a.eval x)<|.pointer none).run P w=.ok () w:=MI (λ_ us _ K=>by cases K)<|.inr<|by simp
  refine Qg (s:=(do eqGuard (if neg then .neq else .eql) t x (.const<|.pointer none) (a.eval x) (.pointer none);binOp (if neg then .neq else .eql) t (a.eval x) (.pointer none))) rfl ?_
  simp only[Sem.run_bind,hg,Result.andThen_ok];unfold ZFF at W;split at W
  .rename_i e K;rw[hv];have hq:(Op.equalIn Op.maxDepth t (.pointer p)<|.pointer none).run P w=.ok p.isNone w:=by
    obtain⟨n,hn⟩:∃n,Op.maxDepth=n+1:=⟨9999,rfl⟩;rw[hn];cases p<;>simp[Op.equalIn,run_underlying K]
   cases neg with
   |false=>simp[binOp,Op.equal,hq]
   |true=>cases p<;>simp[binOp,Op.equal,hq]
  .cases W
 .next ab t x y yt az x' y'=>
  simp only[ZXf,decide_eq_true_eq]at g;obtain⟨⟨rfl,h1⟩,h2⟩:=g;have Q:=evR B C h1;have r2:=evR B C h2;obtain⟨u,K,rfl⟩:=ZY A;have⟨rv,q1,q2⟩:=Cp (P:=P) K Q r2;refine Sim.pure m (Qg (s:=(do eqGuard ab t x y (a.eval x) (a.eval y);binOp ab t (a.eval x) (a.eval y))) rfl ?_) q1;have hg:(eqGuard ab t x y (a.eval x)<|a.eval y).run P w=.ok () w:=by
   refine MI ?_ ?_
   .intro vs us V _;generalize ev E fr x'=xv at K Q;cases xv<;>first|(simp[YZ]at K;done)|skip
    .rw[QS Q]at V;cases V
    .rw[Yj Q]at V;cases V
   .left;intro V;generalize ev E fr x'=xv at K Q;cases xv<;>first|(simp[YZ]at K;done)|skip
    .rw[QS Q]at V;cases V
    .rw[Yj Q]at V;cases V
  simp only[Sem.run_bind,hg,Result.andThen_ok,q2]
 .next ab t x y yt neg ag ks x' y'=>
  simp only[ZXf,decide_eq_true_eq,ZXM]at g;obtain⟨⟨⟨⟨⟨aj,hk⟩,rfl⟩,hgt⟩,h1⟩,h2⟩:=g;have Q:=evR B C h1;have r2:=evR B C h2;obtain⟨u,K,rfl⟩:=ZY A;simp only[ZXt]at K;obtain⟨b,M,rfl⟩:=K;have am:=HV (P:=P) hk M Q r2;have ay:a.eval x≠.nilIface:=by
   intro V;generalize ev E fr x'=xv at M Q;cases ae:ZF P t with
   |true=>
    rw[ae]at M;cases xv<;>simp[Zz]at M
    have⟨vs,hv,_⟩:=Q;rw[hv]at V;cases V
   |false=>
    rw[ae]at M;simp only[Zz]at M;have hl:=(X5 M).1;cases ks with
    |nil=>simp at hl
    |cons k ks=>
     simp only[ZE]at M;cases aa:eq1 k xv (ev E fr y')with
     |none=>rw[aa]at M;cases M
     |some b0=>
      rcases k with _|_|_|k<;>cases xv<;>simp[eq1]at aa
      .rw[Wu Q]at V;cases V
      .rw[QS Q]at V;cases V
      .rw[Yj Q]at V;cases V
  have hg:(eqGuard ab t x y (a.eval x)<|a.eval y).run P w=.ok () w:=MI (λ_ _ _ _=>hgt)<|.inl ay
  refine Sim.pure m (Qg (s:=(do eqGuard ab t x y (a.eval x) (a.eval y);binOp ab t (a.eval x) (a.eval y))) rfl (rv:=.bool (if neg=true then !b else b)) ?_)<|by cases neg<;>rfl
  simp only[Sem.run_bind,hg,Result.andThen_ok];have an:(binOp .eql t (a.eval x)<|a.eval y).run P w=.ok (.bool b) w/\(binOp .neq t (a.eval x)<|a.eval y).run P w=.ok (.bool !b) w:=by
   cases ae:ZF P t with
   |true=>
    rw[ae]at M;generalize ev E fr x'=xv at M Q;generalize ev E fr y'=yv at M r2;cases xv<;>cases yv<;>simp[Zz]at M
    have⟨vs,hv,_⟩:=Q;have⟨us,aw,_⟩:=r2;rw[hv,aw]at am⊢;constructor<;>simp[binOp,am]
   |false=>
    rw[ae]at M;simp only[Zz]at M;have hl:=(X5 M).1;generalize ev E fr x'=xv at M Q;generalize ev E fr y'=yv at M r2;cases ks with
    |nil=>simp at hl
    |cons k ks=>
     cases ks with
     |cons _ _=>simp at hl
     |nil=>
      simp only[ZE]at M;cases aa:eq1 k xv yv with
      |none=>rw[aa]at M;cases M
      |some b0=>
       rw[aa]at M;simp at M;subst M;rcases k with _|_|_|k<;>cases xv<;>cases yv<;>simp[eq1]at aa
       .rw[Wu Q,Wu r2]at am⊢;constructor<;>simp[binOp,am]
       .obtain⟨rfl,rfl⟩:=aa;rw[QS Q,QS r2];constructor<;>simp[binOp,Op.intCmp]<;>rfl
       .rw[Yj Q,Yj r2];subst aa;constructor<;>simp[binOp,Op.stringOp,Z3,toList_data]
  cases neg with
  |true=>simp only[if_true]at aj⊢;rw[aj];exact an.2
  |false=>simp only[ZXB,if_false]at aj⊢;rw[aj];exact an.1
 .next av t x az y=>
  simp only[ZXf,decide_eq_true_eq]at g;obtain⟨rfl,h1⟩:=g;obtain⟨u,K,rfl⟩:=ZY A;have⟨rv,q1,q2⟩:=Cq (P:=P) K<|evR B C h1;exact Sim.pure m (Qg (s:=Op.unary av<|a.eval x) rfl q2) q1
 .next s d x k y=>
  simp only[ZXf]at g;have⟨h1,h2⟩:=g;have Q:=evR B C h1;simp only[Z8]at A;generalize ev E fr y=yv at A Q;split at h2
  .next ds k' kk V e2=>
   have h2:=of_decide_eq_true h2;subst h2;cases yv<;>(first|(simp only[reduceCtorEq]at A;done)|skip)
   obtain⟨u,K,rfl⟩:=ZY A;cases K;refine Sim.pure m (Qg (s:=convert s d<|a.eval x) rfl ?_) rfl;rw[QS Q];simp only[convert,Sem.run_bind,run_underlying V,run_underlying e2,Result.andThen_ok];cases ds<;>rfl
  .next ds V e2=>
   cases yv<;>(first|(simp only[reduceCtorEq]at A;done)|skip)
   obtain⟨u,K,rfl⟩:=ZY A;cases K;refine Sim.pure m (Qg (s:=convert s d<|a.eval x) rfl ?_) Q;rw[Yj Q];simp only[convert,Sem.run_bind,run_underlying V,run_underlying e2,Result.andThen_ok];cases ds<;>rfl
  .cases h2
 .next t x i n off y=>
  cases D:V5 P t with
  |none=>rw[D]at g;cases g
  |some fs=>
   rw[D]at g;simp only at g;cases ad:fs[i]? with
   |none=>rw[ad]at g;cases g
   |some f=>
    rw[ad]at g;simp only[ZXf,decide_eq_true_eq]at g;obtain⟨⟨rfl,hn⟩,hx⟩:=g;exact CL m (Rh D) ad hn (evR B C hx) (λrv F=>Qg (s:=Instr.field t (a.eval x) i) rfl F) A
 .next t x i off y=>
  cases D:V5 P t with
  |none=>rw[D]at g;cases g
  |some fs=>
   rw[D]at g;simp only at g;cases ad:fs[i]? with
   |none=>rw[ad]at g;cases g
   |some f=>
    rw[ad]at g;simp only[ZXf,decide_eq_true_eq]at g;obtain⟨⟨rfl,hn⟩,hx⟩:=g;cases H:ZR P f.type with
    |none=>rw[H]at hn;cases hn
    |some n=>
     rw[H]at hn;exact CD m (Rh D) ad H (of_decide_eq_true hn) (evR B C hx) (λrv F=>Qg (s:=Instr.fieldAt t (a.eval x) i) rfl F) A
 .next t x i sz y j=>
  cases D:isSlice P t with
  |none=>rw[D]at g;cases g
  |some e=>
   rw[D]at g;simp only[ZXf,decide_eq_true_eq]at g;exact CF m (KJ D) g.1.1 (evR B C g.1.2) (evR B C g.2) (λrv F=>Qg (s:=Instr.indexAt t (a.eval x)<|a.eval i) rfl F) A
 .next t x i sz ap y j=>
  cases D:V4 P t with
  |none=>rw[D]at g;cases g
  |some ne=>
   have⟨n,e⟩:=ne;rw[D]at g;simp only[ZXf,decide_eq_true_eq]at g;obtain⟨⟨⟨rfl,H⟩,h1⟩,h2⟩:=g;exact CG m (Rg D) H (evR B C h1) (evR B C h2) (λrv F=>Qg (s:=Instr.indexAt t (a.eval x)<|a.eval i) rfl F) A
 .next t x i y j=>
  simp only[ZXf]at g;exact CJ m (Gd g.1.1) (evR B C g.1.2) (evR B C g.2) (λrv F=>Qg (s:=Instr.index t (a.eval x)<|a.eval i) rfl F) A
 .next t x i n sz ap y j=>
  cases D:V4 P t with
  |none=>rw[D]at g;cases g
  |some ne=>
   have⟨k,e⟩:=ne;rw[D]at g;simp only[ZXf,decide_eq_true_eq]at g;obtain⟨⟨⟨⟨rfl,H⟩,hn⟩,h1⟩,h2⟩:=g;exact CK m (Rg D) hn H (evR B C h1) (evR B C h2) (λrv F=>Qg (s:=Instr.index t (a.eval x)<|a.eval i) rfl F) A
 .next x i y j=>
  simp only[ZXf,decide_eq_true_eq]at g;obtain⟨rfl,h1⟩:=g;exact CM m (evR B C h1) (λrv F=>Qg (s:=Instr.extract (a.eval x) i) rfl F) A
 .next fn f cc bg f' c'=>
  simp only[ZXf,decide_eq_true_eq]at g;obtain⟨⟨rfl,h1⟩,h2⟩:=g;obtain⟨u,K,rfl⟩:=ZY A;cases K;refine Sim.pure m (Qg (s:=Instr.makeFunc fn (f.map a.eval)<|cc.map a.eval) rfl rfl) ⟨f.map a.eval,cc.map a.eval,rfl,?_,?_⟩
  .simpa using VF B C h1
  .simpa using VF B C h2
 .next t r=>
  simp only[Z8,Option.some.injEq]at A;subst A;cases r with
  |some _=>cases g
  |none=>exact B9 (t:=t) m hX N hT<|λrv w' F=>Qg (s:=Instr.makeMap t none) rfl F
 .next t mm k v ag kk m' k' v'=>
  cases D:isMap P t with
  |none=>rw[D]at g;cases g
  |some kv=>
   have⟨kt,vt⟩:=kv;rw[D]at g;simp only[ZXf,decide_eq_true_eq]at g;obtain⟨⟨⟨⟨hk,rfl⟩,h1⟩,h2⟩,h3⟩:=g;exact ME m (Ge D) hk (evR B C h1) (evR B C h2) (evR B C h3) (λw' F=>Ri (s:=Instr.mapUpdate t (a.eval mm) (a.eval k)<|a.eval v) rfl F) A
 .next t mm k v ag kk m' k' v'=>
  cases D:isMap P t with
  |none=>rw[D]at g;cases g
  |some kv=>
   have⟨kt,vt⟩:=kv;rw[D]at g;simp only[ZXf,decide_eq_true_eq]at g;obtain⟨⟨⟨⟨hk,rfl⟩,h1⟩,h2⟩,h3⟩:=g;exact ME m (Ge D) hk (evR B C h1) (evR B C h2) (evR B C h3) (λw' F=>Ri (s:=Instr.mapUpdate t (a.eval mm) (a.eval k)<|a.eval v) rfl F) A
 .next t mm k ok ag kk bd z m' k'=>
  cases D:isMap P t with
  |none=>rw[D]at g;cases g
  |some kv=>
   have⟨kt,vt⟩:=kv;rw[D]at g;simp only[ZXf,decide_eq_true_eq]at g;obtain⟨⟨⟨⟨⟨hk,rfl⟩,rfl⟩,S⟩,h1⟩,h2⟩:=g;have⟨zv,ac,af⟩:=Gf S;exact B5 m (Ge D) hk ac af (evR B C h1) (evR B C h2) (λrv F=>Qg (s:=Instr.lookup t (a.eval mm) (a.eval k) ok) rfl F) A
 .next t l cc sz z bytes l' c'=>
  cases D:isSlice P t with
  |none=>rw[D]at g;cases g
  |some e=>
   rw[D]at g;simp only[ZXf]at g;have⟨⟨L,h1⟩,h2⟩:=g;cases U:P.info? e with
   |none=>rw[U]at L;cases L
   |some i=>
    rw[U]at L;simp only[ZXf,decide_eq_true_eq]at L;have⟨⟨H,ah⟩,S⟩:=L;cases R:i.zero with
    |none=>rw[R]at S;cases S
    |some zv=>
     rw[R]at S;exact CO m hX N hT (KJ D) U H ah R S (evR B C h1) (evR B C h2) (λrv w' F=>Qg (s:=Instr.makeSlice t (a.eval l)<|a.eval cc) rfl F) A
 .next t x lo L mx sz y ba au bh=>
  cases D:isSlice P t with
  |none=>rw[D]at g;cases g
  |some e=>
   rw[D]at g;simp only[ZXf,decide_eq_true_eq]at g;obtain⟨⟨⟨⟨H,h1⟩,h2⟩,h3⟩,h4⟩:=g;exact CH m (KJ D) H (evR B C h1) (JW B C h2) (JW B C h3) (JW B C h4) (λrv F=>Qg (s:=Instr.sliceAt t (a.eval x) (lo.map a.eval) (L.map a.eval)<|mx.map a.eval) rfl F) A
 .next t x L n y au=>
  split at g
  .next m0 e0 ax=>
   simp only[ZXf,decide_eq_true_eq]at g;obtain⟨⟨⟨rfl,H⟩,h1⟩,h2⟩:=g;exact ZTx m (Rg ax) H (evR B C h1) (evR B C h2) (λrv F=>Qg (s:=Instr.sliceAt t (a.eval x) none (some<|a.eval L) none) rfl F) A
  .cases g
 .next t x lo L y ba au=>
  simp only[ZXf]at g;obtain⟨⟨⟨h0,h1⟩,h2⟩,h3⟩:=g;exact CI m (Gd h0) (evR B C h1) (JW B C h2) (JW B C h3) (λrv F=>Qg (s:=Instr.sliceAt t (a.eval x) (lo.map a.eval) (L.map a.eval) none) rfl F) A
 .next cl k y=>
  have⟨Y,args,G⟩:=cl;simp only at g;split at g
  .rename_i x t e2 e3;simp only[ZXf]at g;have J:args = #[x]:=by apply ZYB;simpa using e2
   have Z:G = #[t]:=by apply ZYB;simpa using e3
   subst J Z;exact Bx (ty:=ty) m g.1 (evR B C g.2) (λrv F=>by simp[execOp,resolve,invoke,builtin,F]) A
  .cases g
 .next cl fz sz bytes s x=>
  have⟨Y,args,G⟩:=cl;simp only at g;split at g
  .rename_i s' x' t t2 e2 e3;simp only[ZXf,ZXM]at g;obtain⟨⟨⟨⟨L,h2⟩,h3⟩,h4⟩,h5⟩:=g;have J:args = #[s',x']:=by apply ZYB;simpa using e2
   have Z:G = #[t,t2]:=by apply ZYB;simpa using e3
   subst J Z;cases D:isSlice P t with
   |none=>rw[D]at L;cases L
   |some e=>
    rw[D]at L;simp only at L;cases U:P.info? e with
    |none=>rw[U]at L;cases L
    |some i=>
     rw[U]at L;simp only[ZXf,decide_eq_true_eq]at L;have⟨⟨H,ah⟩,S⟩:=L;cases R:i.zero with
     |none=>rw[R]at S;cases S
     |some zv=>
      rw[R]at S;have⟨d,hd⟩:=ZYZ.1 h2;have ar:∀k,d≠.int k:=by
       rintro k rfl;simp[MF,hd]at h3
      exact B0 (ty:=ty) m hX N hT (KJ D) ⟨d,hd,ar⟩ U H ah R (of_decide_eq_true S) (evR B C h4) (evR B C h5) (λrv w' F=>by simp[execOp,resolve,invoke,builtin,F]) A
  .cases g
 .next cl sz bytes s x=>
  have⟨Y,args,G⟩:=cl;simp only at g;split at g
  .rename_i s' x' t t2 e2 e3;simp only[ZXf,ZXM]at g;obtain⟨⟨⟨⟨L,h2⟩,h3⟩,h4⟩,h5⟩:=g;have J:args = #[s',x']:=by apply ZYB;simpa using e2
   have Z:G = #[t,t2]:=by apply ZYB;simpa using e3
   subst J Z;cases D:isSlice P t with
   |none=>rw[D]at L;cases L
   |some e=>
    rw[D]at L;simp only at L;cases U:P.info? e with
    |none=>rw[U]at L;cases L
    |some i=>
     rw[U]at L;simp only[ZXf,decide_eq_true_eq]at L;have⟨⟨H,ah⟩,S⟩:=L;cases R:i.zero with
     |none=>rw[R]at S;cases S
     |some zv=>
      rw[R]at S;have⟨d,hd⟩:=ZYZ.1 h2;have ar:∀k,d≠.int k:=by
       rintro k rfl;simp[MF,hd]at h3
      simp only[Z8]at A;cases al:Qt h aid false sz bytes (ev E fr s) (ev E fr x)with
      |none=>rw[al]at A;cases A
      |some r=>
       rw[al]at A;exact Zze (B0 (ty:=ty) m hX N hT (KJ D) ⟨d,hd,ar⟩ U H ah R (of_decide_eq_true S) (evR B C h4) (evR B C h5) (λrv w' F=>by simp[execOp,resolve,invoke,builtin,F]) al) (ZxP N al) A
  .cases g
 .next cl mx x y=>
  have⟨Y,args,G⟩:=cl;simp only at g;split at g
  .rename_i x' y' e3;simp only[ZXf,ZXM]at g;have J:args = #[x',y']:=by apply ZYB;simpa using e3
   subst J;obtain⟨⟨rfl,h1⟩,h2⟩:=g;exact MW (mx:=false) m (evR B C h1) (evR B C h2) (λk p j q hx hy=>by simp[execOp,resolve,invoke,builtin,Builtin.min_,Builtin.min2,hx,hy]) A
  .rename_i x' y' e3;simp only[ZXf]at g;have J:args = #[x',y']:=by apply ZYB;simpa using e3
   subst J;obtain⟨⟨rfl,h1⟩,h2⟩:=g;exact MW (mx:=true) m (evR B C h1) (evR B C h2) (λk p j q hx hy=>by simp[execOp,resolve,invoke,builtin,Builtin.max_,Builtin.max2,hx,hy]) A
  .cases g
 .next t x y=>
  simp only[ZXf]at g;exact Ba (t:=t) m hX N hT (Gd g.1) (evR B C g.2) (λrv w' F=>Qg (s:=Instr.range t<|a.eval x) rfl F) A
 .next x y=>exact Bb (t:=ty) m (evR B C g) (λrv w' F=>Qg (s:=Instr.next (a.eval x) true ty) rfl F) A
 .next t x t' y=>
  simp only[ZXf,decide_eq_true_eq]at g;obtain⟨⟨rfl,h1⟩,h2⟩:=g;obtain⟨u,K,rfl⟩:=ZY A;cases K;refine Sim.pure m (Qg (s:=Instr.makeInterface t<|a.eval x) rfl (rv:=.iface t<|a.eval x) ?_) ⟨_,rfl,evR B C h1⟩;cases K:P.underlying t with
  |none=>rw[K]at h2;cases h2
  |some d=>
   rw[K]at h2;simp only[Instr.makeInterface,Sem.run_bind,run_underlying K,Result.andThen_ok];cases d<;>first|rfl|cases h2
 .cases g
end Go.AM
namespace Go.AM
open Go
variable [Dr]
variable {P:Program} {E:Env} {T:Ty} {X:Xt} {w:World} {h:Hp} {fr:Fr} {a:Act}
def ZFG(m:M T X h w){b sz g C B:Nat}{r:Option Nat}{es:List AV}(k:h[b]?=some (.row sz es))(n:T b=some (.row sz g r C B)):
 Step T w (upd T b<|.row sz (g+1) none 0 0) w/\M (upd T b<|.row sz (g+1) none 0 0) X (setH h b .gone) w/\
  ∀q,(upd T b<|.row sz (g+1) none 0 0).rng q->∃d c',d≠b/\T d=some c'/\c'.real=some q:=by
 have f:b<h.length:=(ZXu.1 k).1;have a:∀q,(upd T b<|.row sz (g+1) none 0 0).rng q->∃d c',d≠b/\T d=some c'/\c'.real=some q:=by
  rintro q ⟨d,c',h1,h2⟩;by_cases e:d=b
  .subst e;rw[upd_same]at h1;cases h1;cases h2
  grind [upd_ne]
 have j:Step T w (upd T b<|.row sz (g+1) none 0 0) w:=by
  refine⟨rfl,rfl,rfl,ZXh _,λy c i=>?_,λ_ _ _=>rfl,λq l=>?_,λ_=>ZXh _⟩
  .by_cases e:y=b
   .subst e;rw[n]at i;cases i;exact⟨_,upd_same _ _ _,rfl,.inr<|by omega⟩
   .exact⟨c,by grind [upd_ne],.refl _⟩
  .have⟨d,c',_,h1,h2⟩:=a q l;exact .inl ⟨d,c',h1,h2⟩
 exact⟨j,WZ m b .gone _ (ZYg f) j (λ_ _ _ _ _ _=>rfl) (λr o=>by cases o) trivial,a⟩
def ZGy(m:M T X h w){b sz r C B off:Nat}{es:List AV}(p:h[b]?=some (.row sz es))(s:T b=some (.row sz es.length (some r) C B))(L:off<=es.length):
 Step T w (upd (upd T b<|.row sz (es.length+1) none 0 0) h.length<|.row sz (es.length-off) (some r) C<|B+off) w/\
  M (upd (upd T b<|.row sz (es.length+1) none 0 0) h.length<|.row sz (es.length-off) (some r) C<|B+off) X (setH h b .gone++[.row sz<|es.drop off]) w:=by
 have⟨Z,C1,Y,k,R,hC,U⟩:=XV m p;rw[s]at k;cases k;have⟨cs,el,W,O,S⟩:=U;have⟨j,o,n⟩:=ZFG m p s;have E:(setH h b .gone).length=h.length:=by
  have F:b<h.length:=(ZXu.1 p).1;unfold setH;rw[show Nat.blt b h.length=true by simp_all,cond_true,ZYG]
 have P:upd T b (.row sz (es.length+1) none 0 0) h.length=none:=JR o<|.inl<|by grind
 have K:T.rng r:=⟨b,_,s,rfl⟩;have i:Step T w (upd (upd T b<|.row sz (es.length+1) none 0 0) h.length<|.row sz (es.length-off) (some r) C<|B+off) w:=by
  refine⟨rfl,rfl,rfl,ZXh _,λy c Q=>?_,λ_ _ _=>rfl,λq d=>?_,λ_=>ZXh _⟩
  .have⟨G,A,J⟩:=j.le y c Q
   grind [upd_ne]
  .have⟨a,c',h1,h2⟩:=d;by_cases e:a=h.length
   .subst e;rw[upd_same]at h1;cases h1;cases h2
    grind
   .rw[upd_ne _ _ e]at h1;exact j.rng q ⟨a,c',h1,h2⟩
 refine⟨i,?_⟩;have V:∀a c',upd T b (.row sz (es.length+1) none 0 0) a=some c'->c'.real≠some r:=by
  intro a c' h1 h2;have⟨u,v,z,A,J⟩:=n r ⟨a,c',h1,h2⟩;exact z<|m.inj u v b _ r A s J rfl
 have l:∀x,(setH h b .gone++[.row sz<|es.drop off])[x]?=if x=h.length then some (.row sz<|es.drop off)else(setH h b .gone)[x]?:=by
  grind
 refine⟨?_,?_,?_,?_⟩
 .intro H G u v q h1 h2 f N;by_cases D:H=h.length<;>by_cases g:u=h.length
  .omega
  .subst D;rw[upd_same]at h1;cases h1;cases f
   grind [upd_ne]
  .subst g;rw[upd_same]at h2;cases h2;cases N
   grind [upd_ne]
  .rw[upd_ne _ _ D]at h1;rw[upd_ne _ _ g]at h2;exact o.inj H G u v q h1 h2 f N
 .intro q d;rcases i.rng q d with h1|h1
  .exact m.lt q h1
  .have⟨a,c',h2,f⟩:=d;by_cases e:a=h.length
   .subst e;rw[upd_same]at h2;cases h2;cases f
    grind
   .rw[upd_ne _ _ e]at h2;exact o.lt q ⟨a,c',h2,f⟩
 .intro q d;rcases i.rng q d with h1|h1
  .exact m.notX q h1
  .have⟨a,c',h2,f⟩:=d;by_cases e:a=h.length
   .subst e;rw[upd_same]at h2;cases h2;cases f
    grind
   .rw[upd_ne _ _ e]at h2;exact o.notX q ⟨a,c',h2,f⟩
 .intro x;rw[l x];by_cases e:x=h.length
  .subst e;rw[if_pos rfl,upd_same];refine⟨rfl,by simp,R,by omega,cs,el,W,O,?_⟩
   rw[ZXQ];exact HS i _ _ rfl _ _ (UU off S)
  .rw[if_neg e,upd_ne _ _ e];by_cases g:x=b
   .subst g;have:=o.obj x;rw[upd_same]at this⊢;rw[Ks h x .gone<|ZYg (ZXu.1 p).1,if_pos rfl]at this⊢;exact this
   .rw[upd_ne _ _ g,Ks h b .gone<|ZYg (ZXu.1 p).1,if_neg g];exact Mg i _ _ (λt q ht d=>rfl)<|m.obj x
set_option maxHeartbeats 400000 in
def ZGz{t V e:TypeId}{sz b off f:Nat}{ty:TypeId}{es ys:List AV}{bd:Option Addr}{r C B cap cap2:Nat}(m:M T X h w)
 (ht:P.underlying t=some (.slice e)) (Q:∃d,P.underlying V=some d/\∀k,d≠.int k) (q:ZR P e=some sz)
 (Y:h[b]?=some (.row sz es)) (A:T b=some (.row sz es.length (some r) C B)) (s:ys.all (fits sz)=true) (U:0<ys.length) (z:off+f=es.length)
 (K:B+off+cap<=C) (n:f+ys.length<=cap) (N:ys=[]\/∃r o,bd=some ⟨r,o,none⟩/\ZA T X w sz r ys o):
 ∃w',(Builtin.append_ #[t,V] ty #[.slice (some ⟨r,(B+off)*sz,none⟩) f cap,.slice bd ys.length cap2]).run P w=.ok (.slice (some ⟨r,(B+off)*sz,none⟩) (f+ys.length) cap) w'/\
  Step T w (upd T b<|.row sz (es++ys).length (some r) C B) w'/\M (upd T b<|.row sz (es++ys).length (some r) C B) X (setH h b<|.row sz<|es++ys) w':=by
 have⟨r1,C1,B1,y,q0,hC,hr⟩:=XV m Y;rw[A]at y;cases y;have R:(es++ys).length=es.length+ys.length:=by simp
 have⟨cs,el,F,E,S⟩:=hr;have⟨us,c2,c3,c4,c⟩:=run_append_room (P:=P) (ty:=ty) (cap2:=cap2) (o:=(B+off)*sz) ht Q q N (R8 s) F n<|by rw[E,<-ZXQ];exact ZYk _ K
 have⟨D,os,Z,H,v,L,J⟩:=HZ S F E hC;have i:(B+off)*sz+f*sz=B*sz+es.length*sz:=by rw[<-ZXQ,<-ZXQ,ZYx,z]
 rw[i]at c;obtain⟨a,g⟩:∃a,a=(cs.toList.take (B*sz+es.length*sz)++us++cs.toList.drop (B*sz+es.length*sz+us.length)):=⟨_,rfl⟩;rw[<-g]at c;have l:a=D++((os++us)++cs.toList.drop (B*sz+es.length*sz+us.length)):=by
  rw[g];have:cs.toList.take (B*sz+es.length*sz)=D++os:=by
   rw[H,<-v,ZZz,ZZg J]
  rw[this];simp[ZY0]
 have p:a.length=cs.size:=by
  rw[g];have aa:B*sz+es.length*sz+us.length<=cs.size:=by
   rw[c3,<-ZXQ,<-ZXQ,E];exact ZYk _<|by omega
  simp;omega
 have O:(w.setRow r a.toArray).heap[r]?=some (.cells a.toArray el (0,0)):=setRow_heap w r cs a.toArray el (0,0) F;have⟨G,hm⟩:=JV (w':=w.setRow r a.toArray) (o:=.row sz<|es++ys) (c':=.row sz (es++ys).length (some r) C B) m A rfl rfl ⟨rfl,.inr<|by omega⟩ (KD Y) rfl rfl rfl (setRow_size _ _ _)
  (λx hx=>setRow_other w r x _ hx)
  (λG=>⟨rfl,rfl,q0,by omega,a.toArray,el,O,by simpa[p]using E,by
   refine Wq (Ms (Kx S).2.2 c4) ?_;rw[KE];refine Xs (Yb G _ _<|QR L c2)<|λj u W=>?_
   rw[Mm F];simp only[ZYV];rw[l,ZYl (by omega),v,show B*sz+j-B*sz=j by omega,ZYw (ZXu.1 W).1]
   exact W⟩)
 exact⟨_,c,G,hm⟩
set_option maxHeartbeats 400000 in
def ZGA{s:Sem Next}{t t2 e:TypeId}{sz bytes:Nat}{i:TypeInfo}{zv:Value}{x y:AV}{v u:Value}{ty:TypeId}{res:AV×Hp}(m:M T X h w)(hX:∀r,X r->r<w.heap.size)
 (ht:P.underlying t=some (.slice e)) (G:∃d,P.underlying t2=some d/\∀k,d≠.int k) (hi:P.info? e=some i) (D:i.size=sz) (ac:i.bytes=bytes) (ae:i.zero=some zv) (U:zv.cells.size=sz)
 (hx:R T X w x v) (hy:R T X w y u)
 (hs:∀rv w',(Builtin.append_ #[t,t2] ty #[v,u]).run P w=.ok rv w'->s.run P w=.ok (.value rv) w')
 (j:ZE9 h sz bytes x y=some res):∃H w' rv,(s.run P w=.ok (.value rv) w'\/(s.run P w=.ok .skip w'/\rv=undef))/\Step T w H w'/\M H X res.2 w'/\R H X w' res.1 rv:=by
 have ab:T h.length=none:=JR m<|.inl<|by simp
 have J:(Qt h h.length false sz bytes x y).map (λr=>(r.1,ZH h r.2.2))=some res->∃H w' rv,(s.run P w=.ok (.value rv) w'\/(s.run P w=.ok .skip w'/\rv=undef))/\Step T w H w'/\M H X res.2 w'/\R H X w' res.1 rv:=by
  intro j;simp only[ZXt]at j;obtain⟨r,h1,rfl⟩:=j;exact B0 (ty:=ty) m hX (ZXh _) ab ht G hi D ac ae U hx hy hs h1
 unfold ZE9 at j;split at j
 .rename_i b g off f;split at j
  .rename_i a es ys K ak;cases hc:(es.length==g&&a==sz)&&((off+f==g)&&(Qq h sz y&&(ys.all (fits sz)&&(Nat.blt 0 ys.length&&(Nat.blt 0 sz&&(Nat.blt 0 bytes&&Nat.ble ((f+ys.length)*bytes) 140737488355328))))))with
   |false=>rw[hc]at j;cases j
   |true=>
    rw[hc,cond_true]at j;cases j;simp only[ZXf,beq_iff_eq,ZYs]at hc;obtain⟨⟨rfl,rfl⟩,hoff,z2,hfit,hpos,h0,hb0,hbd⟩:=hc;have q:=ZXL hbd;obtain⟨bd,cap2,rfl,al,N⟩:=G6 m hy ak z2;have af:Q2 h (.sl b es.length off f false)=some (es.drop off):=by
     simp only[Q2,K,beq_self_eq_true,cond_true];rw[ZXz<|by simp;omega]
    obtain⟨ad,cap,rfl,Z,ah⟩:=G6 (sz:=a) m hx af<|by simp[Qq,K]
    have l:(es.drop off).length=f:=by simp;omega
    rw[l]at Z hx hs;have aa:ZR P e=some a:=by simp[ZR,hi,D]
    have L:(es++ys).length=es.length+ys.length:=by simp
    have⟨r,C,B,O,q0,hC,hr⟩:=XV m K;have an:=hx;have⟨_,ap,g2,r2,C2,B2,Y,q1,q2,q3⟩:=an;rw[O]at Y;cases Y;have⟨Q,q4,q5,q6,q7⟩:=q3 rfl;have c:b<h.length:=(ZXu.1 K).1;by_cases o:f+ys.length<=cap
    .obtain⟨F,rfl,hv⟩:∃F,r=some F/\Value.slice ad f cap=.slice (some ⟨F,(B+off)*a,none⟩) f Q:=by
      rcases q7 with⟨F,S,hv⟩|⟨q8,p,hv,_⟩
      .exact⟨F,S,hv⟩
      .have:=(V2 hv).2.2;omega
     obtain⟨rfl,_,rfl⟩:=V2 hv;have⟨w',n,E,m1⟩:=ZGz (P:=P) (ty:=ty) (cap2:=cap2) m ht G aa K O hfit hpos hoff q5 o N;have z:(setH h b<|.row a<|es++ys)[b]?=some (.row a<|es++ys):=by rw[Ks h b _<|ZYg c,if_pos rfl]
     have⟨A,m2⟩:=ZGy (off:=off) m1 z (upd_same _ _ _)<|by omega
     have ag:(setH h b<|.row a<|es++ys).length=h.length:=by
      unfold setH;rw[show Nat.blt b h.length=true by simpa using c,cond_true,ZYG]
     have S:setH (setH h b<|.row a<|es++ys) b .gone++[.row a<|(es++ys).drop off]=setH h b .gone++[.row a<|es.drop off++ys]:=by
      rw[(Zzb _ _<|ZYg c).1,ZZA<|by omega]
     rw[S]at m2;refine⟨_,w',_,.inl<|hs _ _ n,E.trans A,m2,⟨_,_,_,rfl⟩,a,(es++ys).length-off,some F,C,B+off,?_,?_,by omega,λ_=>⟨cap,o,by omega,λhh=>by simp at hh,.inl ⟨F,rfl,by rw[ZYb]⟩⟩⟩
     .show upd _ _ _ h.length=_
      rw[ag,upd_same]
     .rw[L];omega
    .have⟨T1,w1,rv,n,E,m1,aj⟩:=CY (P:=P) (s:=s) (ty:=ty) (cap:=cap) (cap2:=cap2) (ad:=ad) (bd:=bd) (es:=es.drop off) (ys:=ys) (aid:=h.length) (fz:=false) (rs:=[]) (res:=(.sl h.length (es.drop off++ys).length 0 (es.drop off++ys).length false,[],some (h.length,.row a<|es.drop off++ys))) m hX (ZXh _) ab h0 ht G hi D ac ae U hb0 ah N (by rw[l];exact q) (by rw[l];omega) (by rw[l];exact hs) rfl
     have W:ZH h (some (h.length,AObj.row a<|es.drop off++ys))=h++[.row a<|es.drop off++ys]:=by
      show setH h h.length _=_
      unfold setH;rw[show Nat.blt h.length h.length=false by rw[ZYH];intro hh;simp at hh,cond_false]
     have V:M T1 X (h++[.row a<|es.drop off++ys]) w1:=by rw[<-W];exact m1
     have z:(h++[AObj.row a<|es.drop off++ys])[b]?=some (.row a es):=by rw[ZYw c];exact K
     have⟨r1,C1,B1,am,_⟩:=XV V z;have⟨A,m2,_⟩:=ZFG V z am;have S:setH (h++[AObj.row a<|es.drop off++ys]) b .gone=setH h b .gone++[.row a<|es.drop off++ys]:=by
      unfold setH;rw[show Nat.blt b (h++[AObj.row a<|es.drop off++ys]).length=true by simp;omega,show Nat.blt b h.length=true by simpa using c,cond_true,cond_true,List.set_append_left _ _ c]
     rw[S]at m2;refine⟨_,w1,rv,n,E.trans A,m2,?_⟩;have e2:f+ys.length=(es.drop off++ys).length:=by rw[ZXy,l]
     rw[e2];exact HR A _ _ aj
  .cases j
 .exact J j
def ZGB(c:Ctx E T X h w)(z:FrR T X w fr a.tmps){o:Oper}{sz bytes:Nat}{s x:Arg}{res:AV×Hp}(n:Gb P o.op (.app false sz bytes s x)=true)(H:ZE9 h sz bytes (ev E fr s) (ev E fr x)=some res):
 ∃u w' rv,((execOp a.eval o).run P w=.ok (.value rv) w'\/((execOp a.eval o).run P w=.ok .skip w'/\rv=undef))/\Step T w u w'/\M u X res.2 w'/\R u X w' res.1 rv:=by
 have⟨C,G,ty,K,F,V⟩:=o;have B:=c.gl;have m:=c.m;have J:=c.hX;cases G<;>try (simp[Gb]at n;done)
 case call cl=>
  have⟨q,args,b⟩:=cl;simp only[Gb]at n;split at n
  .rename_i D Q t O U W;simp only[ZXf,ZXM]at n;obtain⟨⟨⟨⟨g,h2⟩,h3⟩,h4⟩,h5⟩:=n;have f:args = #[D,Q]:=by grind
   have l:b = #[t,O]:=by grind
   subst f l;cases A:isSlice P t with
   |none=>grind
   |some e=>
    rw[A]at g;simp only at g;cases p:P.info? e with
    |none=>grind
    |some i=>
     rw[p]at g;simp only[ZXf,decide_eq_true_eq]at g;have⟨⟨v,y⟩,hz⟩:=g;cases j:i.zero with
     |none=>grind
     |some S=>
      rw[j]at hz;have⟨d,L⟩:=ZYZ.1 h2;have r:∀k,d≠.int k:=by
       rintro k rfl
       grind [MF]
      exact ZGA (ty:=ty) m J (KJ A) ⟨d,L,r⟩ p v y j (of_decide_eq_true hz) (evR B z h4) (evR B z h5) (λrv w' N=>by simp[execOp,resolve,invoke,builtin,N]) H
  grind
end Go.AM
namespace Go.AM
open Go
variable [Dr]
variable {P:Program} {E:Env} {T:Ty} {X:Xt} {w:World} {h:Hp} {fr:Fr} {a:Act}
def Gn(m:M T X h w):T h.length=none:=JR m<|.inl<|by simp
theorem L0{c:Call}{q:AOp}:Gb P (.defer c) q=false:=by cases q<;>rfl
def Bz{k:Nat}{q:AOper}{fr':Fr}{h':Hp}(f:q.op.isCall=false)(b:ZJ fr q.guard=some true)(a:Q5 E (k+1) q fr h=some (fr',h')):
 ∃res,Z8 E fr h h.length q.op=some res/\fr'=ZB fr q.dst res.1/\h'=ZH h res.2.2:=by
 have⟨d,e,g⟩:=q;simp only[Q5,b]at a;cases e<;>first
  |(simp[AOp.isCall]at f;done)
  |(simp only[ZXt,Prod.mk.injEq]at a
    have⟨res,h1,h2,c⟩:=a;exact⟨res,h1,h2.symm,c.symm⟩)
def BA{k:Nat}(ih:AllOk P E k){q:AOper}{fr':Fr}{h':Hp}(C:Q5 E (k+1) q fr h=some (fr',h')){N:Nat}{S:Array Oper}{o:Oper}{G sz:Nat}{ro:Option Nat}{n:Nat}
 (U:X.cr=Chk P) (W:N<=sz) (hc:X6 P N S o q=true) (s:St E T X h w fr G sz a) (next:Act->World->Prop) (Q:Exit->Act->World->Prop)
 (hn:∀A a' w',Step T w A w'->St E A X h' w' fr' G sz a'->next a' w'):
 if Region.wanted o (yielded S a.tmps)=true then o.wpIn (Qa ro) n P a w next Q else(∀f,o.about P w a.eval=some f->(Qa ro).fn f)/\next (a.put o.dst undef) w:=by
 simp only[X6,ZXf]at hc;have⟨⟨hd,hg⟩,j⟩:=hc;have aa:N<=a.tmps.size:=by rw[s.sz];exact W
 cases L:ZJ fr q.guard with
 |none=>simp[Q5,L]at C
 |some b=>
  rw[MM s.f aa hg L];cases b with
  |false=>
   simp only[Q5,L,Option.some.injEq,Prod.mk.injEq]at C;obtain⟨rfl,rfl⟩:=C;rw[if_neg<|by simp]
   exact⟨λ_ _=>VK _ _,hn T _ w (.refl _ _)<|Gi s W hd (.refl _ _) s.c.m ⟨#[],rfl,rfl⟩⟩
  |true=>
   rw[if_pos rfl];refine⟨λ_ _=>VK _ _,?_⟩
   have r:∀{v:AV}{rv:Value}{A:Ty}{w':World}{h2:Hp},fr'=ZB fr q.dst v->h'=h2->Step T w A w'->M A X h2 w'->R A X w' v rv->next (a.put o.dst rv) w':=by
    rintro v rv A w' h2 rfl rfl z m B;exact hn A _ w' z<|Gi s W hd z m B
   cases t:q.op.isCall with
   |false=>
    have j:Gb P o.op q.op=true:=by
     have⟨V,Y,gd⟩:=q;cases Y<;>first|exact j|cases t
    have⟨res,h1,h2,D⟩:=Bz t L C;have H:∀c,o.op≠.defer c:=λc e=>by rw[e,L0]at j;cases j
    rw[Oper.semAt_eq _ _ _ H];have⟨A,w',rv,i,z,F,B⟩:=MZ s.c s.f (ZXh _) (Gn s.c.m) j h1;rcases i with i|⟨i,rfl⟩
    .rw[i];exact r h2 D z F B
    .rw[i];exact r h2 D z F B
   |true=>
    have⟨V,Y,gd⟩:=q;cases Y<;>try (simp[AOp.isCall]at t;done)
    case apa sz1 bytes x1 x2=>
     simp only[Q5,L,ZXt,Prod.mk.injEq]at C;have⟨⟨v,h2⟩,h1,D,h4⟩:=C;have j:Gb P o.op (.app false sz1 bytes x1 x2)=true:=j;have H:∀c,o.op≠.defer c:=λc e=>by rw[e,L0]at j;cases j
     rw[Oper.semAt_eq _ _ _ H];have⟨A,w',rv,i,z,F,B⟩:=ZGB s.c s.f j h1;rcases i with i|⟨i,rfl⟩
     .rw[i];exact r D.symm h4.symm z F B
     .rw[i];exact r D.symm h4.symm z F B
    case call p f args=>
     have j:Wx o.op (.call p f args)=true:=j;simp only[Q5,L,ZXt,Prod.mk.injEq]at C;have⟨⟨v,h2⟩,h1,D,h4⟩:=C;cases O:o.op<;>rw[O]at j<;>try (simp[Wx]at j;done)
     next c=>
     simp only[Wx,ZXf]at j;have⟨l,u⟩:=j;rw[Oper.semAt_eq _ _ _<|λc e=>by rw[O]at e;cases e]
     have K:c.callee=.value (.func f):=by
      split at l
      .next g J=>rw[J];simp at l;rw[l]
      .cases l
     have i:(execOp a.eval o).run P w=(callFunc f<|(#[]++c.args.map a.eval)++#[]).run P w:=by
      simp only[execOp,O,resolve,K,Act.eval,Deferred.ofValue,Sem.run_bind,Sem.run_pure,Result.andThen_ok,invoke]
     rw[i];have Z:=VF (a:=a) s.c.gl s.f u;have:=ih.call p f _ h v h2 h1 T X w ((#[]++c.args.map a.eval)++#[]) U s.c<|by simpa using Z
     refine this.upon ?_;rintro rv w' ⟨A,z,F,B⟩;exact r D.symm h4.symm z F B
    case callv p x args=>
     have j:Wx o.op (.callv p x args)=true:=j;simp only[Q5,L,ZXt,Prod.mk.injEq]at C;have⟨⟨v,h2⟩,h1,D,h4⟩:=C;cases O:o.op<;>rw[O]at j<;>try (simp[Wx]at j;done)
     next c=>
     simp only[Wx,ZXf]at j;have⟨l,u⟩:=j;rw[Oper.semAt_eq _ _ _<|λc e=>by rw[O]at e;cases e]
     split at l
     .next y J=>
      have i:(execOp a.eval o).run P w=(do let d <-Deferred.ofValue (a.eval y) (c.args.map a.eval);invoke d.target d.args:Sem Next).run P w:=by
       simp only[execOp,O,resolve,J]
      rw[i];have Z:=VF (a:=a) s.c.gl s.f u;have:=ih.callv p _ _ h v h2 h1 T X w (a.eval y) (c.args.map a.eval) U s.c (evR s.c.gl s.f l)<|by simpa using Z
      refine this.upon ?_;rintro rv w' ⟨A,z,F,B⟩;exact r D.symm h4.symm z F B
     .cases l
def St.withFr{fr2:Fr}{b sz:Nat}(s:St E T X h w fr b sz a)(d:FrR T X w fr2 a.tmps):St E T X h w fr2 b sz a:=⟨s.c,d,s.sz,s.marks,s.base⟩
def BB{k:Nat}(p:AllOk P E k){e:List AOper}{fr':Fr}{h':Hp}(d:ZS E (k+1) e fr h=some (fr',h')){N:Nat}{c:Array Oper}{os:List Oper}{b sz:Nat}{ro:Option Nat}{n:Nat}
 (g:X.cr=Chk P) (r:N<=sz) (i:X7 P N c os e=true) (s:St E T X h w fr b sz a) (Q:Exit->Act->World->Prop)
 (u:∀t v w',Step T w t w'->St E t X h' w' fr' b sz v->Q .normal v w'):wpListIn (Qa ro) n P c Q os a w:=by
 cases e with
 |nil=>
  cases os with
  |cons _ _=>simp[X7]at i
  |nil=>
   simp only[ZS,Option.some.injEq,Prod.mk.injEq]at d;obtain⟨rfl,rfl⟩:=d;exact u T a w (.refl _ _) s
 |cons q e=>
  cases os with
  |nil=>simp[X7]at i
  |cons o os=>
   simp only[X7,ZXf]at i;simp only[ZS]at d;split at d
   .next f h1 l=>
    refine wpListIn_step λK B=>?_
    refine p.op q fr h f h1 l T X w a N c o b sz ro n g r i.1 s K Q ?_;intro G D A j x;refine B _ _<|p.ops e f h1 fr' h' d G X A D N c os b sz ro n g r i.2 x Q ?_;intro z y F m C;exact u z y F (j.trans m) C
   .cases d
end Go.AM
namespace Go.AM
open Go
variable [Dr]
variable {P:Program} {E:Env} {T:Ty} {X:Xt} {w:World} {h:Hp} {fr:Fr} {a:Act}
def L3(live:List Nat)(fr:Fr)(t:Nat):get (Z2 live fr) t=if t∈live then get fr t else .bot:=by
 unfold Z2;induction live with
 |nil=>rfl
 |cons d r a=>
  simp[get]
  grind
def L4{live:List Nat}{a:Array Value}(b:FrR T X w fr a):FrR T X w (Z2 live fr) a:=by
 intro t;rw[L3];split
 .exact b t
 .trivial
def L5{k:Nat}(y:AllOk P E k){live:List Nat}{q:ACode}{e:AExit}{fr':Fr}{h':Hp}(j:Ze E (k+1) (.loop live q) fr h=some (e,fr',h')){N:Nat}{c:Code}{b sz:Nat}{m:Bool}{ro:Option Nat}{n:Nat}
 (l:X.cr=Chk P) (A:N<=sz) (F:QZ P N m c q=true) (g:m=false->ro=none) (s:St E T X h w fr b sz a) (Q:Exit->Act->World->Prop)
 (p:∀B C w',Step T w B w'->St E B X h' w' fr' b sz C->Q (exR e) C w'):Code.roundsIn (Qa ro) n P c Q (k+1) a w:=by
 simp[Ze]at j;cases D:Ze E k q (Z2 live fr) h with
 |none=>grind
 |some r=>
  have⟨z,i,h1⟩:=r;rw[D]at j;refine y.code q (Z2 live fr) h z i h1 D T X w a N c b sz m ro n l A F g (s.withFr<|L4 s.f) _ ?_;intro x u t d o;cases z with
  |normal=>exact y.rounds live q i h1 e fr' h' j x X t u N c b sz m ro n l A F g o Q<|λH G K v J=>p H G K (d.trans v) J
  |exit L=>cases j;exact p x u t d o
  |ret=>cases j;exact p x u t d o
theorem Ro{T:Ty}{b:Nat}{c:TC}(a:T b=some c):upd T b c=T:=by
 grind [upd_same,upd_ne]
def KQ(m:M T X h w){b l:Nat}{n lst':LoopState}{a pend':AExit}{ps:List Nat}{as bd:ACode}(y:h[b]?=some (.loop n a fr ps as bd))(s:T b=some (.loop l)):
 ∃L:Loop,w.heap[l]?=some (.loop L)/\L.state=n/\L.pending=XU a/\L.params.toList=ps/\FrR T X w fr L.tmps/\X.cr L.tmps.size L.assign as/\X.cr L.tmps.size L.body bd/\(∀p∈ps,p<L.tmps.size)/\
  Step T w T (w.putObj l<|.loop {L with state:=lst',pending:=XU pend'})/\M T X (setH h b<|.loop lst' pend' fr ps as bd) (w.putObj l<|.loop {L with state:=lst',pending:=XU pend'}):=by
 have⟨D,k,L,E,H,J,B,G,z,A,C⟩:=Cf m y;rw[s]at k;cases k;have f:∀x o,x≠l->(w.putObj l o).heap[x]?=w.heap[x]?:=λx o q=>World.putObj_heap_other q
 have g:∀o,(w.putObj l o).heap[l]?=some o:=λo=>by grind [World.putObj]
 have d:T.rng l:=⟨b,_,s,rfl⟩;have F:∀o,Step T w T (w.putObj l o):=λo=>
  ⟨rfl,rfl,rfl,by simp_all,λx c q=>⟨c,q,.refl c⟩,λx _ t=>f x o<|λe=>t<|e▸d,λx q=>.inl q,λ_=>ZXh _⟩
 have j:b<h.length:=(ZXu.1 y).1;have:=WZ m b (.loop lst' pend' fr ps as bd) (.loop l) (ZYg j) (w':=w.putObj l<|.loop {L with state:=lst',pending:=XU pend'}) (by grind [Ro])
  (λu c' v i h1 h2=>f v _<|λe=>i<|m.inj u c' b _ v h1 s h2<|by rw[e];rfl)
  (λr t=>by
   cases t;exact⟨by grind,m.notX _ d,λu c' i h1 h2=>i<|m.inj u c' b _ _ h1 s h2 rfl⟩)
  ⟨_,g _,rfl,rfl,B,by grind [Ro,Kr],z,A,C⟩
 grind [Ro]
def BC:∀{ps:List Nat}{args:List AV}{fr fr0:Fr}{b:Array Value}{a:List Value},WY ps args fr=some fr0->FrR T X w fr b->Rs T X w args a->(∀p∈ps,p<b.size)->
 FrR T X w fr0 ((ps.zip a).foldl (λt x=>t.setIfInBounds x.1 x.2) b)/\((ps.zip a).foldl (λt x=>t.setIfInBounds x.1 x.2) b).size=b.size/\ps.length=args.length:=by
 intro ps;induction ps with
 |nil=>
  intro args fr fr0 b a c e f d;cases args with
  |cons _ _=>grind [WY]
  |nil=>
   simp_all[WY]
 |cons p ps g=>
  intro args fr fr0 b a c e f d;cases args with
  |nil=>grind [WY]
  |cons v vs=>
   obtain⟨u,j,rfl,h1,h2⟩:=f;have⟨h,i,l⟩:=g c (ML e h1<|d p<|by simp) h2<|λx k=>by grind
   refine⟨h,?_,by grind⟩
   rw[List.zip_cons_cons,ZY5,i,Array.size_setIfInBounds]
def Rp{a:Ty}{w':World}(c:Step T w a w'){b l:Nat}(d:T b=some (.loop l)):a b=some (.loop l):=by
 have⟨c',h1,h2⟩:=c.le b _ d;cases c' with
 |loop r=>rw[h1];cases h2;rfl
 |_=>exact h2.elim
def BD{k:Nat}(ih:AllOk P E k){b:Nat}{args:List AV}{v:AV}{h':Hp}(r:YG E (k+1) b args h=some (v,h'))(d:Array Value)(l:Nat)(Q:X.cr=Chk P)(c:Ctx E T X h w)(hr:Rs T X w args d.toList)(V:T b=some (.loop l)):
 YI P ((Instr.yield l d).run P w) w (Yq T X w h' v):=by
 simp[YG]at r;split at r
 .next fr ps assign body hb=>
  split at r
  .next fr0 ak=>
   split at r
   .next C h1 F=>
    split at r
    .next fr' Z q z ac=>
     split at r
     .next e fr2 h2 G=>
      split at r
      .next av W ar al aq ap D=>
       have⟨L,hL,au,U,af,ae,am,an,aj,_,_⟩:=KQ (lst':=.ready) (pend':=.normal) c.m hb V;have⟨q1,q2,q3⟩:=BC ak ae hr aj;have ah:d.size=L.params.size:=by
        have e1:=Qr hr
        grind
       refine .inr<|.inr ⟨l,_,_,_,_,run_yield hL ah,λn ro=>?_⟩
       have ag:(L.params.zip d).foldl (λu x=>match x with|(t,a)=>u.setIfInBounds t a) L.tmps=(ps.zip d.toList).foldl (λt x=>t.setIfInBounds x.1 x.2) L.tmps:=by
        rw[<-Array.foldl_toList,Array.toList_zip,af]
       rw[ag];have R:Chk P L.tmps.size L.assign assign:=by simp_all
       have J:Chk P L.tmps.size L.body body:=by simp_all
       have⟨N,hN,K⟩:=R;have⟨N2,aa,y⟩:=J;refine roundIn_of_wpIn (VK _ _) ?_;have s0:St E T X h w fr0 w.heap.size L.tmps.size {tmps:=(ps.zip d.toList).foldl (λt x=>t.setIfInBounds x.1 x.2) L.tmps,defers:=[]}:=
        ⟨c,q1,q2,⟨[],rfl,ZZb,by simp⟩,ZXh _⟩
       refine ih.code assign fr0 h .normal C h1 F T X w _ N L.assign w.heap.size L.tmps.size true (some l) n Q hN K (λhh=>by grind) s0 _ ?_
       intro T1 a1 w1 p H;have⟨Y,ad,M,s,_,_,_,_,_,g,mb⟩:=KQ (lst':=.busy) (pend':=.normal) H.c.m ac<|Rp p V;refine⟨_,run_beginRound ad M,?_⟩;have ab:({Y with state:=.busy}:Loop)={Y with state:=.busy,pending:=XU .normal}:=by rw[<-s]
       rw[ab];have s2:St E T1 X (setH h1 b<|.loop .busy .normal fr' Z q z) (w1.putObj l<|.loop {Y with state:=.busy,pending:=XU .normal}) C w.heap.size L.tmps.size a1:=
        ⟨H.c.step g mb,Kr g H.f,H.sz,H.marks.step g,ZXW H.base g.size⟩
       refine ih.code body C _ e fr2 h2 G T1 X _ a1 N2 L.body w.heap.size L.tmps.size true (some l) n Q aa y (λhh=>by grind) s2 _ ?_
       intro S a2 w2 i A;have B:S b=some (.loop l):=Rp (p.trans<|g.trans i) V;cases e with
       |normal=>
        cases r;have⟨L2,o,_,_,_,_,_,_,_,j,O⟩:=KQ (lst':=.ready) (pend':=.normal) A.c.m D B;exact⟨_,_,run_endRound none o,_,rfl,S,p.trans<|g.trans<|i.trans j,O,rfl⟩
       |exit id=>
        cases r;have⟨L2,o,_,_,_,_,_,_,_,j,O⟩:=KQ (lst':=.done) (pend':=.exit id) A.c.m D B;exact⟨_,_,run_endRound (some<|.exit id) o,_,rfl,S,p.trans<|g.trans<|i.trans j,O,rfl⟩
       |ret=>
        cases r;have⟨L2,o,_,_,_,_,_,_,_,j,O⟩:=KQ (lst':=.done) (pend':=.ret) A.c.m D B;exact⟨_,_,run_endRound (some .ret) o,_,rfl,S,p.trans<|g.trans<|i.trans j,O,rfl⟩
      grind
     grind
    grind
   grind
  grind
 grind
end Go.AM
namespace Go.AM
open Go
variable [Dr]
variable {P:Program} {E:Env} {T:Ty} {X:Xt} {w:World} {h:Hp} {fr:Fr} {a:Act}
mutual
def Rq(n:Nat):(v:AV)->Zy v=true->bel n v=true
 | .bot,_=>rfl
 | .bool _,_=>rfl
 | .int _ _,_=>rfl
 | .str _,_=>rfl
 | .nilp,_=>rfl
 | .nilsl,_=>rfl
 | .nilmap,_=>rfl
 | .nilfn,_=>rfl
 | .nilif,_=>rfl
 | .agg cs,h=>by simp only[bel];exact Wz n cs h
 | .tup cs,h=>by simp only[bel];exact Wz n cs h
 | .iptr _ _,_=>rfl
 | .isl _ _ _ _,_=>rfl
 | .imap _ _ _,_=>rfl
 | .ifc _ v,h=>by simp only[bel];exact Rq n v h
 | .clo _ f c,h=>by
  simp only[Zy,ZXf]at h;simp only[bel,Wz n f h.1,Wz n c h.2,ZY3]
 | .ptr _ _ _ _,h=>by simp[Zy]at h
 | .sl _ _ _ _ _,h=>by simp[Zy]at h
 | .mp _,h=>by simp[Zy]at h
 | .it _,h=>by simp[Zy]at h
 | .yld _,h=>by simp[Zy]at h
def Wz(n:Nat):(vs:List AV)->Zi vs=true->Zd n vs=true
 |[],_=>rfl
 |v::r,h=>by
  simp only[Zi,ZXf]at h;simp only[Zd,Rq n v h.1,Wz n r h.2,ZY3]
end
structure Cut(n:Nat)(T T2:Ty):Prop where
 lo:∀b,b<n->T2 b=T b
 hi:∀b,n<=b->T2 b=none
def Cut.rng{n:Nat}{T a:Ty}(k:Cut n T a){r:Nat}(d:a.rng r):T.rng r:=by
 have⟨b,c,h1,h2⟩:=d;rcases ZYj b n with hb|hb
 .exact⟨b,c,by rw[<-k.lo b hb];grind,h2⟩
 .rw[k.hi b hb]at h1;grind
mutual
theorem KR{n:Nat}{T z:Ty}(k:Cut n T z):(v:AV)->(rv:Value)->bel n v=true->R T X w v rv->R z X w v rv
 | .bot,_,_,_=>trivial
 | .bool _,_,_,h=>h
 | .int _ _,_,_,h=>h
 | .str _,_,_,h=>h
 | .nilp,_,_,h=>h
 | .nilsl,_,_,h=>h
 | .nilmap,_,_,h=>h
 | .nilfn,_,_,h=>h
 | .nilif,_,_,h=>h
 | .agg cs,v,hn,h=>by
  obtain⟨vs,rfl,h⟩:=h;exact⟨vs,rfl,WA k cs _ (by simpa only[bel]using hn) h⟩
 | .tup cs,v,hn,h=>by
  obtain⟨vs,rfl,h⟩:=h;exact⟨vs,rfl,WA k cs _ (by simpa only[bel]using hn) h⟩
 | .iptr bw cs,v,hn,h=>by
  obtain⟨r,o,rfl,g,i,a,j,e⟩:=h;exact⟨r,o,rfl,λm=>g<|k.rng m,i,a,j,Rr k r cs o (Wz n cs<|V6 a) e⟩
 | .isl bw ex sz es,v,hn,h=>by
  obtain⟨ad,y,cap,rfl,g,i,a,j,e⟩:=h;refine⟨ad,y,cap,rfl,g,i,a,j,?_⟩;rcases e with e|⟨r,o,q,p,s,q9,q10⟩
  .exact .inl e
  .exact .inr ⟨r,o,q,λm=>p<|k.rng m,s,q9,Gp k sz r es o (Wz n es<|V6 j) q10⟩
 | .imap bw ks vs,v,hn,h=>by
  obtain⟨r,es,d,l,rfl,g,i,a,j,e,q,p,s⟩:=h;exact⟨r,es,d,l,rfl,λm=>g<|k.rng m,i,a,j,e,q,WA k ks _ (Wz n ks<|V6 a.1) p,WA k vs _ (Wz n vs<|V6 a.2) s⟩
 | .ifc t x,v,hn,h=>by
  obtain⟨u,rfl,h⟩:=h;exact⟨u,rfl,KR k x u (by simpa only[bel]using hn) h⟩
 | .clo fn first cap,v,hn,h=>by
  obtain⟨f,c,rfl,g,i⟩:=h;simp only[bel,ZXf]at hn;exact⟨f,c,rfl,WA k first _ hn.1 g,WA k cap _ hn.2 i⟩
 | .ptr b _ _ _,_,hn,h=>by
  simp only[bel,ZYs]at hn;simp only[R,k.lo b hn];exact h
 | .sl b _ _ _ _,_,hn,h=>by
  simp only[bel,ZYs]at hn;simp only[R,k.lo b hn];exact h
 | .mp b,_,hn,h=>by
  simp only[bel,ZYs]at hn;simp only[R,k.lo b hn];exact h
 | .it b,_,hn,h=>by
  simp only[bel,ZYs]at hn;simp only[R,k.lo b hn];exact h
 | .yld b,_,hn,h=>by
  simp only[bel,ZYs]at hn;simp only[R,k.lo b hn];exact h
theorem WA{n:Nat}{T b:Ty}(k:Cut n T b):(vs:List AV)->(rs:List Value)->Zd n vs=true->Rs T X w vs rs->Rs b X w vs rs
 |[],_,_,h=>h
 |a::as,vs,hn,h=>by
  obtain⟨v,c,rfl,e,d⟩:=h;simp only[Zd,ZXf]at hn;exact⟨v,c,rfl,KR k a v hn.1 e,WA k as c hn.2 d⟩
theorem Rr{n:Nat}{T b:Ty}(k:Cut n T b)(r:Nat):(cs:List AV)->(o:Nat)->Zd n cs=true->ZV T X w r cs o->ZV b X w r cs o
 |[],_,_,_=>trivial
 |a::as,o,hn,h=>by
  have⟨⟨v,d,c⟩,q3⟩:=h;simp only[Zd,ZXf]at hn;exact⟨⟨v,d,KR k a v hn.1 c⟩,Rr k r as (o+1) hn.2 q3⟩
theorem Gp{n:Nat}{T e:Ty}(k:Cut n T e)(sz r:Nat):(cs:List AV)->(o:Nat)->Zd n cs=true->ZA T X w sz r cs o->ZA e X w sz r cs o
 |[],_,_,_=>trivial
 |a::as,o,hn,h=>by
  simp only[Zd,ZXf]at hn;cases a with
  |agg cs=>
   have⟨d,c,b⟩:=h;exact⟨d,Rr k r cs o (by simpa only[bel]using hn.1) c,Gp k sz r as (o+sz) hn.2 b⟩
  |_=>
   have⟨d,⟨v,c,b⟩,q4⟩:=h;exact⟨d,⟨v,c,KR k _ v hn.1 b⟩,Gp k sz r as (o+sz) hn.2 q4⟩
end
theorem BE{n:Nat}:∀{vs:List AV},Zd n vs=true->∀v∈vs,bel n v=true:=by
 intro vs;induction vs with
 |nil=>grind
 |cons a r b=>
  simp_all[Zd]
def get_mem:∀{fr:Fr}{t:Nat},get fr t=.bot\/get fr t∈fr.map (·.2):=by
 intro fr;induction fr with
 |nil=>exact .inl rfl
 |cons p r a=>
  simp[get]
  grind
def L6{n:Nat}{b:Ty}(k:Cut n T b){a:Array Value}(d:Zd n (fr.map (·.2))=true)(c:FrR T X w fr a):FrR b X w fr a:=by
 intro t;refine KR k _ _ ?_<|c t;rcases get_mem (fr:=fr) (t:=t)with h1|h1
 .rw[h1];rfl
 grind [BE]
def BF{n:Nat}:∀{os:List AObj},X4 n os=true->∀(b:Nat)(o:AObj),os[b]?=some o->Zj n o=true:=by
 intro os;induction os with
 |nil=>grind
 |cons e r c=>
  intro a b o d;simp[X4]at a
  grind
def BG{n:Nat}{q:Ty}(k:Cut n T q){o:Option AObj}{c:Option TC}(d:∀x,o=some x->Zj n x=true)(a:YR T X w o c):YR q X w o c:=by
 cases o with
 |none=>cases c<;>exact a
 |some o=>
  have d:=d o rfl;cases o with
  |dead=>cases c<;>exact a
  |gone=>
   cases c with
   |none=>exact a
   |some c=>
    cases c with
    |row _ _ r _ _=>cases r<;>exact a
    |map _=>exact a
    |iter _=>exact a
    |loop _=>exact a
  |iter s p=>cases c with
   |none=>exact a
   |some c=>cases c<;>exact a
  |row sz es=>
   cases c with
   |none=>exact a
   |some c=>
    cases c with
    |row v g r C B=>
     obtain⟨rfl,h1,h2,t,z⟩:=a;refine⟨rfl,h1,h2,t,?_⟩
     grind [Gp,Zj]
    |map _=>exact a
    |iter _=>exact a
    |loop _=>exact a
  |map A vs=>
   cases c with
   |none=>exact a
   |some c=>
    cases c with
    |map r=>
     have⟨es,b,l,e,i,j,h,f⟩:=a;simp[Zj]at d;exact⟨es,b,l,e,i,j,WA k _ _ d.1 h,WA k _ _ d.2 f⟩
    |row _ _ _ _ _=>exact a
    |iter _=>exact a
    |loop _=>exact a
  |loop y m fr ps as bd=>
   cases c with
   |none=>exact a
   |some c=>
    cases c with
    |loop r=>
     have⟨L,e,i,j,h,f,u⟩:=a;exact⟨L,e,i,j,h,L6 k (by grind [Zj]) f,u⟩
    |row _ _ _ _ _=>exact a
    |iter _=>exact a
    |map _=>exact a
def BH{n:Nat}{d:Ty}(k:Cut n T d)(m:M T X h w)(a:X4 n (h.take n)=true):M d X (h.take n) w where
 inj b c b' c' r h1 h2 h3 h4:=by
  rcases ZYj b n with a|a
  .rcases ZYj b' n with hb'|hb'
   .exact m.inj b c b' c' r (by rw[<-k.lo b a];grind) (by rw[<-k.lo b' hb'];grind) h3 h4
   .rw[k.hi b' hb']at h2;grind
  .rw[k.hi b a]at h1;grind
 lt r hr:=m.lt r<|k.rng hr
 notX r hr:=m.notX r<|k.rng hr
 obj b:=by
  rcases ZYj b n with hlt|hge
  .rw[ZYK hlt,k.lo b hlt];refine BG k ?_<|m.obj b;intro x e;exact BF a b x<|by grind
  .rw[k.hi b hge,ZYP<|by grind]
   trivial
def Gq(n:Nat)(T:Ty):Ty:=λb=>if b<n then T b else none
def BI(n:Nat)(T:Ty):Cut n T (Gq n T):=⟨λb a=>by grind [Gq],λb a=>by grind [Gq]⟩
def Step.cut{n:Nat}{e f:Ty}{w':World}(a:Step T w e w')(k:Cut n e f)(g:∀b c,T b=some c->b<n):Step T w f w':=
 ⟨a.os,a.tape,a.output,a.size,λb c d=>by
  have⟨c',h1,h2⟩:=a.le b c d;exact⟨c',by rw[k.lo b<|g b c d];grind,h2⟩,a.keep,λb d=>a.rng b<|k.rng d,a.drawn⟩
def BJ{n:Nat}{b:Ty}(k:Cut n T b){D:Nat}(a:Wn T w D):Wn b w D:=⟨a.1,λc=>a.2.1<|k.rng c,a.2.2⟩
def BK{e:Ty}{i:World}{h1:Hp}{a:Fr}{n:Act}{d sz:Nat}(m:M T X h w)(t:∀g,clean (E.gl g)=true)(v:Step T w e i)(s:St E e X h1 i a d sz n):
 ∃p,Step T w p i/\St E p X (Xq h.length a h1) i a d sz n:=by
 unfold Xq;cases l:(Zd h.length (a.map (·.2))&&X4 h.length (h1.take h.length))with
 |false=>grind
 |true=>
  simp[ZXf]at l;have k:=BI h.length e;refine⟨Gq h.length e,v.cut k ?_,⟨BH k s.c.m l.2,λg=>⟨KR k _ _ (Rq _ _<|KK _<|t g) (s.c.gl g).1,(s.c.gl g).2⟩,s.c.hX⟩,L6 k l.1 s.f,s.sz,?_,s.base⟩
  .intro b c j;rcases ZYj b h.length with hx|hx
   .grind
   .rw[JR m<|.inl<|ZYP hx]at j;grind
  .have⟨rs,u,x,q⟩:=s.marks;exact⟨rs,u,x,λr o=>⟨(q r o).1,BJ k (q r o).2⟩⟩
end Go.AM
namespace Go.AM
open Go
variable [Dr]
variable {P:Program} {E:Env} {T:Ty} {X:Xt} {w:World} {h:Hp} {fr:Fr} {a:Act}
def BL(c:Ctx E T X h w)(x:FrR T X w fr a.tmps)(fn:FuncId){params:Array Tmp}{assign body:Code}{ps:List Nat}{as bd:ACode}(j:params.toList=ps)(o:∀p∈ps,p<a.tmps.size)
 (q:X.cr a.tmps.size assign as) (l:X.cr a.tmps.size body bd):
 let i:=(w.alloc<|.deferred<|some []).alloc (.loop {state:=.ready,pending:=none,fn,tmps:=a.tmps,params,assign,body,defers:=w.heap.size})
 Step T w (upd T h.length<|.loop<|w.heap.size+1) i/\M (upd T h.length<|.loop<|w.heap.size+1) X (h++[.loop .ready .normal fr ps as bd]) i/\Wn (upd T h.length<|.loop<|w.heap.size+1) i w.heap.size:=by
 intro i;have t:T h.length=none:=Gn c.m;have b:=UT T w<|.deferred<|some [];have v:M T X h (w.alloc<|.deferred<|some []):=Xr c.m b<|λr d=>alloc_old w _<|c.m.lt r d
 have u:(w.alloc<|.deferred<|some []).heap.size=w.heap.size+1:=World.size_alloc _ _;have n:∀r,X r->r<(w.alloc<|.deferred<|some []).heap.size:=λr d=>by have:=c.hX r d;omega
 have g:=VD T (w.alloc<|.deferred<|some []) (.loop {state:=.ready,pending:=none,fn,tmps:=a.tmps,params,assign,body,defers:=w.heap.size}) h.length (.loop<|w.heap.size+1) t
  (λr d=>by cases d;grind)
 have f:i.heap[w.heap.size+1]?=some (.loop {state:=.ready,pending:=none,fn,tmps:=a.tmps,params,assign,body,defers:=w.heap.size}):=by
  grind [Wo]
 refine⟨b.trans g,?_,?_⟩
 .have:=JQ v n h.length (.loop .ready .normal fr ps as bd) (.loop<|w.heap.size+1) (.loop {state:=.ready,pending:=none,fn,tmps:=a.tmps,params,assign,body,defers:=w.heap.size}) (ZXh _) t
   (λr d=>by cases d;grind) ⟨_,f,rfl,rfl,j,Kr (b.trans g) x,q,l,o⟩
  have e:setH h h.length (.loop .ready .normal fr ps as bd)=h++[.loop .ready .normal fr ps as bd]:=by
   unfold setH;have:Nat.blt h.length h.length=false:=by simp_all[ZYH]
   rw[this,cond_false]
  grind
 .refine⟨?_,?_,?_⟩
  .grind
  .rintro⟨s,c',h1,h2⟩;by_cases e:s=h.length
   .grind [upd_same,TC.real]
   .rw[upd_ne _ _ e]at h1;have:=c.m.lt _ ⟨s,c',h1,h2⟩;omega
  .have:=alloc_old (w.alloc<|.deferred<|some []) (.loop {state:=.ready,pending:=none,fn,tmps:=a.tmps,params,assign,body,defers:=w.heap.size}) (k:=w.heap.size) (by omega)
   grind [Wo]
def Marks.add{a D:Nat}{f:List Deferred}(g:Marks T w a f)(n:a<=D)(o:Wn T w D)(d:∀r,(∃t:Ty,∃w0:World,w0.heap.size<=D/\Wn t w0 r)->r<D)(b:∃t:Ty,∃w0:World,w0.heap.size<=D/\Marks t w0 a f):
 Marks T w a ([{target:=.collected D,args:=#[]}]++f):=by
 have⟨rs,h1,h2,l⟩:=g;have⟨t,w0,h,c,m,k,j⟩:=b;refine⟨D::rs,by grind,ZYo.2 ⟨?_,h2⟩,?_⟩
 .intro i;have e:rs=c:=by
   grind [List.map_inj_right]
  subst e;have:=d D ⟨t,w0,h,(j D i).2⟩;omega
 grind
theorem BM{k:Nat}(ih:AllOk P E k){f:Arg}{O:List Nat}{x y:ACode}{e:AExit}{fr':Fr}{h':Hp}(Z:Ze E (k+1) (.rangeFunc f O x y) fr h=some (e,fr',h')){N:Nat}
 {g:Operand} {ps:Array Tmp} {as bd:Code} {i sz:Nat} {n:Nat}
 (H:X.cr=Chk P) (hN:N<=sz) (hg:Zr g f=true) (ab:ps.toList=O) (ac:∀p∈O,p<N) (S:QZ P N true as x=true) (W:QZ P N true bd y=true) (s:St E T X h w fr i sz a) (Q:Exit->Act->World->Prop)
 (hq:∀T' a' w',Step T w T' w'->St E T' X h' w' fr' i sz a'->Q (exR e) a' w'):(Code.rangeFunc g ps as bd).wpIn (Qa none) n P Q a w:=by
 simp only[Ze]at Z;split at Z
 .next U first cap V=>
  split at Z
  .next v h2 F=>
   have G:N<=a.tmps.size:=by rw[s.sz];grind
   refine wpIn_rangeFunc λfn ah=>?_
   have M:=evR s.c.gl s.f hg;rw[V]at M;have⟨f1,c1,ag,aj,ae⟩:=M;have⟨K,m1,hD⟩:=BL (fr:=fr) (ps:=O) (as:=x) (bd:=y) s.c s.f fn (params:=ps) (assign:=as) (body:=bd) ab (λp hp=>ZYh (ac p hp) G)
    (by rw[H];exact⟨N,G,S⟩) (by rw[H];exact⟨N,G,W⟩)
   let l:=w.heap.size+1
   let D:=(w.alloc<|.deferred<|some []).alloc (.loop {state:=.ready,pending:=none,fn,tmps:=a.tmps,params:=ps,assign:=as,body:=bd,defers:=w.heap.size})
   have R:Ctx E _ X _ D:=s.c.step K m1;have C:Rs (upd T h.length<|.loop l) X D (first++[.yld h.length]++cap) ((f1++#[Value.func (.yield l) #[] #[]])++c1).toList:=by
    have q1:Rs (upd T h.length<|.loop l) X D [AV.yld h.length] [Value.func (.yield l) #[] #[]]:=⟨_,[],rfl,⟨l,upd_same _ _ _,rfl⟩,rfl⟩
    grind [QR,Yb]
   have⟨ad,o⟩:=ih.body U _ _ v h2 F _ X D _ H R C;refine⟨l,_,D,{target:=.fn (.func U) c1,args:=f1++#[Value.func (.yield l) #[] #[]]},D,U,_,D,run_enterLoop_outer _ _ _ _ _,?_,λ_ _=>VK _ _,?_,Rl _ _,Rm.2<|o.mono ?_⟩
   .simp_all[resolve,Deferred.ofValue,Act.eval]
   .grind [invoke]
   .rintro e' w2 ⟨rv,rfl,T2,st2,m2,hv⟩;have af:∀J b z m u q,h2[h.length]?=some (.loop J b z m u q)->J≠.busy->e=b->fr'=fr->h'=setH h2 h.length (.loop .exhausted b z m u q)->
     rangePost (Qa none) n P l Q {a with defers:=[{target:=.collected w.heap.size,args:=#[]}]++a.defers} (.returned rv) w2:=by
     rintro J b z m u q hb2 hnb rfl rfl rfl;have⟨L,hL,ak,A,_,_,_,_,_,B,me⟩:=KQ (lst':=.exhausted) (pend':=e) m2 hb2<|Rp st2<|upd_same T h.length<|.loop l;have Y:({L with state:=.exhausted,pending:=XU e}:Loop)={L with state:=.exhausted}:=by rw[<-A]
     rw[Y]at B me;refine⟨L.pending,_,run_endLoop hL (by grind),?_⟩
     have d:=K.trans<|st2.trans B;have s':St E T2 X (setH h2 h.length<|.loop .exhausted e z m u q) (w2.putObj l<|.loop {L with state:=.exhausted}) fr' i sz {a with defers:=[{target:=.collected w.heap.size,args:=#[]}]++a.defers}:=by
      refine⟨s.c.step d me,Kr d s.f,s.sz,?_,ZXW s.base d.size⟩;refine Marks.add (s.marks.step d) s.base (Md (st2.trans B) hD) (λr⟨t,w0,hs,hd⟩=>by have:=hd.1;omega) ⟨T,w,ZXh _,s.marks⟩
     have hQ:=hq T2 _ _ d s';have aa:∀(j:Option Code),j=XU e->(match j with
      |none=>Q .normal {a with defers:=[{target:=.collected w.heap.size,args:=#[]}]++a.defers}<|w2.putObj l<|.loop {L with state:=.exhausted}
      |some c=>c.wpIn (Qa none) n P Q {a with defers:=[{target:=.collected w.heap.size,args:=#[]}]++a.defers}<|w2.putObj l<|.loop {L with state:=.exhausted}):=by
      rintro j rfl;cases e with
      |normal=>exact hQ
      |exit id=>exact wpIn_exit hQ
      |ret=>exact wpIn_ret hQ
     grind
    grind
  grind
 grind
theorem ZwB{v:Value}{bw ex:Bool}{z:Nat}(h:Q3 v (.isl bw ex z [])=true):v=.slice none 0 0:=by
 unfold Q3 at h;split at h<;>first|rfl|grind|(done)
theorem ZxR:∀{vs:List Value}{cs:List AV}{o:Nat}{bw ex:Bool}{z:Nat},Wr vs cs=true->cs[o]?=some (.isl bw ex z [])->vs[o]?=some (.slice none 0 0)
 |[],[],o,_,_,_,_,h=>by grind
 |[],_::_,_,_,_,_,hc,_=>by grind [Wr]
 |_::_,[],_,_,_,_,hc,_=>by grind
 |v::vs,c::cs,0,bw,ex,z,hc,h=>by
  simp[Option.some.injEq]at h;simp[Wr]at hc
  grind [ZwB]
 |v::vs,c::cs,o+1,_,_,_,hc,h=>by
  simp[Wr]at hc;simp[ZYn]at h⊢;exact ZxR hc.2 h
def ZxS:∀{cs:List AV}{vs:List Value}{o:Nat}{x:AV}{v:Value},Rs T X w cs vs->vs[o]?=some v->R T X w x v->Rs T X w (cs.set o x) vs
 |[],vs,o,x,v,h,_,_=>h
 |c::cs,vs,0,x,v,h,hv,hx=>by
  obtain⟨u,us,rfl,h1,h2⟩:=h;simp[Option.some.injEq]at hv;subst hv;exact⟨_,_,rfl,hx,h2⟩
 |c::cs,vs,o+1,x,v,h,hv,hx=>by
  obtain⟨u,us,rfl,h1,h2⟩:=h;exact⟨_,_,rfl,h1,ZxS h2 (by grind) hx⟩
def ZwC{b s:Nat}(a:T b=some (.row s 0 none 0 0)):R T X w (.sl b 0 0 0 false) (.slice none 0 0):=
 ⟨⟨_,_,_,rfl⟩,s,0,none,0,0,a,ZXh _,ZXh _,λ_=>⟨0,ZXh _,ZXh _,(λc=>by grind),.inr ⟨rfl,none,rfl,λ_=>rfl⟩⟩⟩
def ZxT:∀{ps:List (Nat×Nat)}{b:Nat}{cs:List AV}{vs:List Value},Rs T X w cs vs->(∀p∈ps,vs[p.1]?=some (.slice none 0 0))->(∀i p,ps[i]?=some p->T (b+i)=some (.row p.2 0 none 0 0))->Rs T X w (Zw7 b cs ps) vs
 |[],_,_,_,h,_,_=>h
 |p::r,b,cs,vs,h,hn,hT=>by
  have c:T b=some (.row p.2 0 none 0 0):=hT 0 p rfl;refine ZxT (ps:=r) (ZxS h (hn p<|ZXV ..)<|ZwC c) (λq a=>hn q<|ZY2 _ a)<|λi q a=>?_
  have:=hT (i+1) q<|by grind
  grind
def Zzg{z:AV}{v:Value}{ps:List (Nat×Nat)}{b:Nat}(e:Q3 v z=true)(a:ZvV z ps=true)(d:∀i p,ps[i]?=some p->T (b+i)=some (.row p.2 0 none 0 0)):R T X w (Zvr b ps z) v:=by
 have j:R T X w z v:=Ws v z e;unfold ZvV at a;split at a
 .rename_i cs;obtain⟨vs,rfl,c⟩:=j;have g:Wr vs.toList cs=true:=by grind [Q3]
  refine⟨vs,rfl,ZxT c (λp h=>?_) d⟩
  have:=(ZXs.1 a) p h
  grind [ZxR]
 .have f:v=.slice none 0 0:=by
   exact ZwB e
  subst f;exact ZwC<|d 0 _ rfl
 grind
def Zzh{z:AV}{ps:List (Nat×Nat)}(a:ZvV z ps=true):∀p∈ps,0<p.2:=by
 unfold ZvV at a
 grind
def ZwD{d sz:Nat}:∀{ps:List (Nat×Nat)}{T:Ty}{h:Hp},(∀p∈ps,0<p.2)->St E T X h w fr d sz a->∃g,Step T w g w/\St E g X (h++Zvo ps) w fr d sz a/\(∀b,b<h.length->g b=T b)/\∀i p,ps[i]?=some p->g (h.length+i)=some (.row p.2 0 none 0 0)
 |[],T,h,_,s=>⟨T,.refl _ _,by grind [Zvo],λ_ _=>rfl,λi p n=>by grind⟩
 |p::r,T,h,n,s=>by
  have F:T h.length=none:=Gn s.c.m;have j:Step T w (upd T h.length<|.row p.2 0 none 0 0) w:=by
   refine⟨rfl,rfl,rfl,ZXh _,λx c t=>⟨c,by rw[upd_ne _ _<|by grind];grind,.refl _⟩,λ_ _ _=>rfl,λx t=>?_,λ_=>ZXh _⟩
   have⟨o,c',h1,h2⟩:=t;by_cases e:o=h.length
   .subst e;rw[upd_same]at h1;cases h1;cases h2
   .rw[upd_ne _ _ e]at h1;exact .inl ⟨o,c',h1,h2⟩
  have A:M (upd T h.length<|.row p.2 0 none 0 0) X (h++[.row p.2 []]) w:=by
   have:=WZ s.c.m h.length (.row p.2 []) (.row p.2 0 none 0 0) (ZXh _) j (λ_ _ _ _ _ _=>rfl) (λr B=>by cases B) ⟨rfl,rfl,n p<|ZXV ..,ZXh _,rfl⟩
   have e:setH h h.length (.row p.2 [])=h++[.row p.2 []]:=by
    unfold setH;have:Nat.blt h.length h.length=false:=by simp_all[ZYH]
    rw[this,cond_false]
   rwa[e]at this
  have u:St E (upd T h.length<|.row p.2 0 none 0 0) X (h++[.row p.2 []]) w fr d sz a:=⟨s.c.step j A,Kr j s.f,s.sz,s.marks.step j,s.base⟩;have⟨g,v,C,l,y⟩:=ZwD (ps:=r) (λq k=>n q<|ZY2 _ k) u
  have z:(h++[AObj.row p.2 []]).length=h.length+1:=by simp
  rw[z]at l y;refine⟨g,j.trans v,?_,λb D=>?_,λi q k=>?_⟩
  .grind [Zvo]
  .rw[l b (by omega),upd_ne _ _<|by omega]
  .cases i with
   |zero=>
    simp[Option.some.injEq]at k;subst k;rw[ZYb,l _<|Nat.lt_succ_self _,upd_same]
   |succ i=>
    grind
def Zzi{N d p:Nat}{z:AV}{ps:List (Nat×Nat)}{i:Array Oper}{id k sz:Nat}{ro:Option Nat}{n:Nat}(U:N<=sz)(L:X7 P N i i.toList [⟨some d,.box p<|.c z,none⟩]=true)(j:i.toList.all (λo=>match o.op with| .alloc _=>true|_=>false)=true)(O:ZvV z ps=true)(W:fits p (Zvr h.length ps z)=true)
 (s:St E T X h w fr k sz a) (Q:Exit->Act->World->Prop)
 (Z:∀A R w',Step T w A w'->St E A X (h++Zvo ps++[.row p [Zvr h.length ps z]]) w' (put fr d<|.ptr (h.length+ps.length) 0 0 1) k sz R->Q .normal R w'):(Code.region id i false).wpIn (Qa ro) n P Q a w:=by
 refine wpIn_region_list ?_;cases S:i.toList with
 |nil=>grind [X7]
 |cons o os=>
  rw[S]at L;simp[X7,ZXf]at L;have⟨q,aa⟩:=L;have D:os=[]:=by
   grind [X7]
  subst D;simp only[X6,ZXf]at q;have⟨⟨hd,V⟩,hop⟩:=q;have J:N<=a.tmps.size:=by rw[s.sz];grind
  refine wpListIn_step λK hK=>?_
  rw[MM s.f J V (b:=true) rfl,if_pos rfl];refine⟨λ_ _=>VK _ _,?_⟩
  have u:Gb P o.op (.box p<|.c z)=true:=hop;have B:∀c,o.op≠.defer c:=λc e=>by grind
  rw[Oper.semAt_eq _ _ _ B];have⟨T1,C,y,_,l⟩:=ZwD (Zzh O) s;rw[S]at j;simp only[ZYi,List.all_nil,ZXC]at j;obtain⟨t,ho,G,h0⟩:∃t,o.op=.alloc t/\KI P t z=true/\0<p:=by
   cases Y:o.op<;>rw[Y]at j u<;>try (cases j;done)
   simp_all[Gb]
  have⟨v,hv,H⟩:=Gf G;have r:(h++Zvo ps).length=h.length+ps.length:=by simp[Zvo]
  have⟨A,w',rv,g,M,m',F⟩:=UZ (P:=P) (e:=t) (rs:=[]) (s:=(execOp a.eval o)) y.c.m y.c.hX (ZXh _) (Gn y.c.m) h0 W (Zzg (T:=T1) (X:=X) (w:=w) H O l)
   (Qg (a:=a) (s:=Instr.alloc t true<|.tuple #[]) (by grind [execOp])<|by simp[Instr.alloc,Xu w hv,KB])
  have x:K (a.put o.dst rv) w':=by
   refine hK _ _<|Z A _ w' (C.trans M) ?_;have:=Gi y U hd M m' F;have e:ZH (h++Zvo ps) (some ((h++Zvo ps).length,.row p [Zvr h.length ps z]))=h++Zvo ps++[.row p [Zvr h.length ps z]]:=by
    show setH _ _ _=_
    unfold setH;have:Nat.blt (h++Zvo ps).length (h++Zvo ps).length=false:=by simp_all[ZYH]
    rw[this,cond_false]
   rw[e,r]at this;exact this
  rcases g with g|⟨g,rfl⟩<;>rw[g]<;>exact x
theorem Zzj{N k d off:Nat}{p:Arg}{l:Array Oper}{id j sz:Nat}{ro:Option Nat}{n:Nat}(hN:N<=sz)(hc:X7 P N l l.toList [⟨some d,.fadr off p,none⟩,⟨none,.store 1 (.t d)<|.c<|.isl false false k [],none⟩]=true)(h0:0<k)
 {e:AExit} {fr':Fr} {h':Hp} (F:ZvU E k d off p fr h=some (e,fr',h'))
 (s:St E T X h w fr j sz a) (Q:Exit->Act->World->Prop)
 (hq:∀Y a' w',Step T w Y w'->St E Y X h' w' fr' j sz a'->Q (exR e) a' w'):(Code.region id l false).wpIn (Qa ro) n P Q a w:=by
 refine wpIn_region_list ?_;unfold ZvU at F;cases H:Z8 E fr h h.length (.fadr off p)with
 |none=>grind
 |some r1=>
 have⟨v,am,ae⟩:=r1;rw[H]at F;cases ae with
 |some _=>grind
 |none=>
 dsimp only at F;cases G:Z8 E (put fr d v) (h++[.row k []]) (h.length+1) (.store 1 (.t d)<|.c<|.sl h.length 0 0 0 false)with
 |none=>grind
 |some r2=>
 rw[G]at F;obtain⟨rfl,rfl,rfl⟩:=F;cases hl:l.toList with
 |nil=>grind [X7]
 |cons O os=>
 rw[hl]at hc;cases os with
 |nil=>grind [X7]
 |cons A os=>
 simp only[X7,ZXf]at hc;have⟨B,M,an⟩:=hc;have ac:os=[]:=by
  grind [X7]
 subst ac;simp only[X6,ZXf]at B M;have⟨⟨ak,ag⟩,hop1⟩:=B;have⟨⟨aa,af⟩,hop2⟩:=M;have ah:N<=a.tmps.size:=by rw[s.sz];grind
 refine wpListIn_step λK hK=>?_
 rw[MM s.f ah ag (b:=true) rfl,if_pos rfl];refine⟨λ_ _=>VK _ _,?_⟩
 have u:Gb P O.op (.fadr off p)=true:=hop1;have i:Gb P A.op (.store 1 (.t d)<|.c<|.isl false false k [])=true:=hop2;have L:∀c,O.op≠.defer c:=λc e=>by grind [L0]
 have U:∀c,A.op≠.defer c:=λc e=>by grind [L0]
 rw[Oper.semAt_eq _ _ _ L];have⟨T1,w1,q,z,C,m1,Z⟩:=MZ s.c s.f (ZXh _) (Gn s.c.m) u H;have W:St E T1 X h w1 (put fr d v) j sz (a.put O.dst q):=Gi s hN ak C m1 Z;have V:K (a.put O.dst q) w1:=by
  refine hK _ _ ?_;generalize a.put O.dst q=a1 at W;have D:N<=a1.tmps.size:=by rw[W.sz];grind
  refine wpListIn_step λK2 ab=>?_
  rw[MM W.f D af (b:=true) rfl,if_pos rfl];refine⟨λ_ _=>VK _ _,?_⟩
  rw[Oper.semAt_eq _ _ _ U];have⟨T2,al,S,_,r⟩:=ZwD (ps:=[(0,k)]) (by grind) W
  have hz:h++Zvo [(0,k)]=h++[.row k []]:=rfl;rw[hz]at S;obtain⟨t,x,y,ho,hn,hx,hy⟩:∃t x y,A.op=.store t x y/\ZR P t=some 1/\Zr x (.t d)=true/\Zr y (.c<|.isl false false k [])=true:=by
   cases hh:A.op<;>rw[hh]at i<;>simp only[Gb]at i<;>try (cases i;done)
   grind
  have aj:a1.eval y=.slice none 0 0:=by
   cases y<;>simp only[Zr]at hy<;>try (cases hy;done)
   exact ZwB hy
  have hR:R T2 X w1 (.sl h.length 0 0 0 false) (a1.eval y):=by
   rw[aj];exact ZwC<|r 0 (0,k) rfl
  have o:=G;simp only[Z8]at o;have⟨Y,w',rv,g,st,m',ad⟩:=Cx (P:=P) (s:=execOp a1.eval A) S.c.m hn (evR S.c.gl S.f hx) hR (λw' hr=>Ri (s:=Instr.storeAt t (a1.eval x)<|a1.eval y) (by grind [execOp]) hr) o
  have J:K2 (a1.put A.dst rv) w':=by
   refine ab _ _<|hq Y _ w' ((C.trans al).trans st) ?_;exact Gi S hN aa st m' ad
  rcases g with g|⟨g,rfl⟩<;>rw[g]<;>exact J
 rcases z with g|⟨g,rfl⟩<;>rw[g]<;>exact V
def ZRM{r:Nat}{x y:AV}(a:∀v,R T X w x v->R T X w y v):∀{cs:List AV}{off o:Nat},cs[off]?=some x->ZV T X w r cs o->ZV T X w r (cs.set off y) o
 |[],_,_,hx,_=>by grind
 |c::cs,0,o,hx,hr=>by
  simp[Option.some.injEq]at hx;subst hx;have⟨⟨v,h1,h2⟩,h3⟩:=hr;exact⟨⟨v,h1,a v h2⟩,h3⟩
 |c::cs,off+1,o,hx,hr=>⟨hr.1,ZRM a (by grind) hr.2⟩
def ZTy(m:M T X h w){b sz off:Nat}{cs:List AV}{x y:AV}(d:h[b]?=some (.row sz [.agg cs]))(q:cs[off]?=some x)(a:∀v,R T X w x v->R T X w y v):M T X (setH h b<|.row sz [.agg<|cs.set off y]) w where
 inj:=m.inj
 lt:=m.lt
 notX:=m.notX
 obj b':=by
  rw[Ks h b _<|ZYg (ZXu.1 d).1];by_cases e:b'=b
  .subst e;rw[if_pos rfl];have:=m.obj b';rw[d]at this;cases f:T b' with
   |none=>rw[f]at this;exact this.elim
   |some c=>
    rw[f]at this;cases c with
    |map _=>exact this.elim
    |iter _=>exact this.elim
    |loop _=>exact this.elim
    |row s g r C B=>
     obtain⟨rfl,h1,h2,l,n⟩:=this;refine⟨rfl,h1,h2,l,?_⟩;cases r with
     |none=>grind
     |some r=>
      have⟨o,el,i,j,t,k,p⟩:=n;exact⟨o,el,i,j,by grind,ZRM a q k,p⟩
  .rw[if_neg e];exact m.obj b'
def ZTz{d off e:Nat}{h2:Hp}{g sz:Nat}(k:ghW d off e fr h=some h2)(s:St E T X h w fr g sz a):∃n,Step T w n w/\St E n X h2 w fr g sz a:=by
 unfold ghW at k;split at k
 .rename_i b F;split at k
  .rename_i j cs C;split at k
   .rename_i B;cases z:Nat.blt 0 e with
    |false=>grind
    |true=>
     rw[z,cond_true,Option.some.injEq]at k;subst k;have⟨n,u,i,_,x⟩:=ZwD (ps:=[(0,e)]) (λp D=>by
      simp_all) s
     have q:=x 0 (0,e) rfl;have l:b<h.length:=(ZXu.1 C).1;have o:(h++Zvo [(0,e)])[b]?=some (.row j [.agg cs]):=by grind
     have r:=ZTy (y:=.sl h.length 0 0 0 false) i.c.m o B (λv A=>by
      subst A;exact⟨⟨_,_,_,rfl⟩,e,0,none,0,0,q,ZXh _,ZXh _,λ_=>⟨0,ZXh _,ZXh _,λ_=>rfl,.inr ⟨rfl,none,rfl,λ_=>rfl⟩⟩⟩)
     have t:setH (h++Zvo [(0,e)]) b (.row j [.agg<|cs.set off<|.sl h.length 0 0 0 false])=setH h b (.row j [.agg<|cs.set off<|.sl h.length 0 0 0 false])++[.row e []]:=by
      unfold setH;rw[show Nat.blt b (h++Zvo [(0,e)]).length=true by simp[Zvo];omega,show Nat.blt b h.length=true by simp_all,cond_true,cond_true,List.set_append_left _ _ l]
      rfl
     rw[t]at r;exact⟨n,u,⟨⟨r,i.c.gl,i.c.hX⟩,i.f,i.sz,i.marks,i.base⟩⟩
   grind
  grind
 grind
def L7(P:Program)(E:Env)(k:Nat):Prop:=∀f i d fr h fr' h',Ze E (k+1) (.draw f i d) fr h=some (.normal,fr',h')->∀(T:Ty)(X:Xt)(w:World)(a:Act)(N:Nat)(j:Nat)(c:Array Oper)(b sz:Nat)(ro:Option Nat)(n:Nat),
 X.cr=Chk P->N<=sz->Gj P N c f i d=true->St E T X h w fr b sz a->∀(Q:Exit->Act->World->Prop),
 (∀e g w',Step T w e w'->St E e X h' w' fr' b sz g->Q .normal g w')->(Code.region j c true).wpIn (Qa ro) n P Q a w
def ZPj{b:Frame}{a:Act}{k:List Item}{cs:List Frame}{w:World}{c:Code}:step P (lone (b.atR a<|.code (.scope c)::k) cs w)=.next (lone (b.atR a<|.code c::.inScope c::k) cs w):=rfl
def ZTA{b:Frame}{a:Act}{k:List Item}{cs:List Frame}{w:World}{c:Code}:step P (lone (b.atR a<|.inScope c::k) cs w)=.next (lone (b.atR a k) cs w):=rfl
def ZTB{F:Fence}{n:Nat}{c:Code}{Q:Exit->Act->World->Prop}{a:Act}{w:World}(h:c.wpIn F n P (Exit.noGoto Q) a w):(Code.scope c).wpIn F n P Q a w:=by
 intro b k cs r q s;have i:(lone (b.atR a<|.code (.scope c)::k) cs w).fenced P F:=fenced_calm q s rfl;have⟨e,f,g,j,d⟩:=h b (.inScope c::k) cs r q s;cases e with
 |normal=>exact⟨.normal,f,g,j,.head i ZPj<|StepsIn.trans d<|.one (fenced_calm q s rfl) ZTA⟩
 |exit p=>
  have x:exitTo p (.inScope c::k)=exitTo p k:=by simp[exitTo]
  exact⟨.exit p,f,g,j,λu t=>.head i ZPj<|d.1 u<|by grind,
   λo t=>let⟨m,h1,h2⟩:=d.2 o (by grind);⟨m,h1,.head i ZPj h2⟩⟩
 |goto l=>exact j.elim
 |ret=>exact⟨_,f,g,j,.of_steps (.one i ZPj) d⟩
 |panic v=>exact⟨_,f,g,j,.of_steps (.one i ZPj) d⟩
 |outgrown=>exact⟨_,f,g,j,.of_steps (.one i ZPj) d⟩
def BN(gl:∀g,clean (E.gl g)=true){k:Nat}(W:L7 P E k)(M:AllOk P E k){q:ACode}{e:AExit}{fr':Fr}{h':Hp}(b:Ze E (k+1) q fr h=some (e,fr',h')){N:Nat}{c:Code}{l sz:Nat}{R:Bool}{ro:Option Nat}{n:Nat}
 (v:X.cr=Chk P) (J:N<=sz) (t:QZ P N R c q=true) (A:R=false->ro=none) (s:St E T X h w fr l sz a) (Q:Exit->Act->World->Prop)
 (B:∀T' a' w',Step T w T' w'->St E T' X h' w' fr' l sz a'->Q (exR e) a' w'):c.wpIn (Qa ro) n P Q a w:=by
 unfold QZ at t;split at t
 .obtain⟨rfl,rfl,rfl⟩:=b;exact wpIn_skip<|B T a w (.refl _ _) s
 .simp only[Ze,Option.some.injEq,Prod.mk.injEq]at b;obtain⟨rfl,rfl,rfl⟩:=b;exact wpIn_label<|B T a w (.refl _ _) s
 .next S D qs=>
  simp only[Ze,ZXt,Prod.mk.injEq]at b;obtain⟨⟨u,h1⟩,b,rfl,rfl,rfl⟩:=b;exact wpIn_region_list<|M.ops qs fr h _ _ b T X w a N D D.toList l sz ro n v J t s Q B
 .next S D d z0 z ps=>
  simp only[ZXf]at t;simp only[Ze]at b;cases hf:fits z0 (Zvr h.length ps z)with
  |false=>grind
  |true=>
   rw[hf]at b;simp only[cond_true,Option.some.injEq,Prod.mk.injEq]at b;obtain⟨rfl,rfl,rfl⟩:=b;exact Zzi J t.1 t.2.1 t.2.2 hf s Q B
 .next S D s0 d off p=>
  simp only[ZXf,decide_eq_true_eq]at t
  grind [Ze,Zzj]
 .next S D un p1 p2=>
  have ab:e=.normal:=by
   simp only[Ze]at b;split at b
   .simp only[ZXt,Prod.mk.injEq]at b
    grind
   grind
  subst ab;exact W un p1 p2 fr h fr' h' b T X w a N S D l sz ro n v J t s Q B
 .next U c2 x y=>
  simp only[ZXf]at t;simp only[Ze]at b;refine wpIn_seq ?_;cases K:Ze E k x fr h with
  |none=>grind
  |some r=>
   have⟨O,u,h1⟩:=r;rw[K]at b;refine M.code x fr h O u h1 K T X w a N U l sz R ro n v J t.1 A s _ ?_;intro L G F o C;cases O with
   |normal=>exact M.code y u h1 e fr' h' b L X F G N c2 l sz R ro n v J t.2 A C Q<|λY a2 w2 H Z=>B Y a2 w2 (o.trans H) Z
   |exit S=>cases b;exact B L G F o C
   |ret=>cases b;exact B L G F o C
 .next c0 U c2 d x y=>
  simp only[ZXf]at t;simp only[Ze]at b;have hd:=evR s.c.gl s.f t.1.1;split at b
  .next V=>
   rw[V]at hd;exact wpIn_cond_true hd<|M.code x fr h e fr' h' b T X w a N U l sz R ro n v J t.1.2 A s Q B
  .next V=>
   rw[V]at hd;exact wpIn_cond_false hd<|M.code y fr h e fr' h' b T X w a N c2 l sz R ro n v J t.2 A s Q B
  grind
 .next i U j x=>
  simp only[ZXf,beq_iff_eq]at t;obtain⟨rfl,t⟩:=t;simp only[Ze]at b;refine wpIn_block ?_;cases K:Ze E k x fr h with
  |none=>grind
  |some r=>
   have⟨O,u,h1⟩:=r;rw[K]at b;refine M.code x fr h O u h1 K T X w a N U l sz R ro n v J t A s _ ?_;intro L G F o C;cases O with
   |normal=>cases b;exact B L G F o C
   |exit S=>
    simp only[exR,Exit.inBlock];by_cases aa:S=i
    .subst aa;simp only[beq_self_eq_true,cond_true,Option.some.injEq,Prod.mk.injEq]at b;obtain⟨rfl,rfl,rfl⟩:=b;rw[if_pos rfl];exact B L G F o C
    .have:(S==i)=false:=by grind
     simp only[this,cond_false,Option.some.injEq,Prod.mk.injEq]at b;obtain⟨rfl,rfl,rfl⟩:=b;rw[if_neg aa];exact B L G F o C
   |ret=>cases b;exact B L G F o C
 .next U live x=>
  exact wpIn_loop_rounds (k+1)<|L5 M b v J t A s Q B
 .next g ps as bd f qs x y=>
  simp only[ZXf,ZXM,decide_eq_true_eq,ZXs,ZYs]at t
  grind [BM]
 .next i j=>
  simp only[beq_iff_eq]at t;subst t;simp only[Ze,Option.some.injEq,Prod.mk.injEq]at b;obtain⟨rfl,rfl,rfl⟩:=b;exact wpIn_exit<|B T a w (.refl _ _) s
 .simp only[Ze,Option.some.injEq,Prod.mk.injEq]at b;obtain⟨rfl,rfl,rfl⟩:=b;exact wpIn_ret<|B T a w (.refl _ _) s
 .next U live x=>
  simp only[Ze]at b;split at b
  .next O u h1 K=>
   simp only[Option.some.injEq,Prod.mk.injEq]at b;obtain⟨rfl,rfl,rfl⟩:=b;refine ZTB<|M.code x fr h O u h1 K T X w a N U l sz R ro n v J t A s _ ?_;intro L G F o C;have⟨Y,H,Z⟩:=BK s.c.m gl o<|C.withFr<|L4 (live:=live) C.f;have:=B Y G F H Z;cases O<;>exact this
  grind
 .next live x _=>
  simp only[Ze]at b;split at b
  .next O u h1 K=>
   simp only[Option.some.injEq,Prod.mk.injEq]at b;obtain⟨rfl,rfl,rfl⟩:=b;refine M.code x fr h O u h1 K T X w a N c l sz R ro n v J t A s Q ?_;intro L G F o C;have⟨Y,H,Z⟩:=BK s.c.m gl o<|C.withFr<|L4 (live:=live) C.f
   grind
  grind
 .next d off s0 x=>
  simp only[Ze]at b;split at b
  .next u h1 K=>
   simp only[ZXt,Prod.mk.injEq]at b;obtain⟨h2,hg,rfl,rfl,rfl⟩:=b;refine M.code x fr h .normal u h1 K T X w a N c l sz R ro n v J t A s Q ?_;intro L G F o C;have⟨Y,H,Z⟩:=ZTz hg C;exact B Y G F (o.trans H) Z
  grind
 grind
end Go.AM
namespace Go.AM
open Go
variable [Dr]
structure Rc where
 dst:Option Nat
 v:AV
 wr:Option<|Nat×AObj
 d:DRec
def LW{α:Type}(S:Nat->Bool)(f:Rc->Option α):Nat->List Rc->α->α
 |_,[],d=>d
 |i,r::rs,d=>LW S f (i+1) rs (if S i then(f r).getD d else d)
theorem Gs{α:Type}{S a:Nat->Bool}{f:Rc->Option α}:∀(rs:List Rc)(i:Nat)(d:α),(∀k r,rs[k]?=some r->(f r).isSome=true->S (i+k)=a (i+k))->LW S f i rs d=LW a f i rs d:=by
 intro rs;induction rs with
 |nil=>intro i d _;rfl
 |cons r rs g=>
  intro i d c;simp[LW];have b:=c 0 r rfl;have e:(if S i then(f r).getD d else d)=if a i then(f r).getD d else d:=by
   cases j:f r with
   |none=>simp
   |some x=>rw[j]at b;have:=b rfl;simp[ZYb]at this;rw[this]
  rw[e];exact g (i+1) _ (λk l m h=>by have:=c (k+1) l (by grind) h;grind)
theorem Rt{α:Type}{S:Nat->Bool}{f:Rc->Option α}:∀(rs:List Rc)(i:Nat)(d:α),(∀k r,rs[k]?=some r->(f r).isSome=true->S (i+k)=false)->LW S f i rs d=d:=by
 intro rs;induction rs with
 |nil=>intro i d _;rfl
 |cons r rs b=>
  intro i d a;simp[LW];have h:=a 0 r rfl;have e:(if S i then(f r).getD d else d)=d:=by
   cases l:f r with
   |none=>simp
   |some x=>grind
  rw[e];exact b (i+1) _ (λk g j c=>by have:=a (k+1) g (by grind) c;grind)
theorem Ru{α:Type}{S:Nat->Bool}{f:Rc->Option α}:∀(rs us:List Rc)(i:Nat)(d:α),LW S f i (rs++us) d=LW S f (i+rs.length) us (LW S f i rs d):=by
 intro rs;induction rs with
 |nil=>intro us i d;rfl
 |cons r rs a=>
  intro us i d;simp[LW,a];rw[show i+1+rs.length=i+(rs.length+1)by omega]
def BO{α:Type}{S:Nat->Bool}{f:Rc->Option α}{rs:List Rc}{i k:Nat}{d x:α}{r:Rc}(o:rs[k]?=some r)(m:f r=some x)(g:S (i+k)=true)
 (l:∀e c,k<e->rs[e]?=some c->(f c).isSome=true->S (i+e)=false):LW S f i rs d=x:=by
 have n:rs.drop k=r::rs.drop (k+1):=by
  grind [List.drop_eq_getElem_cons]
 have h:rs=rs.take k++(r::rs.drop (k+1)):=by rw[<-n,ZYe]
 rw[h,Ru];have b:(rs.take k).length=k:=by grind
 rw[b];simp only[LW,g,if_true,m,Option.getD_some];refine Rt _ _ _<|λj c p a=>?_
 have:rs[k+1+j]?=some c:=by grind
 have:=l (k+1+j) c (by omega) this a
 grind
def fD(t:Nat)(r:Rc):Option AV:=if r.dst=some t then some r.v else none
def Y0:Nat->Bool:=λ_=>true
def below(m:Nat):Nat->Bool:=λk=>decide (k<m)
def KT(k v:AV):Option AObj->Option AObj
 |some (.map ks vs)=>some<|.map (ks++[k])<|vs++[v]
 |d=>d
def gW(b:Nat)(r:Rc)(d:Option AObj):Option AObj:=
 match r.wr with
 |some (b',o)=>if b'=b then(match r.d.ik with|some (k,v)=>KT k v d|none=>some o)else d
 |none=>d
def YT(b:Nat)(r:Rc):Prop:=∃o,r.wr=some (b,o)
theorem V7{b:Nat}{r:Rc}(h:¬YT b r)(d:Option AObj):gW b r d=d:=by
 unfold gW;split
 .next c o a=>
  split
  .next e=>subst e;exact(h ⟨o,a⟩).elim
  .rfl
 .rfl
def VL{b:Nat}{r:Rc}{o:AObj}(a:r.wr=some (b,o))(c:r.d.ik=none)(d:Option AObj):gW b r d=some o:=by
 grind [gW]
def VM{b:Nat}{r:Rc}{o:AObj}{k v:AV}(a:r.wr=some (b,o))(c:r.d.ik=some (k,v))(d:Option AObj):gW b r d=KT k v d:=by
 grind [gW]
def LF(S:Nat->Bool)(b:Nat):Nat->List Rc->Option AObj->Option AObj
 |_,[],d=>d
 |i,r::rs,d=>LF S b (i+1) rs (if S i then gW b r d else d)
theorem VN{S a:Nat->Bool}{b:Nat}:∀(rs:List Rc)(i:Nat)(d:Option AObj),(∀k r,rs[k]?=some r->YT b r->S (i+k)=a (i+k))->LF S b i rs d=LF a b i rs d:=by
 intro rs;induction rs with
 |nil=>intro i d _;rfl
 |cons r rs f=>
  intro i d c;simp[LF];have j:=c 0 r rfl;have e:(if S i then gW b r d else d)=if a i then gW b r d else d:=by
   by_cases l:YT b r
   all_goals simp_all[V7]
  rw[e];exact f (i+1) _ (λk h m g=>by have:=c (k+1) h (by grind) g;grind)
theorem U0{S:Nat->Bool}{b:Nat}:∀(rs:List Rc)(i:Nat)(d:Option AObj),(∀k r,rs[k]?=some r->YT b r->S (i+k)=false)->LF S b i rs d=d:=by
 intro rs;induction rs with
 |nil=>intro i d _;rfl
 |cons r rs c=>
  intro i d a;simp[LF];have j:=a 0 r rfl;have e:(if S i then gW b r d else d)=d:=by
   by_cases h:YT b r
   all_goals simp_all[V7]
  rw[e];exact c (i+1) _ (λk g l f=>by have:=a (k+1) g (by grind) f;grind)
theorem VO{S:Nat->Bool}{b:Nat}:∀(rs us:List Rc)(i:Nat)(d:Option AObj),LF S b i (rs++us) d=LF S b (i+rs.length) us (LF S b i rs d):=by
 intro rs;induction rs with
 |nil=>intro us i d;rfl
 |cons r rs a=>
  intro us i d;simp[LF,a];rw[show i+1+rs.length=i+(rs.length+1)by omega]
def Rv{rs:List Rc}{k:Nat}{r:Rc}(a:rs[k]?=some r):rs=rs.take k++(r::rs.drop (k+1))/\(rs.take k).length=k:=by
 grind [List.drop_eq_getElem_cons,List.take_append_drop]
def BP{S:Nat->Bool}{b:Nat}{rs:List Rc}{i k:Nat}{d:Option AObj}{o:AObj}{r:Rc}(p:rs[k]?=some r)(g:r.wr=some (b,o))(e:r.d.ik=none)(h:S (i+k)=true)
 (n:∀f c,k<f->rs[f]?=some c->YT b c->S (i+f)=false):LF S b i rs d=some o:=by
 have⟨l,a⟩:=Rv p;rw[l,VO,a];simp[LF,h,VL g e];refine U0 _ _ _<|λj c q m=>?_
 have:rs[k+1+j]?=some c:=by grind
 have:=n (k+1+j) c (by omega) this m
 grind
def L8(fr:Fr)(d:Option Nat)(v:AV)(t:Nat):get (ZB fr d v) t=if d=some t then v else get fr t:=by
 cases d with
 |none=>simp[ZB]
 |some d=>
  simp_all[ZB,put,get]
def BQ(h:Hp)(a:Option<|Nat×AObj)(d:Ya h a=true)(b:Nat):(ZH h a)[b]?=match a with|some (c,o)=>if b=c then some o else h[b]? |none=>h[b]?:=by
 cases a with
 |none=>rfl
 |some p=>
  have⟨c,o⟩:=p;simp[Ya]at d;exact Ks h c o d b
def BR{b:Nat}(rs:List Rc)(r:Rc)(d:Option AObj):LF Y0 b 0 (rs++[r]) d=gW b r (LF Y0 b 0 rs d):=by
 rw[VO];rfl
theorem L9{b:Nat}(rs us:List Rc)(d:Option AObj):LF (below rs.length) b 0 (rs++us) d=LF Y0 b 0 rs d:=by grind [VO,U0,VN,List.getElem?_eq_some_iff,below,Y0]
def U1(d:DRec)(c:Option<|Nat×AObj)(h:Hp):Prop:=∀k v,d.ik=some (k,v)->∃b a vs,c=some (b,.map (a++[k])<|vs++[v])/\h[b]?=some (.map a vs)
def BS{α:Type}{f:Rc->Option α}(rs:List Rc)(r:Rc)(d:α):LW Y0 f 0 (rs++[r]) d=(f r).getD (LW Y0 f 0 rs d):=by
 rw[Ru];rfl
def BT{α:Type}{f:Rc->Option α}(rs us:List Rc)(d:α):LW (below rs.length) f 0 (rs++us) d=LW Y0 f 0 rs d:=by grind [Ru,Rt,Gs,List.getElem?_eq_some_iff,below,Y0]
structure Run(ex:AOper->Fr->Hp->Option (AV×DRec×Option (Nat×AObj)))(fr0:Fr)(h0:Hp)(qs:List AOper)(us:List<|List Nat)(rc:List Rc)(fr':Fr)(h':Hp):Prop where
 len:rc.length=qs.length
 op:∀i q,qs[i]?=some q->∃fr h r u,rc[i]?=some r/\us[i]?=some u/\ex q fr h=some (r.v,r.d,r.wr)/\r.dst=q.dst/\Ya h r.wr=true/\h.length<=(ZH h r.wr).length/\(ZH h r.wr).length<=h'.length/\
  (∀t,get fr t=LW (below i) (fD t) 0 rc (get fr0 t))/\(∀b,h[b]?=LF (below i) b 0 rc (h0[b]?))/\h0.length<=h.length/\U1 r.d r.wr h/\
  (∀j∈u,∃y,rc[j]?=some y/\j<i/\Qy r.d y.d=true)
 fr:∀t,get fr' t=LW Y0 (fD t) 0 rc (get fr0 t)
 hp:∀b,h'[b]?=LF Y0 b 0 rc (h0[b]?)
 grow:h0.length<=h'.length
def BU(h:Hp)(b:Nat)(o:AObj):h.length<=(setH h b o).length:=by grind [setH,Nat.blt]
def Rw(h:Hp)(a:Option<|Nat×AObj):h.length<=(ZH h a).length:=by
 cases a with
 |none=>exact ZXh _
 |some p=>exact BU h p.1 p.2
theorem BV{x:DRec}{a:List DRec}:∀{u:List Nat},Zv x a u=true->∀j∈u,∃y,a[j]?=some y/\Qy x y=true:=by
 intro u;induction u with
 |nil=>grind
 |cons i u c=>
  intro b j d;simp[Zv]at b
  grind
def BW(ex:AOper->Fr->Hp->Option (AV×DRec×Option (Nat×AObj)))(C:∀q fr h v d c,ex q fr h=some (v,d,c)->U1 d c h)(fr0:Fr)(A:Hp):∀(w:List AOper)(us:List<|List Nat)(done:List Rc)(fr:Fr)(h:Hp)(fr':Fr)(h':Hp),
 QH ex w us fr h (done.map (·.d))=some (fr',h')->(∀t,get fr t=LW Y0 (fD t) 0 done (get fr0 t))->(∀b,h[b]?=LF Y0 b 0 done (A[b]?))->A.length<=h.length->
 ∃a:List Rc,a.length=w.length/\h.length<=h'.length/\
  (∀i q,w[i]?=some q->∃fr h r u,(done++a)[done.length+i]?=some r/\us[i]?=some u/\ex q fr h=some (r.v,r.d,r.wr)/\r.dst=q.dst/\Ya h r.wr=true/\h.length<=(ZH h r.wr).length/\(ZH h r.wr).length<=h'.length/\
   (∀t,get fr t=LW (below<|done.length+i) (fD t) 0 (done++a) (get fr0 t))/\(∀b,h[b]?=LF (below<|done.length+i) b 0 (done++a) (A[b]?))/\A.length<=h.length/\U1 r.d r.wr h/\
   (∀j∈u,∃y,(done++a)[j]?=some y/\j<done.length+i/\Qy r.d y.d=true))/\
  (∀t,get fr' t=LW Y0 (fD t) 0 (done++a) (get fr0 t))/\(∀b,h'[b]?=LF Y0 b 0 (done++a) (A[b]?)):=by
 intro w;induction w with
 |nil=>
  simp_all[QH]
 |cons q w H=>
  intro us done fr h fr' h' z K O m;cases us with
  |nil=>grind [QH]
  |cons u us=>
   simp[QH]at z;split at z
   .next v d c f=>
    cases s:(Zv d (done.map (·.d)) u&&Ya h c)with
    |false=>grind
    |true=>
     rw[s]at z;simp only[ZXf]at s;obtain⟨R,E⟩:=s
     let r:Rc:=⟨q.dst,v,c,d⟩
     have B:done.map (·.d)++[d]=(done++[r]).map (·.d):=by grind
     rw[B]at z;obtain⟨a,h1,h2,F,G,D⟩:=H us (done++[r]) (ZB fr q.dst v) (ZH h c) fr' h' z
      (λt=>by
       rw[BS,L8,K t];simp only[fD,r]
       grind)
      (λb=>by
       rw[BR,BQ h c E,<-O b];cases c with
       |none=>rfl
       |some p=>
        obtain⟨Q,o⟩:=p;dsimp only;by_cases e:b=Q
        .subst e;rw[if_pos rfl];cases n:d.ik with
         |none=>exact(VL (r:=r) rfl n _).symm
         |some L=>
          obtain⟨k,x⟩:=L;obtain⟨U,S,vs,J,M⟩:=C _ _ _ _ _ _ f k x n;cases J;rw[VM (r:=r) rfl n,M];rfl
        .rw[if_neg e];exact(V7 (r:=r) (λ⟨T,h2⟩=>e<|by grind) _).symm)
      (ZXW m<|Rw h c)
     have g:done++[r]++a=done++(r::a):=by simp
     rw[g]at F G D;refine⟨r::a,by grind,ZXW (Rw h c) h2,?_,G,D⟩
     intro i N l;cases i with
     |zero=>
      simp only[ZYf,Option.some.injEq]at l;subst l;refine⟨fr,h,r,u,by simp,rfl,f,rfl,E,Rw h c,h2,λt=>?_,λb=>?_,m,C _ _ _ _ _ _ f,?_⟩
      .simp_all[BT]
      .simp_all[L9]
      grind [BV]
     |succ i=>
      simp only[ZYn]at l⊢;have:=F i N l;have P:(done++[r]).length+i=done.length+(i+1):=by grind
      rw[P]at this
      grind
   grind
def BX{ex:AOper->Fr->Hp->Option (AV×DRec×Option (Nat×AObj))}(f:∀q fr h v d g,ex q fr h=some (v,d,g)->U1 d g h){fr0:Fr}{c:Hp}{e:List AOper}{us:List (List Nat)}{fr':Fr}{h':Hp}(i:QH ex e us fr0 c []=some (fr',h')):
 ∃j,Run ex fr0 c e us j fr' h':=by
 have⟨a,h1,h2,m,l,k⟩:=BW ex f fr0 c e us [] fr0 c fr' h' i (λt=>rfl) (λb=>rfl)<|ZXh _
 refine⟨a,h1,?_,by grind,by grind,h2⟩
 grind
variable {P:Program} {E:Env} {T:Ty} {X:Xt} {w:World} {h:Hp} {fr:Fr} {a:Act}
def BY{b:List Nat}{j:Nat}:∀(es:List Edge)(m:Nat),
 (es.foldl (λm e=>bif Region.binds .any e then(m ||| (1 <<< e.on)) ||| (b.getD e.on 0)else m) m).testBit j=true->
 m.testBit j=true\/∃e∈es,Region.binds .any e=true/\(j=e.on\/(b.getD e.on 0).testBit j=true):=by
 intro es;induction es with
 |nil=>grind
 |cons e es c=>
  intro m a;simp[ZY5]at a;rcases c _ a with h1|⟨e',h1,h2,h3⟩
  .cases d:Region.binds .any e with
   |false=>grind
   |true=>
    rw[d,cond_true]at h1;simp only[Nat.testBit_or,ZZ9]at h1;rcases h1 with(h1|h1)|h1
    all_goals simp_all[Nat.one_shiftLeft,Nat.testBit_two_pow]
  grind
def BZ:∀(os:List Oper)(a:List Nat),∃r,YS os a=a++r/\r.length=os.length:=by
 intro os;induction os with
 |nil=>simp_all[YS]
 |cons o os b=>
  intro a;have⟨r,h1,h2⟩:=b<|a++[KM a o]
  grind [YS]
def Ta:∀(os:List Oper)(b:List Nat)(k:Nat)(o:Oper),os[k]?=some o->∃a r,(YS os b)=a++KM a o::r/\a.length=b.length+k:=by
 intro os;induction os with
 |nil=>grind
 |cons d os e=>
  intro b k o c;cases k with
  |zero=>
   simp[Option.some.injEq]at c;have⟨r,h1,h2⟩:=BZ os<|b++[KM b d];exact⟨b,r,by grind [YS],rfl⟩
  |succ k=>
   have⟨a,r,h1,h2⟩:=e (b++[KM b d]) k o c
   grind [YS]
def Closed(a:Array Oper)(S:Nat->Bool):Prop:=∀i o,a[i]?=some o->S i=true->∀e∈o.after,Region.binds .any e=true->S e.on=true
theorem Gu{a:Array Oper}{S:Nat->Bool}(l:Closed a S):∀(i:Nat)(o:Oper),a[i]?=some o->(∀e∈o.after,Region.binds .any e=true->S e.on=true)->∀j,((YS a.toList []).getD i 0).testBit j=true->S j=true:=by
 intro i;induction i using Nat.strongRecOn with
 |_ i h=>
  intro o n k j g;have⟨m,r,h1,h2⟩:=Ta a.toList [] i o<|by grind
  simp[ZXA]at h2;rw[h1,List.getD_eq_getElem?_getD,ZYl (by omega),h2,Nat.sub_self]at g
  rcases BY _ _ g with h3|⟨e,h3,h4,h5⟩
  .grind
  .have c:=k e (by grind) h4
   rcases h5 with rfl|h5
   .grind
   .by_cases d:e.on<i
    .cases b:a[e.on]? with
     |none=>
      grind
     |some f=>
      refine h e.on d f b (l e.on f b c) j ?_
      grind
    grind
def La{fr fr2:Fr}{x:Arg}(a:∀t∈x.slots,get fr t=get fr2 t):ev E fr x=ev E fr2 x:=by
 cases x<;>first|rfl|exact a _<|by simp[Arg.slots]
def Lb{fr fr2:Fr}:∀{xs:List Arg},(∀t∈Xp xs,get fr t=get fr2 t)->xs.map (ev E fr)=xs.map (ev E fr2):=by
 intro xs;induction xs with
 |nil=>grind
 |cons x xs b=>
  intro a;simp only[ZXn];rw[La (x:=x)<|λt c=>a t<|by grind [Xp],b<|λt c=>a t<|by grind [Xp]]
def Tb{aid a sz:Nat}{fz:Bool}{b:List AV}{rs:List Nat}{r:Zt}(c:Yp aid fz sz b rs=some r)(d:r.2.2.map (·.1)≠some aid):Yp a fz sz b rs=some r:=by grind [Yp]
theorem Tc{aid b sz bytes:Nat}{fz:Bool}{s x:AV}{r:Zt}(a:Qt h aid fz sz bytes s x=some r)(e:r.2.2.map (·.1)≠some aid):Qt h b fz sz bytes s x=some r:=by
 unfold Qt at a⊢;cases h1:Q2 h s with
 |none=>grind
 |some es=>
  cases h2:Q2 h x with
  |none=>grind
  |some ys=>
   rw[h1,h2]at a;dsimp only at a⊢;split at a
   .next d=>
    rw[if_pos d];cases c:ys.isEmpty with
    |true=>grind
    |false=>
     rw[c]at a;split at a<;>first|exact Tb a e|grind|cases a
   grind
def Td{aid b:Nat}{c:AOp}{r:Zt}(a:Z8 E fr h aid c=some r)(g:r.2.2.map (·.1)≠some aid):Z8 E fr h b c=some r:=by
 cases c<;>try exact a
 case own sz=>simp[Z8]at a;grind
 case mkm=>simp[Z8]at a;grind
 case box sz x=>
  simp[Z8]at a
  grind
 case ibox sz x=>
  simp[Z8]at a⊢
  grind
 case bsl fz ex sz z len ps=>
  simp only[Z8]at a⊢
  grind
 case mks sz z bytes len cap=>
  simp only[Z8]at a
  grind
 case rng x=>
  simp only[Z8]at a
  grind
 case app fz sz bytes s x=>exact Tc a g
 case apr sz bytes s x=>
  simp only[Z8]at a⊢;cases d:Qt h aid false sz bytes (ev E fr s) (ev E fr x)with
  |none=>grind
  |some f=>
   rw[d]at a;have h2:f.2.2.map (·.1)≠some aid:=by
    have⟨v,rs,i⟩:=f;intro e;cases i with
    |none=>grind
    |some p=>
     have⟨j,o⟩:=p;simp only[ZXR,Option.some.injEq]at e;subst e;unfold ZvE at a
     grind
   grind [Tc]
def Te{h':Hp}{n:Nat}{args as:List AV}(c:Zi args=true\/Le h h')(a:(bif Z4 args then some args else ZC true h n args)=some as):(bif Z4 args then some args else ZC true h' n args)=some as:=by
 cases b:Z4 args with
 |true=>grind
 |false=>
  rw[b]at a
  grind [KP,Wy]
def Tf{h':Hp}{args as:List AV}(b:Zi args=true\/Le h h')(a:Ql h args=some as):Ql h' args=some as:=Te (n:=40) b a
def ZRN{bw:Bool}{h h':Hp}(n:Nat)(v:AV)(e:so1 h v=true)(i:∀b∈sh1 v,∀o,h[b]?=some o->h'[b]?=some o):freeze bw h n v=freeze bw h' n v:=by
 cases v with
 |sl b g off d ex=>
  cases n with
  |zero=>simp[freeze]
  |succ n=>
   have a:shr h b=true:=e;unfold shr at a;cases f:h[b]? with
   |none=>grind
   |some o=>
    have h2:=i b (by simp[sh1]) o f
    rw[f]at a;cases o with
    |row sz es=>
     have k:Zi ((es.drop off).take d)=true:=KF.2 λc j=>KF.1 (XW es a) c<|ZZ8<|ZYI j
     grind [freeze,KP]
    |_=>grind
 |_=>exact MU n _ e
def ZRO{bw:Bool}{h h':Hp}:∀(n:Nat)(l:List AV),ZQ2 h l=true->(∀b∈ZQ1 l,∀o,h[b]?=some o->h'[b]?=some o)->ZC bw h n l=ZC bw h' n l
 |0,l,_,_=>by cases l<;>simp[ZC]
 |n+1,[],_,_=>by simp[ZC]
 |n+1,v::r,hs,hb=>by
  simp[ZQ2]at hs;simp[ZQ1]at hb;simp[ZC,ZRN n v hs.1<|λb h1=>hb b<|.inl h1,ZRO n r hs.2<|λb h1=>hb b<|.inr h1]
def ZTC{bw:Bool}{h h':Hp}(n:Nat)(v:AV)(c:so2 h v=true)(a:∀b∈sh2 v,∀o,h[b]?=some o->h'[b]?=some o):freeze bw h n v=freeze bw h' n v:=by
 cases v with
 |agg cs=>
  cases n with
  |zero=>simp[freeze]
  |succ n=>simp[freeze,ZRO n cs c a]
 |_=>exact ZRN n _ c a
theorem ZRP{bw:Bool}{h h':Hp}:∀(n:Nat)(l:List AV),ZOH h l=true->(∀b∈ZOO l,∀o,h[b]?=some o->h'[b]?=some o)->ZC bw h n l=ZC bw h' n l
 |0,l,_,_=>by cases l<;>simp[ZC]
 |n+1,[],_,_=>by simp[ZC]
 |n+1,v::r,hs,hb=>by
  simp[ZOH]at hs;simp[ZOO]at hb;simp[ZC,ZTC n v hs.1<|λb h1=>hb b<|.inl h1,ZRP n r hs.2<|λb h1=>hb b<|.inr h1]
theorem ZTD{h h':Hp}{args as:List AV}(d:ZOH h args=true)(c:∀b∈ZOO args,∀o,h[b]?=some o->h'[b]?=some o)(a:Ql h args=some as):Ql h' args=some as:=by
 grind [Ql,ZRP]
theorem ZTE(h:Hp)(args:List AV):(ZOy h args).ik=none:=by
 unfold ZOy cRc
 grind
theorem ZTF(h:Hp)(args:List AV):(ZOy h args).wr=none:=by
 unfold ZOy cRc
 grind
def Lc{k f:Nat}{args:List AV}{h2 h':Hp}{v:AV}(e:∀as,Ql h args=some as->Ql h' args=some as)(a:Qm E k true f args h=some (v,h2)):h2=h/\Qm E k true f args h'=some (v,h'):=by
 cases k with
 |zero=>grind [Qm]
 |succ k=>
  simp[Qm]at a⊢;cases b:Ql h args with
  |none=>grind
  |some as=>
   rw[b]at a;dsimp only at a⊢;cases d:Qz E k f as []with
   |none=>grind
   |some p=>
    have⟨u,c⟩:=p;rw[d]at a;cases g:YE c u with
    |none=>grind
    |some x=>
     grind
end Go.AM
namespace Go.AM
open Go
variable [Dr]
variable {P:Program} {E:Env} {T:Ty} {X:Xt} {w:World} {h:Hp} {fr:Fr} {a:Act}
def Gv{k:Nat}{q:AOper}{v:AV}{d:DRec}{b:Option (Nat×AObj)}(j:q.op.isCall=false)(c:ZJ fr q.guard=some true)(a:Zk E (k+1) q fr h=some (v,d,b)):
 Z8 E (Z2 q.op.slots fr) h h.length q.op=some (v,(Z8 E (Z2 q.op.slots fr) h h.length q.op).get!.2.1,b)/\d=QG E (Z2 q.op.slots fr) h q.op b:=by
 have⟨f,i,g⟩:=q;simp[Zk,c]at a;cases i<;>first
  |(simp[AOp.isCall]at j;done)
  |(simp only[ZXt]at a
    have⟨⟨v',rs,e⟩,h1,h2⟩:=a;obtain⟨rfl,rfl,rfl⟩:=h2;exact⟨by rw[h1];rfl,rfl⟩)
theorem ZGC{s:List AV->Nat->List AV->Option (List AV)}{a:Hp}{args:List AV}{r:AV×Option (Nat×AObj)}(c:ZE8 s h args=some r)(d:∀b∈ZEZ args,∀o,h[b]?=some o->a[b]?=some o):ZE8 s a args=some r:=by
 unfold ZE8 at c⊢
 grind [ZEZ]
def Lf{k:Nat}(ih:AllOk P E k){q:AOper}{v:AV}{d:DRec}{wr:Option (Nat×AObj)}(A:Zk E (k+1) q fr h=some (v,d,wr)){u:Fr}{F:Hp}
 (aa:∀t∈q.reads,get u t=get fr t) (ac:q.op.isCall=true->∀(b:Nat)(o:AObj),h[b]?=some o->(d.all=true\/b∈d.rs)->F[b]?=some o) {wrS:Option (Nat×AObj)}
 (an:q.op.isCall=false->ZJ fr q.guard=some true->∃rs aid,aid<=F.length/\T aid=none/\Z8 E (Z2 q.op.slots fr) F aid q.op=some (v,rs,wrS))
 (ab:(q.op.isCall=true\/ZJ fr q.guard=some false)->wrS=wr)
 {N:Nat} {ah:Array Oper} {o:Oper} {O sz:Nat} {ro:Option Nat} {n:Nat} (W:X.cr=Chk P) (hN:N<=sz) (hc:X6 P N ah o q=true) (s:St E T X F w u O sz a) (next:Act->World->Prop) (Q:Exit->Act->World->Prop)
 (hn:∀H a' w',Step T w H w'->St E H X (ZH F wrS) w' (ZB u q.dst v) O sz a'->next a' w'):
 if Region.wanted o (yielded ah a.tmps)=true then o.wpIn (Qa ro) n P a w next Q else(∀f,o.about P w a.eval=some f->(Qa ro).fn f)/\next (a.put o.dst undef) w:=by
 simp[X6]at hc;have⟨⟨hd,hg⟩,i⟩:=hc;have ar:N<=a.tmps.size:=by rw[s.sz];grind
 have ag:ZJ u q.guard=ZJ fr q.guard:=by
  unfold ZJ
  grind [AOper.reads,MN]
 have r:∀t∈q.op.slots,get u t=get fr t:=λt ht=>aa t<|by grind [AOper.reads]
 cases hw:ZJ fr q.guard with
 |none=>grind [Zk]
 |some b=>
  rw[hw]at ag;rw[MM s.f ar hg ag];cases b with
  |false=>
   simp only[Zk,hw,Option.some.injEq,Prod.mk.injEq]at A;obtain⟨rfl,rfl,rfl⟩:=A;cases ab (.inr hw);rw[if_neg<|by simp]
   exact⟨λ_ _=>VK _ _,hn T _ w (.refl _ _)<|Gi s hN hd (.refl _ _) s.c.m ⟨#[],rfl,rfl⟩⟩
  |true=>
   rw[if_pos rfl];refine⟨λ_ _=>VK _ _,?_⟩
   have C:∀{rv:Value}{H:Ty}{w':World},Step T w H w'->M H X (ZH F wrS) w'->R H X w' v rv->next (a.put o.dst rv) w':=by
    intro rv H w' K m L;exact hn H _ w' K<|Gi s hN hd K m L
   cases l:q.op.isCall with
   |false=>
    have i:Gb P o.op q.op=true:=by
     have⟨al,op,gd⟩:=q;cases op<;>first|exact i|cases l
    have am:∀c,o.op≠.defer c:=λc e=>by grind [L0]
    rw[Oper.semAt_eq _ _ _ am];have af:FrR T X w (Z2 q.op.slots fr) a.tmps:=by
     intro t;rw[L3];split
     .next ht=>rw[<-r t ht];exact s.f t
     .trivial
    have⟨rs,aid,k1,k2,k3⟩:=an l hw;have⟨H,w',rv,j,K,V,L⟩:=MZ s.c af k1 k2 i k3;rcases j with j|⟨j,rfl⟩
    .rw[j];exact C K V L
    .rw[j];exact C K V L
   |true=>
    cases ab (.inl l);have G:=ac l;have⟨al,op,gd⟩:=q;cases op<;>try (simp[AOp.isCall]at l;done)
    case apa sz1 bytes x1 x2=>simp_all[Zk,Z8]
    case call p f args=>
     have i:Wx o.op (.call p f args)=true:=i;simp only[Zk,hw]at A;cases p with
     |false=>
      rw[cond_false]at A;cases ak:E.rs f with
      |none=>grind
      |some sf=>
       rw[ak]at A;simp only[ZEn,ZXt,Prod.mk.injEq]at A;obtain⟨⟨v',ad⟩,hr,rfl,rfl,rfl⟩:=A;have z:args.map (ev E u)=args.map (ev E fr):=Lb r;have B:ZE8 sf F (args.map<|ev E u)=some (v',ad):=by
        grind [ZGC]
       cases ho:o.op<;>rw[ho]at i<;>try (simp[Wx]at i;done)
       next c=>
       simp only[Wx,ZXf]at i;have⟨D,J⟩:=i;rw[Oper.semAt_eq _ _ _<|λc e=>by grind]
       have S:c.callee=.value (.func f):=by
        grind
       have j:(execOp a.eval o).run P w=(callFunc f<|(#[]++c.args.map a.eval)++#[]).run P w:=by
        grind [execOp,resolve,Act.eval,Deferred.ofValue,invoke]
       rw[j];have Z:=VF (a:=a) s.c.gl s.f J;have:=ih.rsum f sf ak _ F v' ad B T X w ((#[]++c.args.map a.eval)++#[]) W s.c<|by simp_all
       refine this.upon ?_;rintro rv w' ⟨H,K,V,L⟩
       grind
     |true=>
      rw[cond_true]at A;split at A
      .next v' h2 hr=>
       simp only[Option.some.injEq,Prod.mk.injEq]at A;obtain⟨rfl,rfl,rfl⟩:=A;have U:∀as,Ql h (args.map<|ev E fr)=some as->Ql F (args.map<|ev E fr)=some as:=by
        cases aj:Zi (args.map<|ev E fr)with
        |true=>exact λas=>Tf<|.inl aj
        |false=>
         cases av:ZOH h (args.map<|ev E fr)with
         |true=>grind [ZTD,ZOy,cRc]
         |false=>exact λas=>Tf<|.inr λb ob hb=>G b ob hb<|.inl<|by grind [ZOy,cRc]
       have⟨_,B⟩:=Lc U hr;have z:args.map (ev E u)=args.map (ev E fr):=Lb r;rw[<-z]at B;cases ho:o.op<;>rw[ho]at i<;>try (simp[Wx]at i;done)
       next c=>
       simp only[Wx,ZXf]at i;have⟨D,J⟩:=i;rw[Oper.semAt_eq _ _ _<|λc e=>by grind]
       have S:c.callee=.value (.func f):=by
        grind
       have j:(execOp a.eval o).run P w=(callFunc f<|(#[]++c.args.map a.eval)++#[]).run P w:=by
        grind [execOp,resolve,Act.eval,Deferred.ofValue,invoke]
       rw[j];have Z:=VF (a:=a) s.c.gl s.f J;have:=ih.call true f _ F v' F B T X w ((#[]++c.args.map a.eval)++#[]) W s.c<|by simp_all
       refine this.upon ?_;rintro rv w' ⟨H,K,V,L⟩;exact C K V L
      grind
    case callv p x args=>
     have i:Wx o.op (.callv p x args)=true:=i;simp only[Zk,hw]at A;cases p with
     |false=>grind
     |true=>
      rw[cond_true]at A;split at A
      .next g first cap hx=>
       split at A
       .next v' h2 hr=>
        simp only[Option.some.injEq,Prod.mk.injEq]at A;obtain⟨rfl,rfl,rfl⟩:=A;have U:Zi (first++args.map (ev E fr)++cap)=true\/Le h F:=by
         cases aj:Zi (first++args.map (ev E fr)++cap)with
         |true=>grind
         |false=>exact .inr λb ob hb=>G b ob hb<|.inl<|by grind
        have⟨_,B⟩:=Lc (λas=>Tf U) hr
        have z:args.map (ev E u)=args.map (ev E fr):=Lb<|λt ht=>r t<|by grind [AOp.slots]
        have aq:ev E u x=ev E fr x:=La<|λt ht=>r t<|by grind [AOp.slots]
        rw[<-z]at B;cases ho:o.op<;>rw[ho]at i<;>try (simp[Wx]at i;done)
        next c=>
        simp only[Wx,ZXf]at i;have⟨D,J⟩:=i;rw[Oper.semAt_eq _ _ _<|λc e=>by grind]
        split at D
        .next y ac=>
         have j:(execOp a.eval o).run P w=(do let d <-Deferred.ofValue (a.eval y) (c.args.map a.eval);invoke d.target d.args:Sem Next).run P w:=by
          grind [execOp,resolve]
         have ae:=evR s.c.gl s.f D;rw[aq,hx]at ae;have⟨f1,c1,ap,q1,q2⟩:=ae;have Y:(do let d <-Deferred.ofValue (.func (.func g) f1 c1) (c.args.map a.eval);invoke d.target d.args:Sem Next).run P w=(callFunc g<|(f1++c.args.map a.eval)++c1).run P w:=by
          grind [Deferred.ofValue,invoke]
         rw[j,ap,Y];have Z:=VF (a:=a) s.c.gl s.f J;have au:=QR (QR q1 Z) q2;have:=ih.call true g _ F v' F B T X w ((f1++c.args.map a.eval)++c1) W s.c<|by simp_all
         refine this.upon ?_;rintro rv w' ⟨H,K,V,L⟩;exact C K V L
        grind
       grind
      grind
def Tg{a:AOp}{p:AV×AV}(d:Wm E fr h a=some p):∃ag kk m k v b c vs,a=.ins ag kk m k v/\ev E fr m=.mp b/\h[b]?=some (.map c vs)/\ZW ag kk (ev E fr k) c 0=some none/\p=(ev E fr k,ev E fr v):=by
 cases a<;>simp[Wm]at d
 grind
def Th{a:AOp}{b:Option (Nat×AObj)}(c:(QG E fr h a b).ik=none):QG E fr h a b=⟨false,opT E fr a,b.map (·.1),none⟩:=by
 grind [QG]
def Ti{a:AOp}{b:Option (Nat×AObj)}{p:AV×AV}(c:(QG E fr h a b).ik=some p):Wm E fr h a=some p/\QG E fr h a b=⟨false,[],b.map (·.1),some p⟩:=by grind [Wm,QG]
def Tj{ag:Bool}{kk:List Nat}{b:Nat}{a vs:List AV}{k v:AV}{r:Zt}(d:ZW ag kk k a 0=some none)(c:Yo ag kk b a vs k v=some r):
 (∃e,Zz ag kk k k=some e)/\r=(.bot,[b],some (b,.map (a++[k])<|vs++[v])):=by grind [Yo]
theorem Lg{k:Nat}{q:AOper}{v:AV}{d:DRec}{w:Option (Nat×AObj)}(a:Zk E k q fr h=some (v,d,w)){c l:AV}(s:d.ik=some (c,l)):
 ∃ag kk m r n b j vs e,q.op=.ins ag kk m r n/\ZJ fr q.guard=some true/\ev E (Z2 q.op.slots fr) m=.mp b/\c=ev E (Z2 q.op.slots fr) r/\l=ev E (Z2 q.op.slots fr) n/\h[b]?=some (.map j vs)/\ZW ag kk c j 0=some none/\
  Zz ag kk c c=some e/\v=.bot/\w=some (b,.map (j++[c])<|vs++[l])/\d=⟨false,[],some b,some (c,l)⟩:=by
 cases k with
 |zero=>grind [Zk]
 |succ k=>
  cases o:ZJ fr q.guard with
  |none=>grind [Zk]
  |some F=>
   cases F with
   |false=>
    simp[Zk,Prod.mk.injEq]at a
    grind
   |true=>
    cases A:q.op.isCall with
    |true=>
     have⟨B,D,g⟩:=q;cases D<;>try (simp[AOp.isCall]at A)
     case apa sz1 bytes x1 x2=>simp_all[Zk,Z8]
     case call p f args=>
      simp[Zk,o]at a;cases p with
      |false=>
       rw[cond_false]at a;cases t:E.rs f with
       |none=>grind
       |some L=>
        rw[t]at a;simp only[ZEn,ZXt,Prod.mk.injEq]at a
        grind
      |true=>
       rw[cond_true]at a
       grind [ZTE]
     case callv p x args=>
      simp only[Zk,o]at a
      grind
    |false=>
     have⟨h1,h2⟩:=Gv A o a;subst h2;have⟨H,J⟩:=Ti s;have⟨ag,kk,m,r,n,b,j,vs,u,z,G,y,C⟩:=Tg H;cases C;generalize(Z8 E (Z2 q.op.slots fr) h h.length q.op).get!.2.1=rs at h1;have i:=h1;rw[u]at i;rw[u]at z y;simp only[Z8,z,G]at i;have⟨⟨e,K⟩,q7⟩:=Tj y i
     grind
def Tk{k:Nat}(q:AOper)(fr:Fr)(h:Hp)(v:AV)(d:DRec)(a:Option<|Nat×AObj)(e:Zk E k q fr h=some (v,d,a)):U1 d a h:=by
 intro c f b
 grind [Lg]
def Tl{k:Nat}(J:AllOk P E k){q:AOper}{v:AV}{d:DRec}{x:Option (Nat×AObj)}(G:Zk E (k+1) q fr h=some (v,d,x))(M:d.ik=none){l:Fr}{i:Hp}
 (u:∀t∈q.reads,get l t=get fr t) (e:∀(b:Nat)(o:AObj),h[b]?=some o->(d.all=true\/b∈d.rs)->i[b]?=some o) (y:h.length<=i.length)
 (C:∀o,x=some (h.length,o)->i[h.length]?=none\/i[h.length]?=some .dead)
 {N:Nat} {A:Array Oper} {o:Oper} {g sz:Nat} {ro:Option Nat} {n:Nat} (D:X.cr=Chk P) (K:N<=sz) (V:X6 P N A o q=true) (s:St E T X i w l g sz a) (next:Act->World->Prop) (Q:Exit->Act->World->Prop)
 (O:∀F H w',Step T w F w'->St E F X (ZH i x) w' (ZB l q.dst v) g sz H->next H w'):
 if Region.wanted o (yielded A a.tmps)=true then o.wpIn (Qa ro) n P a w next Q else(∀f,o.about P w a.eval=some f->(Qa ro).fn f)/\next (a.put o.dst undef) w:=by
 refine Lf J G u (λ_ b o U z=>e b o U z) (wrS:=x) ?_ (λ_=>rfl) D K V s next Q O
 .intro j L;have⟨h1,h2⟩:=Gv j L G;have B:=h2;rw[Th<|by grind]at B
  have S:Z8 E (Z2 q.op.slots fr) i h.length q.op=Z8 E (Z2 q.op.slots fr) h h.length q.op:=by
   grind [Bv,Bw]
  generalize(Z8 E (Z2 q.op.slots fr) h h.length q.op).get!.2.1=rs at h1;rw[<-S]at h1;by_cases r:x.map (·.1)=some h.length
  .cases x with
   |none=>grind
   |some p=>
    have⟨b,R⟩:=p;simp[Option.some.injEq]at r;subst r;exact⟨rs,h.length,y,JR s.c.m<|C R rfl,h1⟩
  .exact⟨rs,i.length,ZXh _,Gn s.c.m,Td h1 r⟩
def Tm{k:Nat}(W:AllOk P E k){q:AOper}{v:AV}{d:DRec}{S:Option (Nat×AObj)}(R:Zk E (k+1) q fr h=some (v,d,S)){j x:AV}(F:d.ik=some (j,x)){r:Fr}{l:Hp}
 (u:∀t∈q.reads,get r t=get fr t) {b:Nat} {o:AObj} (H:S=some (b,o)) {g i:List AV} (hb:l[b]?=some (.map g i))
 (hf:∀ag kk e,Zz ag kk j j=some e->(∃C vs,h[b]?=some (.map C vs)/\ZW ag kk j C 0=some none)->ZW ag kk j g 0=some none)
 {N:Nat} {A:Array Oper} {y:Oper} {p sz:Nat} {ro:Option Nat} {n:Nat} (J:X.cr=Chk P) (hN:N<=sz) (hc:X6 P N A y q=true) (s:St E T X l w r p sz a) (next:Act->World->Prop) (Q:Exit->Act->World->Prop)
 (hn:∀O U w',Step T w O w'->St E O X (setH l b<|.map (g++[j])<|i++[x]) w' (ZB r q.dst v) p sz U->next U w'):
 if Region.wanted y (yielded A a.tmps)=true then y.wpIn (Qa ro) n P a w next Q else(∀f,y.about P w a.eval=some f->(Qa ro).fn f)/\next (a.put y.dst undef) w:=by
 have⟨ag,kk,m,M,L,b',C,vs,e,K,q2,q3,q4,q5,q6,q7,V,Z,z,aa⟩:=Lg R F;rw[H]at z;cases z;have B:q.op.isCall=false:=by rw[K];rfl
 refine Lf W R u (λD=>by grind) (wrS:=some (b,.map (g++[j])<|i++[x])) ?_ ?_ J hN hc s next Q hn
 .intro _ _;refine⟨[b],l.length,ZXh _,Gn s.c.m,?_⟩;have G:=hf ag kk e V ⟨C,vs,q6,q7⟩;have Y:Z8 E (Z2 q.op.slots fr) l l.length (.ins ag kk m M L)=Yo ag kk b g i j x:=by
   simp_all[Z8]
  have e2:Yo ag kk b g i j x=some (.bot,[b],some (b,.map (g++[j])<|i++[x])):=by
   unfold Yo;rw[V,G]
  have e3:Z8 E (Z2 q.op.slots fr) l l.length q.op=Z8 E (Z2 q.op.slots fr) l l.length (.ins ag kk m M L):=by rw[K]
  rw[e3,Y,e2,Z]
 grind
end Go.AM
namespace Go.AM
open Go
variable [Dr]
variable {P:Program} {E:Env} {T:Ty} {X:Xt} {w:World} {h:Hp} {fr:Fr} {a:Act}
def Gw(d:Option AObj):Prop:=∀k v,KT k v d=d
theorem Lh{S:Nat->Bool}{b:Nat}:∀(rs:List Rc)(i:Nat)(d a:Option AObj),d=a\/(Gw d/\Gw a)->LF S b i rs d=LF S b i rs a\/(LF S b i rs d=d/\LF S b i rs a=a):=by
 intro rs;induction rs with
 |nil=>intro i d a _;exact .inr ⟨rfl,rfl⟩
 |cons r rs h=>
  intro i d a g;rcases g with rfl|⟨h1,h2⟩
  .grind
  .simp[LF];by_cases j:S i=true
   .by_cases f:YT b r
    .have⟨o,e⟩:=f;cases c:r.d.ik with
     |none=>simp_all[VL]
     |some k=>
      rw[VM e c,VM e c,h1,h2]
      grind
    grind [V7]
   grind
theorem Li{S:Nat->Bool}{b:Nat}:∀(rs:List Rc)(i:Nat)(d:Option AObj),(d.isSome=true\/∃k r,rs[k]?=some r/\S (i+k)=true/\YT b r/\r.d.ik=none)->(LF S b i rs d).isSome=true:=by
 intro rs;induction rs with
 |nil=>
  intro i d a;rcases a with a|⟨k,r,hk,_⟩
  .exact a
  grind
 |cons r rs c=>
  intro i d a;refine c (i+1) _ ?_;rcases a with a|⟨k,r',hk,hS,⟨o,hw⟩,hik⟩
  .left;split
   .unfold gW;split
    .split
     .split
      .unfold KT;split<;>first|rfl|grind
      .rfl
     grind
    grind
   grind
  .cases k with
   |zero=>
    simp_all[VL]
   |succ k=>exact .inr ⟨k,r',by grind,by grind,⟨o,hw⟩,hik⟩
def Rx(c d:Option AObj):Prop:=d=c\/c=none\/∃a b e vs,c=some (.map a b)/\d=some (.map e vs)/\∀x∈e,x∈a
def Tn{S0 S:Nat->Bool}{b:Nat}:∀(rs:List Rc)(i:Nat)(g d:Option AObj),(∀k r,rs[k]?=some r->YT b r->S0 (i+k)=true/\(S (i+k)=true\/∃p,r.d.ik=some p))->Rx g d->Rx (LF S0 b i rs g) (LF S b i rs d):=by
 intro rs;induction rs with
 |nil=>intro i g d _ h;exact h
 |cons r rs n=>
  intro i g d l m;refine n (i+1) _ _ (λk s t e=>by have:=l (k+1) s (by grind) e;grind) ?_
  by_cases e:YT b r
  .have⟨j,h1⟩:=l 0 r rfl e;rw[ZYb]at j h1;rw[if_pos j];have⟨o,c⟩:=e;cases a:r.d.ik with
   |none=>
    rcases h1 with h1|⟨p,hp⟩
    .rw[if_pos h1,VL c a,VL c a];exact .inl rfl
    grind
   |some u=>
    rw[VM c a];split
    .rw[VM c a];rcases m with rfl|rfl|⟨ks0,vs0,ks,vs,rfl,rfl,hs⟩
     .exact .inl rfl
     .exact .inr<|.inl rfl
     .refine .inr (.inr ⟨_,_,_,_,rfl,rfl,λx f=>?_⟩)
      grind
    .rcases m with rfl|rfl|⟨ks0,vs0,ks,vs,rfl,rfl,hs⟩
     .cases d with
      |none=>exact .inr<|.inl rfl
      |some q=>
       cases q<;>first|exact .inl rfl|exact .inr<|.inr ⟨_,_,_,_,rfl,rfl,λx f=>ZY9.2<|.inl f⟩
     .exact .inr<|.inl rfl
     .exact .inr<|.inr ⟨_,_,_,_,rfl,rfl,λx f=>ZY9.2<|.inl<|hs x f⟩
  grind [V7]
def To{S:Nat->Bool}{b:Nat}{Pk:AV->Prop}:∀(rs:List Rc)(i:Nat),(∀k r,rs[k]?=some r->S (i+k)=true->YT b r->∃e g,r.d.ik=some (e,g)/\Pk e)->
 ∃K V,K.length=V.length/\(∀x∈K,Pk x)/\∀a vs,LF S b i rs (some<|.map a vs)=some (.map (a++K)<|vs++V):=by
 intro rs;induction rs with
 |nil=>intro i _;exact⟨[],[],rfl,λx p=>(by grind),λa vs=>by simp[LF]⟩
 |cons r rs m=>
  intro i j;have⟨K,V,h1,h2,n⟩:=m (i+1)<|λk q s h c=>j (k+1) q (by grind) (by grind) c
  by_cases h:S i=true
  .by_cases c:YT b r
   .have⟨e,g,f,t⟩:=j 0 r rfl h c;have⟨o,l⟩:=c;refine⟨e::K,g::V,by grind,λx p=>?_,λa vs=>?_⟩
    .grind
    .simp[LF,h,VM l f,KT,n,List.singleton_append]
   .exact⟨K,V,h1,h2,λa vs=>by simp_all[LF,V7]⟩
  grind [LF]
theorem Tp{ag:Bool}{kk:List Nat}{k:AV}:∀{l:List AV}{n:Nat},ZW ag kk k l n=some none↔∀x∈l,Zz ag kk k x=some false:=by
 intro l;induction l with
 |nil=>grind [ZW]
 |cons a l b=>
  simp[ZW]
  grind
theorem Tq{ag:Bool}{kk:List Nat}{k x:AV}{e:Bool}(d:Zz ag kk k k=some e)(f:YF x k=true):Zz ag kk k x=some false:=by
 cases ag with
 |true=>cases k<;>first|(simp[Zz]at d;done)|grind [YF]
 |false=>
  simp[Zz]at d⊢;cases kk with
  |nil=>grind [ZE]
  |cons c kk=>
   cases kk with
   |cons _ _=>
    simp[ZE]at d;cases h1:eq1 c k k<;>simp[h1]at d
   |nil=>
    simp[ZE]at d⊢;cases k<;>cases x<;>(first|(simp[YF]at f;done)|skip)
    case int.int k1 a j b=>
     simp[YF,ne_eq]at f;rcases c with _|_|_|c<;>simp[eq1]at d⊢
     grind
    case str.str a b=>
     simp only[YF,ZXM]at f;have g:Z3 a b=false:=by
      rw[ZYH]at f⊢
      grind [Ky]
     rcases c with _|_|_|c<;>simp[eq1]at d⊢
     grind
def Gx:∀{as b:List AV}{us vs:List Value},as.length=us.length->Rs T X w (as++b) (us++vs)->Rs T X w as us/\Rs T X w b vs:=by
 intro as;induction as with
 |nil=>
  intro b us vs f h;cases us with
  |nil=>exact⟨rfl,h⟩
  |cons _ _=>grind
 |cons a as c=>
  intro b us vs f h;cases us with
  |nil=>grind
  |cons u us=>
   have⟨v,i,h1,h2,d⟩:=h;obtain⟨rfl,rfl⟩:=h1;have⟨e,g⟩:=c (by grind) d
   exact⟨⟨u,us,rfl,h2,e⟩,g⟩
def Tr{b K i V:List AV}{k v:AV}{c:Option TC}(h1:b.length=i.length)(h2:K.length=V.length)(f:YR T X w (some<|.map ((b++K)++[k])<|(i++V)++[v]) c):
 YR T X w (some<|.map (b++k::K)<|i++v::V) c:=by
 cases c with
 |none=>exact f
 |some c=>
  cases c with
  |map r=>
   have⟨es,a,l,s,L,E,j,p⟩:=f;have o:=Qr j;obtain⟨h,e,rfl,F⟩:∃h e,l=h++e/\h.length=b.length:=⟨l.take b.length,l.drop b.length,(ZYe _ _).symm,by grind⟩
   obtain⟨g,n,rfl,H⟩:∃g n,e=g++n/\g.length=K.length:=⟨e.take K.length,e.drop K.length,(ZYe _ _).symm,by grind⟩
   obtain⟨x,rfl⟩:∃x,n=[x]:=List.length_eq_one_iff.1<|by grind
   simp only[ZXx,ZY0]at j p;have⟨B,t⟩:=Gx (by grind) j
   have⟨G,z⟩:=Gx (by grind) t
   have⟨y,C⟩:=Gx (by grind) p
   have⟨q,D⟩:=Gx (by grind) C
   refine⟨es,a,h++x::g,s,?_,?_,?_,?_⟩
   .grind
   .refine List.Perm.trans ?_ E
    grind [List.Perm.append_left,List.perm_append_comm]
   .simp only[ZXx,ZXn];have⟨u,A,d,m,J⟩:=z;simp only[ZXn,ZXD,List.cons.injEq]at d;obtain⟨rfl,rfl⟩:=d;exact QR B ⟨_,_,rfl,m,G⟩
   .simp only[ZXx,ZXn];have⟨u,A,d,m,J⟩:=D;simp only[ZXn,ZXD,List.cons.injEq]at d;obtain⟨rfl,rfl⟩:=d;exact QR y ⟨_,_,rfl,m,q⟩
  |row _ _ _ _ _=>exact f
  |iter _=>exact f
  |loop _=>exact f
def Ts{b:Nat}{a K c V:List AV}{k v:AV}(m:M T X (setH h b<|.map ((a++K)++[k])<|(c++V)++[v]) w)(d:b<h.length)(h1:a.length=c.length)(h2:K.length=V.length):
 M T X (setH h b<|.map (a++k::K)<|c++v::V) w where
 inj:=m.inj
 lt:=m.lt
 notX:=m.notX
 obj b':=by
  have:=m.obj b';rw[Ks h b _<|ZYg d]at this⊢;by_cases e:b'=b
  all_goals simp_all[Tr]
theorem Gy{k:Nat}{q:AOper}{v:AV}{d:DRec}{j:Option (Nat×AObj)}(a:Zk E k q fr h=some (v,d,j)):d.wr=j.map (·.1):=by
 cases k with
 |zero=>grind [Zk]
 |succ k=>
  cases e:ZJ fr q.guard with
  |none=>grind [Zk]
  |some b=>
   cases b with
   |false=>simp[Zk]at a;grind
   |true=>
    cases i:q.op.isCall with
    |false=>obtain⟨_,rfl⟩:=Gv i e a;unfold QG;split<;>rfl
    |true=>
     have⟨l,m,g⟩:=q;cases m<;>try (simp[AOp.isCall]at i)
     case apa sz1 bytes x1 x2=>simp_all[Zk,Z8]
     case call p f args=>
      simp[Zk,e]at a;cases p with
      |false=>
       rw[cond_false]at a;cases c:E.rs f with
       |none=>grind
       |some n=>
        rw[c]at a;simp[ZEn,Prod.mk.injEq]at a
        grind
      |true=>
       grind [ZTF]
     case callv p x args=>
      simp[Zk]at a
      grind
def Tt{N:Nat}{b:Array Oper}:∀{os:List Oper}{a:List AOper},X7 P N b os a=true->os.length=a.length/\∀(i:Nat)(o:Oper)(q:AOper),os[i]?=some o->a[i]?=some q->X6 P N b o q=true:=by
 intro os;induction os with
 |nil=>
  intro a c;cases a with
  |nil=>grind
  |cons _ _=>grind [X7]
 |cons o os d=>
  intro a c;cases a with
  |nil=>grind [X7]
  |cons q a=>
   simp[X7]at c
   grind
def Lj:∀{os:List Oper}{k:Nat},KO k os=true->∀i o,os[i]?=some o->∀e∈o.after,Region.binds .any e=true->e.on<k+i:=by
 intro os;induction os with
 |nil=>grind
 |cons o os d=>
  intro k a i g c e f b;simp only[KO,ZXf,ZXs]at a;cases i with
  |zero=>
   simp[Option.some.injEq]at c;have:=a.1 e<|by grind
   simp_all
  |succ i=>
   grind
def Tu{b:List Nat}{c:List AOper}:∀{a:List AOper}{us:List (List Nat)}{k:Nat},JZ b c k a us=true->∀i q u,a[i]?=some q->us[i]?=some u->Rn (b.getD (k+i) 0) c (k+i) q u=true:=by
 intro a;induction a with
 |nil=>grind
 |cons q a e=>
  intro us k d i h u g f;cases us with
  |nil=>grind
  |cons j us=>
   simp[JZ]at d
   grind
def lis(a:Array Bool)(k:Nat):Bool:=a.getD k false
def X8{a:Array Bool}{i:Nat}(b:i<a.size)(k:Nat):lis (a.setIfInBounds i true) k=if k=i then true else lis a k:=by
 unfold lis;by_cases e:k=i
 .simp_all
 .rw[if_neg e,ZYC,ZZP<|λx=>e x.symm,<-ZYC]
theorem KU{b:Array Oper}{a:Array Bool}(c:a.size=b.size){i:Nat}:i∈Region.ready .any b a↔lis a i=false/\∃o,b[i]?=some o/\∀e∈o.after,Region.binds .any e=true->lis a e.on=true:=by
 grind [mem_ready,lis]
def Tv{c:Array Oper}{N t sz n:Nat}{ro:Option Nat}(U:X.cr=Chk P)(hN:N<=sz)(A:KO 0 c.toList=true):∀(k:Nat),(∀j,j<k->AllOk P E j)->∀(l:List AOper)(g d:Nat)(b:Array Bool)(T:Ty)(a:Act)(w:World)(fr:Fr)(h:Hp)(fr':Fr)(h':Hp)(Q:Exit->Act->World->Prop),
 g+l.length=c.size->(∀(i:Nat)(o:Oper)(q:AOper),c[g+i]?=some o->l[i]?=some q->X6 P N c o q=true)->(∀i,g<=i->i<c.size->∀j,j<i->((YS c.toList []).getD i 0).testBit j=true)->
 b.size=c.size->(∀j,lis b j=decide (j<g))->ZS E k l fr h=some (fr',h')->St E T X h w fr t sz a->l.length<=d->
 (∀Z a' w',Step T w Z w'->St E Z X h' w' fr' t sz a'->Q .normal a' w')->wpAnyIn (Qa ro) n P .any c Q d b a w:=by
 intro k;induction k with
 |zero=>grind [ZS]
 |succ k ih=>
  intro x l g d b T a w fr h fr' h' Q D v u m y C s z hq;have K:∀i o,c[i]?=some o->∀e∈o.after,Region.binds .any e=true->e.on<i:=λi o B e C W=>by
   have:=Lj A i o (by grind) e C W
   omega
  cases l with
  |nil=>
   obtain⟨rfl,rfl⟩:=C;refine wpAnyIn_done ?_ (hq T a w (.refl _ _) s) d;refine List.eq_nil_iff_forall_not_mem.2 λi M=>?_
   have⟨h1,o,B,_⟩:=(KU m).1 M
   grind
  |cons q r=>
   simp only[ZXw]at D z;obtain⟨d,rfl⟩:∃f,d=f+1:=⟨d-1,by omega⟩
   have p:Closed c (lis b):=by
    intro i o B M e S W
    grind
   have J:g<c.size:=by omega
   have L:g∈Region.ready .any c b:=(KU m).2 ⟨by grind,c[g],ZYW J,λe S W=>by
    grind⟩
   refine⟨λh0=>by grind,λi M=>?_⟩
   have⟨h1,o,B,h2⟩:=(KU m).1 M;have G:=(ZYd.1 B).1;have Y:i=g:=by
    rw[y i]at h1;simp only[decide_eq_false_iff_not]at h1;by_cases e:i=g
    .grind
    .have:=Gu p i o B h2 g (u i (by omega) G g<|by omega)
     grind
   subst Y;simp only[ZS]at C;split at C
   .next F H R=>
    unfold wpOpIn;simp only[B];refine(x k<|by omega).op q fr h F H R T X w a N c o t sz ro n U hN (v 0 o q (by grind) rfl) s _ Q ?_
    intro T1 a1 w1 O s1;refine ih (λj hj=>x j<|by omega) r (i+1) d (b.setIfInBounds i true) T1 a1 w1 F H fr' h' Q (by omega) ?_ ?_ (by grind) ?_ C s1 (by omega) ?_
    .intro j o' q' aa ab;exact v (j+1) o' q' (by grind)<|by grind
    .grind
    .intro j;rw[X8 (by omega),y]
     grind
    .intro T2 a2 w2 V s2;exact hq T2 a2 w2 (O.trans V) s2
   grind
end Go.AM
namespace Go.AM
open Go
variable [Dr]
variable {P:Program} {E:Env} {T:Ty} {X:Xt} {w:World} {h:Hp} {fr:Fr} {a:Act}
structure Chks(P:Program)(N:Nat)(ops:Array Oper)(un:List<|List Nat)(p1 p2:List AOper):Prop where
 mix:P.follows .mixedOrders=true
 back:KO 0 ops.toList=true
 len:ops.size=p1.length+p2.length
 op1:∀(i:Nat)(o:Oper)(q:AOper),ops[i]?=some o->p1[i]?=some q->X6 P N ops o q=true
 op2:∀(i:Nat)(o:Oper)(q:AOper),ops[p1.length+i]?=some o->p2[i]?=some q->X6 P N ops o q=true
 un:∀(i:Nat)(q:AOper)(u:List Nat),p1[i]?=some q->un[i]?=some u->∀j,j<i->((YS ops.toList []).getD i 0).testBit j=true\/∃x,p1[j]?=some x/\(j∈u\/(X3 x.op=true/\X3 q.op=true))/\XZ x q=true
 later:∀i,p1.length<=i->i<ops.size->∀j,j<i->((YS ops.toList []).getD i 0).testBit j=true
def Tw{N:Nat}{a:Array Oper}{g:List (List Nat)}{c d:List AOper}(h:Gj P N a g c d=true):Chks P N a g c d:=by
 simp[Gj,List.mem_range]at h;obtain⟨⟨⟨⟨h1,h2⟩,h3⟩,h4⟩,h5⟩:=h;have⟨p,f⟩:=Tt h3;have b:a.size=c.length+d.length:=by grind
 refine⟨h1,h2,b,λi o q l e=>?_,λi o q l e=>?_,λi q u e m j n=>?_,λi r k j n=>?_⟩
 .exact f i o q (by grind)<|by grind
 .exact f (c.length+i) o q (by grind)<|by grind
 .have:=Tu h4 i q u e m;simp[Rn,ZZ9]at this
  grind
 .have:=h5 (i-c.length) (by omega)
  grind [MO]
theorem Lk{x y:AOper}(b:XZ x y=true){t:Nat}(a:x.dst=some t):t ∉ y.reads/\y.dst≠some t:=by grind [XZ]
theorem Tx{x y:AOper}(b:XZ x y=true){t:Nat}(a:y.dst=some t):t ∉ x.reads:=by grind [XZ]
def Qs(a:Hp)(L b:Nat):Option AObj:=(a[b]?).or (if b<L then some .dead else none)
theorem Ry{r:Rc}{t:Nat}(a:(fD t r).isSome=true):r.dst=some t:=by
 grind [fD]
structure At(rc:List Rc)(fr0:Fr)(h0:Hp)(L:Nat)(S:Nat->Bool)(fr:Fr)(h:Hp):Prop where
 fr:∀t,get fr t=LW S (fD t) 0 rc (get fr0 t)
 hp:∀b,h[b]?=LF S b 0 rc (Qs h0 L b)
 len:h.length=L
theorem Ll(a:Hp)(L b:Nat):Qs a L b=a[b]?\/(Gw (Qs a L b)/\Gw (a[b]?)):=by
 unfold Qs;cases a[b]? with
 |some o=>grind
 |none=>
  right;refine⟨λk v=>?_,λk v=>rfl⟩
  split<;>rfl
def Tz(a:Hp)(L b:Nat):Rx (a[b]?) (Qs a L b):=by
 unfold Qs;cases a[b]? with
 |some o=>exact .inl rfl
 |none=>exact .inr<|.inl rfl
theorem Lm{c:AOp}{aid:Nat}{v:AV}{rs:List Nat}{b:Option (Nat×AObj)}(d:X3 c=true)(a:Z8 E fr h aid c=some (v,rs,b)):b=none:=by
 have f:∀{o:Option AV},Zl o=some (v,rs,b)->b=none:=by
  grind [ZY]
 have e:∀{o:Option AV}{g:AV->AV}{r:List Nat},o.map (λv=>(g v,r,(none:Option<|Nat×AObj)))=some (v,rs,b)->b=none:=by
  simp_all
 cases c<;>first|(simp[X3]at d;done)|(simp only[Z8]at a;exact f a)|skip
 case bsl fz ex sz z len ps=>
  simp only[X3]at d;subst d;simp only[Z8,cond_true]at a
  grind
 all_goals simp only[Z8,QW,X1,Bool.cond_eq_ite]at a
 all_goals repeat' (first|exact f a|exact e (g:=λv=>v) a|exact e (g:=λv=>.tup [v,.bool true]) a|(cases a;rfl)|(cases a;done)|(split at a))
section
variable {kk:Nat} {fr0:Fr} {h0:Hp} {p1 p2:List AOper} {un:List (List Nat)} {rc:List Rc} {fr1:Fr} {h1:Hp} {ops:Array Oper} {N:Nat} {S:Nat→Bool}
theorem Ln{k:Nat}{q:AOper}{v:AV}{d:DRec}{n:Option (Nat×AObj)}(m:X3 q.op=true)(a:Zk E k q fr h=some (v,d,n)):d.wr=none:=by
 rw[Gy a];cases k with
 |zero=>grind [Zk]
 |succ k=>
  have⟨c,e,g⟩:=q;cases j:ZJ fr g with
  |none=>grind [Zk]
  |some b=>
   cases b with
   |false=>grind [Zk]
   |true=>
    cases l:e.isCall with
    |true=>
     cases e<;>try (simp[AOp.isCall]at l)
     case apa sz1 bytes x1 x2=>simp_all[Zk,Z8]
     case call p f args=>
      simp[Zk,j]at a;cases p with
      |false=>
       rw[cond_false]at a;cases i:E.rs f with
       |none=>grind
       |some o=>
        rw[i]at a;simp[Prod.mk.injEq]at a;cases m
      |true=>
       grind
     case callv p x args=>
      simp[Zk]at a
      grind
    |false=>
     have⟨h1,_⟩:=Gv (q:=⟨c,e,g⟩) l j a
     grind [Lm]
theorem TA{x y:DRec}(b:x.wr=none)(a:y.wr=none):Qy x y=true:=by grind [Qy]
theorem KV(b:Run (λo fr h=>Zk E kk o fr h) fr0 h0 p1 un rc fr1 h1){i:Nat}{r:Rc}(m:rc[i]?=some r):∃q u,p1[i]?=some q/\un[i]?=some u/\r.dst=q.dst/\(∃fr h,Zk E kk q fr h=some (r.v,r.d,r.wr))/\(∀j∈u,∃y,rc[j]?=some y/\j<i/\Qy r.d y.d=true):=by
 have a:i<p1.length:=by rw[<-b.len];grind
 have⟨fr,h,l,u,e,c,g,k,_,_,_,_,_,_,_,f⟩:=b.op i p1[i]<|ZXj a
 grind
theorem Lo(a:Run (λo fr h=>Zk E kk o fr h) fr0 h0 p1 un rc fr1 h1){i j:Nat}{r:Rc}(k:rc[i]?=some r){q x:AOper}(f:p1[i]?=some q)(c:p1[j]?=some x){u:List Nat}(e:un[i]?=some u)(b:j<i)(g:j∈u\/(X3 x.op=true/\X3 q.op=true)):
 ∃y,rc[j]?=some y/\Qy r.d y.d=true:=by
 grind [KV,TA,Ln]
def TB(a:Run (λo fr h=>Zk E kk o fr h) fr0 h0 p1 un rc fr1 h1)(c:Chks P N ops un p1 p2)(m:Closed ops S){i:Nat}{o:Oper}(p:ops[i]?=some o)(n:∀e∈o.after,Region.binds .any e=true->S e.on=true){r:Rc}(l:rc[i]?=some r){q:AOper}(b:p1[i]?=some q){j:Nat}(k:j<i):
 S j=true\/∃x y,p1[j]?=some x/\rc[j]?=some y/\XZ x q=true/\Qy r.d y.d=true:=by
 have⟨s,u,g,f,_,_,_⟩:=KV a l;rw[b]at g;rcases c.un i q u b f j k with hb|⟨x,hx,hp,hi⟩
 all_goals grind [Gu,Lo]
theorem TD(c:Run (λo fr h=>Zk E kk o fr h) fr0 h0 p1 un rc fr1 h1)(f:Chks P N ops un p1 p2)(g:Closed ops S){i j:Nat}(v:S i=false)(l:S j=true){r k:Rc}(s:rc[i]?=some r)(b:rc[j]?=some k){q:AOper}(e:p1[j]?=some q)(p:i<j):
 ∃x,p1[i]?=some x/\XZ x q=true/\Qy k.d r.d=true:=by
 have⟨t,u,n,m,_,_,_⟩:=KV c b;rw[e]at n;rcases f.un j q u e m i p with hb|⟨x,hx,hp,hi'⟩
 .have a:j<ops.size:=by have:=(ZXu.1 e).1;rw[f.len];omega
  have:=Gu g j ops[j] (ZYW a) (g j _ (ZYW a) l) i hb
  grind
 grind [Lo]
end
end Go.AM
