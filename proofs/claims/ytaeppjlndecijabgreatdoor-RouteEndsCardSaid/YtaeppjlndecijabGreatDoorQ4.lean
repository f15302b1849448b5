/- From the abstract machine to contracts over typed data. No condition. -/
import Derived.Test.YtaeppjlndecijabGreatDoorQ3
import Derived.Deep.DeepHandedRow
import Derived.ProofKit
import Derived.OpenShut
set_option linter.unusedVariables false
set_option linter.defProp false
set_option linter.unusedSimpArgs false
set_option linter.unusedSectionVars false
namespace Go.AM
open Go
inductive CSh where
 |bool
 |int (k:IntKind)
 |str
 |sl (ag:Bool) (es:List CSh)
 deriving Inhabited
def byC:CSh->Nat
 | .int .i64=>8
 | .str=>16
 | .sl _ _=>24
 |_=>1
def byS(l:List CSh):Nat:=(l.map byC).sum
mutual
def Wc:CSh->AV->Prop
 | .bool,a=>∃b,a=.bool b
 | .int k,a=>∃n,a=.int k n/\(Lit.int k n).wf=true
 | .str,a=>∃s:ByteArray,a=.str s/\s.size<=maxLen
 | .sl ag es,a=>∃xs,a=.isl false false es.length xs/\xs.length*byS es<=reachBytes/\∀x∈xs,(ag=true->∃cs,x=.agg cs/\Wcs es cs)/\(ag=false->Wcs es [x])
def Wcs:List CSh->List AV->Prop
 |[],as=>as=[]
 |s::ss,as=>∃a r,as=a::r/\Wc s a/\Wcs ss r
end
def C0:∀{b:List CSh}{as:List AV},Wcs b as->as.length=b.length
 |[],as,h=>by rw[Wcs]at h;subst h;rfl
 |s::b,as,h=>by
  rw[Wcs]at h;obtain⟨a,r,rfl,_,h2⟩:=h;simp[C0 h2]
def M7:∀{e d:List CSh}{c b:List AV},Wcs e c->Wcs d b->Wcs (e++d) (c++b)
 |[],d,c,b,h1,h2=>by rw[Wcs]at h1;subst h1;exact h2
 |s::ss,d,c,b,h1,h2=>by
  rw[Wcs]at h1;obtain⟨a,r,rfl,f,g⟩:=h1;rw[ZXl,Wcs];exact⟨a,r++b,rfl,f,M7 g h2⟩
def isAgg(P:Program)(t:TypeId):Bool:=match P.underlying t with
 |some (.struct _)|some (.array _ _)=>true
 |_=>false
def Kn(P:Program)(b:TypeId->Option (List CSh)):Nat->List Field->Option (List CSh)
 |_,[]=>some []
 |o,f::fs=>
  if f.offset=o then
   match b f.type with
   |some a=>if a.length=P.cellsOf f.type then(Kn P b (o+P.cellsOf f.type) fs).map (a++·)else none
   |none=>none
  else none
def Y7(P:Program):Nat->TypeId->Option (List CSh)
 |0,_=>none
 |n+1,t=>
  match P.underlying t with
  |some .bool=>some [.bool]
  |some (.int k)=>some [.int k]
  |some .string=>some [.str]
  |some (.slice e)=>match Y7 P n e with
   |some es=>if es.length=P.cellsOf e/\0<es.length/\byS es<=P.bytesOf e then some [.sl (isAgg P e) es]else none
   |none=>none
  |some (.struct fs)=>match Kn P (Y7 P n) 0 fs.toList with
   |some es=>if es.length=P.cellsOf t then some es else none
   |none=>none
  |some (.array m e)=>match Y7 P n e with
   |some es=>if es.length=P.cellsOf e/\m*es.length=P.cellsOf t then some ((List.replicate m es).flatten)else none
   |none=>none
  |_=>none
section
variable {H:Type} {enc:TypeId×Value→H} {P:Program} {w:World}
def T0:Ty:=λ_=>none
def JM(r:Nat):¬T0.rng r:=by rintro⟨b,c,h,_⟩;cases h
def X0(P:Program):Xt:=⟨λ_=>False,Chk P⟩
mutual
def Z5u:∀(s:CSh)(a:AV),Wc s a->clean a=true
 | .bool,a,h=>by rw[Wc]at h;obtain⟨b,rfl⟩:=h;rfl
 | .int k,a,h=>by rw[Wc]at h;obtain⟨b,rfl,_⟩:=h;rfl
 | .str,a,h=>by rw[Wc]at h;obtain⟨b,rfl,_⟩:=h;rfl
 | .sl ag es,a,h=>by rw[Wc]at h;obtain⟨b,rfl,_⟩:=h;rfl
def M8:∀(s:List CSh)(a:List AV),Wcs s a->Z4 a=true
 |[],a,h=>by rw[Wcs]at h;subst h;rfl
 |s::ss,a,h=>by
  rw[Wcs]at h;obtain⟨a,r,rfl,h1,h2⟩:=h;simp[Z4,Z5u s a h1,M8 ss r h2]
end
def M9{ag:Bool}{es:List CSh}:∀(xs:List AV),(∀x∈xs,(ag=true->∃cs,x=.agg cs/\Wcs es cs)/\(ag=false->Wcs es [x]))->Z4 xs=true
 |[],_=>rfl
 |x::xs,h=>by
  have⟨h1,h2⟩:=h x<|by simp
  have a:clean x=true:=by
   cases ag with
   |true=>obtain⟨cs,rfl,c⟩:=h1 rfl;exact M8 _ _ c
   |false=>
    have:=M8 _ _<|h2 rfl;simpa[Z4]using this
  simp[Z4,a,M9 xs<|λy b=>h y<|by simp[b]]
def Z5v{a:Addr}{v:Value}(h:w.cell? a=some v):a=⟨a.block,a.off,none⟩/\a.block<w.heap.size:=by
 unfold World.cell? at h;split at h
 .rename_i c _ _ d;split at h
  .cases h
  .rename_i e;refine⟨?_,(ZYd.1 d).1⟩;cases a with
   |mk b o s=>cases s with
    |none=>rfl
    |some s=>exact absurd rfl e
 .cases h
def Z5w{b:Nat}{a:Addr}{n:Nat}{cs:List Value}(h:w.cells? b a n=some cs):cs.length=n/\∀i,i<n->w.cell? (a.add i)=cs[i]?:=by
 unfold World.cells? at h;split at h
 .refine⟨by simpa using mapM_some_length h,λi c=>?_⟩
  have h1:=mapM_some_get h i i<|by simp[c]
  exact h1
 .cases h
def C1{T:Ty}{X:Xt}{r:Nat}:∀{as:List AV}{cs:List Value}{o:Nat},Rs T X w as cs->(∀i,i<cs.length->w.cell? ⟨r,o+i,none⟩=cs[i]?)->ZV T X w r as o
 |[],_,_,_,_=>trivial
 |a::as,cs,o,h,hc=>by
  simp only[Rs]at h;obtain⟨v,c,rfl,h1,h2⟩:=h;refine⟨⟨v,by simpa[World.at]using hc 0 (by simp),h1⟩,C1 h2 λi b=>?_⟩
  have:=hc (i+1)<|by simp;omega
  rw[show o+1+i=o+(i+1)by omega]
  simpa using this
def C3{T:Ty}{X:Xt}{sz r:Nat}:∀{xs:List AV}{o:Nat},(∀i x,xs[i]?=some x->∃cs,x=.agg cs/\cs.length=sz/\ZV T X w r cs (o+i*sz))->ZA T X w sz r xs o
 |[],_,_=>trivial
 |x::xs,o,h=>by
  obtain⟨cs,rfl,h1,h2⟩:=h 0 x rfl;rw[ZA];refine⟨h1,by simpa using h2,C3 λi y e=>?_⟩
  have⟨a,d,c,b⟩:=h (i+1) y<|by simpa using e
  exact⟨a,d,c,by rw[show o+sz+i*sz=o+(i+1)*sz by rw[ZXQ];omega];exact b⟩
def C4{T:Ty}{X:Xt}{r:Nat}:∀{xs:List AV}{o:Nat},(∀i x,xs[i]?=some x->(∀cs,x≠.agg cs)/\∃v,w.cell? ⟨r,o+i,none⟩=some v/\R T X w x v)->ZA T X w 1 r xs o
 |[],_,_=>trivial
 |x::xs,o,h=>by
  have⟨d,v,h1,h2⟩:=h 0 x rfl;have a:ZA T X w 1 r xs (o+1):=C4 λi y f=>by
   have⟨c,v',e,b⟩:=h (i+1) y<|by simpa using f
   exact⟨c,v',by rw[show o+1+i=o+(i+1)by omega];exact e,b⟩
  cases x with
  |agg cs=>exact absurd rfl (d cs)
  |_=>exact⟨rfl,⟨v,h1,h2⟩,a⟩
def Z5x{s:CSh}{a:AV}(h:Wc s a):∀cs,a≠.agg cs:=by
 rintro cs rfl;cases s with
 |bool=>rw[Wc]at h;have⟨b,c⟩:=h;cases c
 |int k=>rw[Wc]at h;have⟨b,c,_⟩:=h;cases c
 |str=>rw[Wc]at h;have⟨b,c,_⟩:=h;cases c
 |sl ag es=>rw[Wc]at h;have⟨b,c,_⟩:=h;cases c
def add_add(b o i j:Nat):((⟨b,o,none⟩:Addr).add i).add j=⟨b,o+i+j,none⟩:=by
 unfold Addr.add;by_cases c:i=0
 .by_cases a:j=0<;>simp[c,a]
 .by_cases a:j=0<;>simp[c,a]
def Ma{α:Type}{Q:Nat->α->Prop}:∀(n:Nat),(∀i,i<n->∃x,Q i x)->∃xs:List α,xs.length=n/\∀i x,xs[i]?=some x->Q i x
 |0,_=>⟨[],rfl,by simp⟩
 |n+1,h=>by
  have⟨xs,h1,h2⟩:=Ma n<|λi d=>h i<|by omega
  have⟨x,c⟩:=h n<|by omega
  refine⟨xs++[x],by simp[h1],λi y a=>?_⟩
  by_cases d:i<n
  .exact h2 i y<|by rwa[ZYw<|by omega]at a
  .have b:i<(xs++[x]).length:=(ZXu.1 a).1;have:i=n:=by simp[h1]at b;omega
   subst this;rw[ZYl (by omega),h1]at a
   simp at a;exact a▸c
def C5{n:Nat}{t:TypeId}{a:List CSh}(h:Y7 P n t=some a)(b:isAgg P t=false):∃s,a=[s]:=by
 cases n with
 |zero=>simp[Y7]at h
 |succ n=>
  rw[Y7]at h;unfold isAgg at b;split at h
  .cases h;exact⟨_,rfl⟩
  .cases h;exact⟨_,rfl⟩
  .cases h;exact⟨_,rfl⟩
  .split at h
   .split at h
    .cases h;exact⟨_,rfl⟩
    .cases h
   .cases h
  .rename_i d c;simp[c]at b
  .rename_i m e c;simp[c]at b
  .cases h
def bnd(P:Program)(t:TypeId)(d:DataW H):Prop:=∀m∈d.weights P t,m<=reachBytes
def Zxf{e:TypeId}:∀{b:List (DataW H)}{i:Nat}{d:DataW H},(∀m∈DataW.weightsAll P e b,m<=reachBytes)->b[i]?=some d->bnd P e d
 |[],_,_,_,h=>by simp at h
 |c::r,0,d,hw,h=>by
  simp only[ZYf,Option.some.injEq]at h;subst h;intro m a;exact hw m<|by rw[DataW.weightsAll];exact ZYM _ a
 |c::r,i+1,d,hw,h=>by
  simp only[ZYn]at h;exact Zxf (λm a=>hw m<|by rw[DataW.weightsAll];exact ZZn _ a) h
def Z5y{e:Bool}{n d:Nat}{cs:List Value}
 (u:∀(t:TypeId)(c:List CSh),Y7 P n t=some c->∀(d:Nat)(cs:List Value)(x:DataW H×List MemPlace),DataW.trod enc P w 0 (λ_=>true) e d t cs=some x->bnd P t x.1->∃as,Wcs c as/\Rs T0 (X0 P) w as cs):
 ∀(g:List Field)(o:Nat)(c:List CSh)(xs:List<|DataW H×List MemPlace),Kn P (Y7 P n) o g=some c->g.mapM (λf=>DataW.trod enc P w 0 (λ_=>true) e d f.type<|(cs.drop f.offset).take (P.cellsOf f.type))=some xs->(∀m∈DataW.weightsEach P (g.map (·.type)) (xs.map (·.1)),m<=reachBytes)->
  cs.length=o+c.length->∃as,Wcs c as/\Rs T0 (X0 P) w as (cs.drop o):=by
 intro g;induction g with
 |nil=>
  intro o c xs h _ _ q;simp only[Kn]at h;cases h;refine⟨[],by rw[Wcs],?_⟩
  rw[ZYD<|by simp at q;omega]
  rfl
 |cons f g r=>
  intro o c xs h s i q;simp only[Kn]at h;split at h
  .rename_i A;split at h
   .rename_i a B;split at h
    .rename_i j;simp only[ZXt]at h;obtain⟨b,E,rfl⟩:=h;simp only[List.mapM_cons,Option.pure_def,Option.bind_eq_bind,ZZ0,Option.some.injEq]at s;have⟨y,z,ys,k,l⟩:=s;subst l;rw[ZXn,ZXn,DataW.weightsEach]at i;have⟨as,h1,h2⟩:=u _ _ B _ _ _ z (λm p=>i m<|ZYM _ p)
     rw[ZXy,j]at q;have⟨v,C,D⟩:=r _ _ _ E k (λm p=>i m<|ZZn _ p)<|by omega
     refine⟨as++v,M7 h1 C,?_⟩;have:cs.drop o=(cs.drop o).take (P.cellsOf f.type)++cs.drop (o+P.cellsOf f.type):=by
      rw[<-ZYu,ZYe]
     rw[this];subst A;exact QR h2 D
    .cases h
   .cases h
  .cases h
def Z5z{b:Bool}{a k:Nat}{e:TypeId}{cs:List Value}{es:List CSh}(q:es.length=k)
 (j:∀(cs:List Value)(x:DataW H×List MemPlace),DataW.trod enc P w 0 (λ_=>true) b a e cs=some x->bnd P e x.1->∃as,Wcs es as/\Rs T0 (X0 P) w as cs):
 ∀(m o:Nat),(∀i,o<=i->i<o+m->∃x,DataW.trod enc P w 0 (λ_=>true) b a e ((cs.drop<|i*k).take k)=some x/\bnd P e x.1)->
  cs.length=o*k+m*k->∃as,Wcs (List.replicate m es).flatten as/\Rs T0 (X0 P) w as (cs.drop<|o*k):=by
 intro m;induction m with
 |zero=>
  intro o _ d;refine⟨[],by simp[Wcs],?_⟩
  rw[ZYD<|by simp at d;omega]
  rfl
 |succ m f=>
  intro o h d;have⟨x,g,c⟩:=h o (ZXh _)<|by omega
  have⟨as,h1,h2⟩:=j _ _ g c;have⟨p,l,n⟩:=f (o+1) (λi h1 h2=>h i (by omega)<|by omega)<|by rw[d,ZXQ,ZXQ];omega
  refine⟨as++p,by rw[ZZh,List.flatten_cons];exact M7 h1 l,?_⟩
  have:cs.drop (o*k)=(cs.drop<|o*k).take k++cs.drop ((o+1)*k):=by
   rw[ZXQ,Nat.one_mul,<-ZYu,ZYe]
  rw[this];exact QR h2 n
def read{M:Bool}:∀(n:Nat)(t:TypeId)(u:List CSh),Y7 P n t=some u->∀(f:Nat)(cs:List Value)(x:DataW H×List MemPlace),
 DataW.trod enc P w 0 (λ_=>true) M f t cs=some x->bnd P t x.1->∃as,Wcs u as/\Rs T0 (X0 P) w as cs:=by
 intro n;induction n with
 |zero=>intro t u h;simp[Y7]at h
 |succ n U=>
  intro t u h f cs x c o;cases f with
  |zero=>simp[DataW.trod]at c
  |succ f=>
   rw[Y7]at h;split at h
   .rename_i p;cases h;rw[DataW.trod_step]at c;unfold DataW.trodStep at c;rw[p]at c
    match cs,c with
    |[.bool b],_=>exact⟨[.bool b],⟨_,_,rfl,⟨b,rfl⟩,rfl⟩,⟨_,_,rfl,rfl,rfl⟩⟩
   .rename_i k p;cases h;rw[DataW.trod_step]at c;unfold DataW.trodStep at c;rw[p]at c
    match cs,c with
    |[.int k' m],c=>
     simp only at c;split at c
     .rename_i L;obtain⟨rfl,o⟩:=L;exact⟨[.int k' m],⟨_,_,rfl,⟨m,rfl,o⟩,rfl⟩,⟨_,_,rfl,rfl,rfl⟩⟩
     .cases c
   .rename_i p;cases h;rw[DataW.trod_step]at c;unfold DataW.trodStep at c;rw[p]at c
    match cs,c with
    |[.string s],c=>
     simp only at c;split at c
     .rename_i L;exact⟨[.str s],⟨_,_,rfl,⟨s,rfl,L⟩,rfl⟩,⟨_,_,rfl,rfl,rfl⟩⟩
     .cases c
   .rename_i e p;split at h
    .rename_i es q;split at h
     .rename_i d;obtain⟨d,S,Y⟩:=d;cases h;rw[DataW.trod_step]at c;unfold DataW.trodStep at c;rw[p]at c
      match cs,c with
      |[.slice none 0 0],_=>
       refine⟨[.isl false false es.length []],⟨_,_,rfl,?_,rfl⟩,⟨_,_,rfl,?_,rfl⟩⟩
       .rw[Wc];exact⟨[],rfl,by simp,by simp⟩
       .exact⟨none,0,0,rfl,rfl,ZXh _,λ_=>rfl,rfl,.inl rfl⟩
      |[.slice (some a) len cap],c=>
       simp only at c;split at c
       .rename_i L;simp only[ZZ0]at c;obtain⟨Z,J,y⟩:=c;simp only[ZXt]at y;obtain⟨ab,_,z⟩:=y;subst z;unfold bnd at o;rw[DataW.weights,p]at o;dsimp only at o;have K:Z.length=len:=by rw[mapM_some_length J];simp
        have N:len*byS es<=reachBytes:=by
         have h9:=o _<|ZXV ..;rw[ZXg,ZXg,K]at h9;exact ZXW (ZZo (Nat.le_add_right _ _) Y) h9
        have V:∀m∈DataW.weightsAll P e (Z.map (·.1)),m<=reachBytes:=λm hm=>o m<|ZY2 _<|ZYM _ hm
        have l:∀i,i<len->∃(cs:List Value)(as:List AV),cs.length=es.length/\(∀j,j<es.length->w.cell? ((a.add<|i*es.length).add j)=cs[j]?)/\Wcs es as/\Rs T0 (X0 P) w as cs:=by
         intro i B;have h1:=mapM_some_get J i i<|by simp[B]
         have h2:i<Z.length:=by rw[mapM_some_length J];simpa using B
         rw[ZXj h2]at h1;simp only[ZZ0]at h1;obtain⟨cs,C,E⟩:=h1;obtain⟨G,O⟩:=Z5w C;obtain⟨as,X,h8⟩:=U e es q _ _ _ E<|Zxf (i:=i) V<|by rw[ZY8,ZXj h2];rfl
         rw[<-d]at G O;exact⟨cs,as,G,O,X,h8⟩
        by_cases h0:len=0
        .subst h0;refine⟨[.isl false false es.length []],⟨_,_,rfl,?_,rfl⟩,⟨_,_,rfl,?_,rfl⟩⟩
         .rw[Wc];exact⟨[],rfl,by simp,by simp⟩
         .exact⟨some a,0,cap,rfl,rfl,L.2.1,nofun,rfl,.inl rfl⟩
        .have A:a=⟨a.block,a.off,none⟩/\a.block<w.heap.size:=by
          obtain⟨cs,as,h1,h2,_,_⟩:=l 0<|by omega
          have:=h2 0 S;rw[ZXj<|by omega]at this
          have e0:(a.add<|0*es.length).add 0=a:=by simp[Addr.add]
          rw[e0]at this;exact Z5v this
         obtain⟨A,T⟩:=A;have F:∀i j,(a.add<|i*es.length).add j=⟨a.block,a.off+i*es.length+j,none⟩:=by
          intro i j;exact(congrArg (λa:Addr=>(a.add<|i*es.length).add j) A).trans (add_add _ _ _ _)
         cases W:isAgg P e with
         |true=>
          obtain⟨xs,h1,h2⟩:=Ma (Q:=λi(x:AV)=>∃cs,x=AV.agg cs/\Wcs es cs/\ZV T0 (X0 P) w a.block cs (a.off+i*es.length)) len (λi B=>by
           obtain⟨cs,as,h1,h2,C,E⟩:=l i B;refine⟨.agg as,as,rfl,C,C1 E λj hj=>?_⟩
           rw[<-F];exact h2 j<|by omega)
          have g:∀x∈xs,(true=true->∃cs,x=.agg cs/\Wcs es cs)/\(true=false->Wcs es [x]):=by
           intro x c;obtain⟨i,B⟩:=ZYp c;obtain⟨cs,C,E,_⟩:=h2 i x B;exact⟨λ_=>⟨cs,C,E⟩,nofun⟩
          refine⟨[.isl false false es.length xs],⟨_,_,rfl,?_,rfl⟩,⟨_,_,rfl,?_,rfl⟩⟩
          .rw[Wc];exact⟨xs,rfl,by rw[h1];exact N,g⟩
          .refine⟨some a,len,cap,rfl,h1.symm,L.2.1,nofun,M9 xs g,.inr ⟨a.block,a.off,by rw[<-A],JM _,λ_ h=>h,T,?_⟩⟩
           exact C3 λi x c=>by
            obtain⟨cs,C,E,G⟩:=h2 i x c;exact⟨cs,C,C0 E,G⟩
         |false=>
          obtain⟨s,rfl⟩:=C5 q W;obtain⟨xs,h1,h2⟩:=Ma (Q:=λi(x:AV)=>Wcs [s] [x]/\(∀cs,x≠AV.agg cs)/\∃v,w.cell? ⟨a.block,a.off+i,none⟩=some v/\R T0 (X0 P) w x v) len (λi B=>by
           obtain⟨cs,as,h1,h2,C,E⟩:=l i B;rw[Wcs]at C;obtain⟨x,r,rfl,G,O⟩:=C;rw[Wcs]at O;subst O;obtain⟨v,vr,rfl,X,h8⟩:=E;refine⟨x,by rw[Wcs];exact⟨x,[],rfl,G,by rw[Wcs]⟩,Z5x G,v,?_,X⟩
           have:=h2 0<|by simp
           rw[F]at this;simpa using this)
          have g:∀x∈xs,(false=true->∃cs,x=.agg cs/\Wcs [s] cs)/\(false=false->Wcs [s] [x]):=by
           intro x c;obtain⟨i,B⟩:=ZYp c;exact⟨nofun,λ_=>(h2 i x B).1⟩
          refine⟨[.isl false false 1 xs],⟨_,_,rfl,?_,rfl⟩,⟨_,_,rfl,?_,rfl⟩⟩
          .rw[Wc];exact⟨xs,rfl,by rw[h1];exact N,g⟩
          .refine⟨some a,len,cap,rfl,h1.symm,L.2.1,nofun,M9 xs g,.inr ⟨a.block,a.off,by rw[<-A],JM _,λ_ h=>h,T,?_⟩⟩
           exact C4 λi x c=>(h2 i x c).2
       .cases c
     .cases h
    .cases h
   .rename_i fs p;split at h
    .rename_i es q;split at h
     .rename_i d;cases h;rw[DataW.trod_step]at c;unfold DataW.trodStep at c;rw[p]at c;simp only at c;split at c
      .rename_i hl;simp only[ZXt]at c;obtain⟨xs,D,z⟩:=c;subst z;unfold bnd at o;rw[DataW.weights,p]at o;obtain⟨as,h1,h2⟩:=Z5y (λt u h f cs x c=>U t u h f cs x c) _ _ _ _ q D o (by omega)
       exact⟨as,h1,h2⟩
      .cases c
     .cases h
    .cases h
   .rename_i m e p;split at h
    .rename_i es q;split at h
     .rename_i d;cases h;rw[DataW.trod_step]at c;unfold DataW.trodStep at c;rw[p]at c;simp only at c;split at c
      .rename_i hl;simp only[ZXt]at c;obtain⟨xs,D,z⟩:=c;subst z;unfold bnd at o;rw[DataW.weights,p]at o;dsimp only at o;obtain⟨as,h1,h2⟩:=Z5z (k:=P.cellsOf e) (by omega) (λcs x c=>U e es q _ cs x c) m 0 (λi _ B=>by
        have ac:xs.length=m:=by rw[mapM_some_length D];simp
        have aa:i<m:=by omega
        have h1:=mapM_some_get D i i<|by simp[aa]
        have h2:i<xs.length:=by omega
        rw[ZXj h2]at h1;exact⟨_,h1,Zxf (i:=i) o<|by rw[ZY8,ZXj h2];rfl⟩) (by rw[hl,<-d.2,d.1];simp)
       exact⟨as,h1,by simpa using h2⟩
      .cases c
     .cases h
    .cases h
   .cases h
def C6{e:TypeId->Option (List CSh)}:∀{d:List Field}{o:Nat}{c:List CSh},Kn P e o d=some c->∀f∈d,∃a,e f.type=some a
 |[],_,_,_,f,hf=>by cases hf
 |g::d,o,c,h,f,hf=>by
  simp only[Kn]at h;split at h
  .split at h
   .rename_i a i;split at h
    .simp only[ZXt]at h;have⟨b,j,_⟩:=h;rcases ZXF.1 hf with rfl|hf
     .exact⟨a,i⟩
     .exact C6 j f hf
    .cases h
   .cases h
  .cases h
def Z5A{g:Bool}{G:Nat->Bool}:∀(n:Nat)(t:TypeId)(u:List CSh),Y7 P n t=some u->∀(d:Nat)(cs:List Value)(x:DataW H×List MemPlace),
 DataW.trod enc P w 0 (λ_=>true) g d t cs=some x->(∀p∈x.2,G p.block=true)->DataW.trod enc P w 0 G g d t cs=some x:=by
 intro n;induction n with
 |zero=>intro t u h;simp[Y7]at h
 |succ n J=>
  intro t u h d cs x c F;cases d with
  |zero=>simp[DataW.trod]at c
  |succ d=>
   rw[Y7]at h;rw[DataW.trod_step]at c⊢;unfold DataW.trodStep at c⊢;split at h
   .rename_i o;rw[o]at c⊢
    match cs,c with
    |[.bool b],c=>exact c
   .rename_i o;rw[o]at c⊢
    match cs,c with
    |[.int k m],c=>exact c
   .rename_i o;rw[o]at c⊢
    match cs,c with
    |[.string s],c=>exact c
   .rename_i e o;rw[o]at c⊢;split at h
    .rename_i es l;split at h
     .rename_i M
      match cs,c with
      |[.slice none 0 0],c=>exact c
      |[.slice (some a) len cap],c=>
       simp only at c⊢;split at c
       .rename_i E;rw[if_pos E];simp only[ZXt,ZZ0]at c⊢;obtain⟨K,z,j,r,rfl⟩:=c;simp only[if_true]at r;have Q:K.length=len:=by rw[mapM_some_length z];simp
        have O:j.length=cap-len:=by rw[mapM_some_length r];simp
        have C:∀(y:DataW H×List MemPlace)(i:Nat),y∈K++j->(w.cells? 0 (a.add<|i*P.cellsOf e)<|P.cellsOf e).bind (DataW.trod enc P w 0 (λ_=>true) g d e)=some y->
         (w.cells? 0 (a.add<|i*P.cellsOf e)<|P.cellsOf e).bind (DataW.trod enc P w 0 G g d e)=some y:=by
         intro y i q h1;simp only[ZZ0]at h1⊢;have⟨A,h2,S⟩:=h1;refine⟨A,h2,J e es l d A y S λp B=>F p ?_⟩
         simp only[ZY9,ZZj];exact .inr ⟨y,by simpa using q,B⟩
        refine⟨K,mapM_carry z<|λi y _ q h1=>C y i (by simp[q]) h1,j,?_,rfl⟩
        by_cases D:cap=len
        .have:j=[]:=List.eq_nil_of_length_eq_zero (by omega)
         subst this;subst D;split
         .simp
         .rfl
        .have L:G a.block=true:=by
          have:=F (.cell a.block a.off) (by
           simp only[ZY9];left;refine MemPlace.mem_row.2 ⟨0,?_,by simp⟩
           exact Nat.mul_pos (by omega)<|by omega)
          exact this
         rw[if_pos L];exact mapM_carry r<|λi y _ q h1=>C y (len+i) (by simp[q]) h1
       .cases c
     .cases h
    .cases h
   .rename_i T o;rw[o]at c⊢;split at h
    .rename_i es l;simp only at c⊢;split at c
     .rename_i E;rw[if_pos E];simp only[ZXt]at c⊢;obtain⟨xs,v,rfl⟩:=c;refine⟨xs,mapM_carry v<|λf y N q h1=>?_,rfl⟩
      have⟨a,R⟩:=C6 l f N;exact J f.type a R d _ y h1 λp B=>F p<|ZZj.2 ⟨y,q,B⟩
     .cases c
    .cases h
   .rename_i m e o;rw[o]at c⊢;split at h
    .rename_i es l;simp only at c⊢;split at c
     .rename_i E;rw[if_pos E];simp only[ZXt]at c⊢;obtain⟨xs,v,rfl⟩:=c;exact⟨xs,mapM_carry v<|λf y _ q h1=>J e es l d _ y h1 λp B=>F p<|ZZj.2 ⟨y,q,B⟩,rfl⟩
     .cases c
    .cases h
   .cases h
def Z5B{n:Nat}{t:TypeId}{s:CSh}{cs:Array Value}{c:Nat}(e:Y7 P n t=some [s])(d:isAgg P t=false)(b:Value.okWide P w .any c t<|.agg cs):False:=by
 cases n with
 |zero=>simp[Y7]at e
 |succ n=>
  rw[Y7]at e;split at e
  .rename_i a;simp[Value.okWide,a,Cell.okWide,Cell.ok]at b
  .rename_i a;simp[Value.okWide,a,Cell.okWide,Cell.ok]at b
  .rename_i a;simp[Value.okWide,a,Cell.okWide,Cell.ok]at b
  .rename_i a;simp[Value.okWide,a,Cell.okWide,Cell.ok]at b
  .rename_i a;simp[isAgg,a]at d
  .rename_i a;simp[isAgg,a]at d
  .cases e
def Z5C{i:Bool}{n:Nat}{t:TypeId}{e:List CSh}{v:Value}{d:DataW H}{ps:List MemPlace}{f:Nat}(l:Y7 P n t=some e)(b:Value.okWide P w .any f t v)
 (h:DataW.Trod enc P w 0 (λ_=>true) i t v d ps) (x:bnd P t d):∃a,(isAgg P t=true->∃as,a=.agg as/\Wcs e as)/\(isAgg P t=false->Wcs e [a])/\R T0 (X0 P) w a v:=by
 have⟨g,h⟩:=h;have⟨as,h1,h2⟩:=read n t e l g _ _ h x;cases c:isAgg P t with
 |true=>
  have:∃cs,v=.agg cs:=by
   unfold isAgg at c;unfold Value.okWide at b;split at c
   .rename_i k;rw[k]at b;have⟨cs,h,_⟩:=b;exact⟨cs,h⟩
   .rename_i k;rw[k]at b;have⟨cs,h,_⟩:=b;exact⟨cs,h⟩
   .cases c
  obtain⟨cs,rfl⟩:=this;exact⟨.agg as,λ_=>⟨as,rfl,h1⟩,nofun,cs,rfl,h2⟩
 |false=>
  obtain⟨s,rfl⟩:=C5 l c;rw[Wcs]at h1;obtain⟨a,r,rfl,q,m⟩:=h1;rw[Wcs]at m;subst m;have⟨v',y,o,p,u⟩:=h2;have j:y=[]:=u;subst j;refine⟨a,nofun,λ_=>by rw[Wcs];exact⟨a,[],rfl,q,by rw[Wcs]⟩,?_⟩
  have:v=v':=by
   cases v with
   |agg cs=>exact(Z5B l c b).elim
   |_=>simpa[Value.cells]using o
  exact this▸p
def sig(P:Program)(n:Nat):List TypeId->Option (List<|Bool×List CSh)
 |[]=>some []
 |t::ts=>match Y7 P n t,sig P n ts with
  |some a,some r=>some<|(isAgg P t,a)::r
  |_,_=>none
def Wvs:List (Bool×List CSh)->List AV->Prop
 |[],as=>as=[]
 |s::ss,as=>∃a r,as=a::r/\(s.1=true->∃cs,a=.agg cs/\Wcs s.2 cs)/\(s.1=false->Wcs s.2 [a])/\Wvs ss r
def readAll{f:Bool}{n e:Nat}:∀{c:List TypeId}{S:List (Bool×List CSh)}{vs:List Value}{b:List (DataW H)}{ps:List MemPlace},sig P n c=some S->
 (∀(j:Nat)t v,c[j]?=some t->vs[j]?=some v->Value.okWide P w .any e t v)->DataW.TrodAll enc P w 0 (λ_=>true) f c vs b ps->(∀m∈DataW.weightsEach P c b,m<=reachBytes)->
 ∃as,Wvs S as/\Rs T0 (X0 P) w as vs
 |[],S,vs,b,ps,hs,_,h,_=>by
  cases vs with
  |nil=>simp only[sig]at hs;cases hs;exact⟨[],rfl,rfl⟩
  |cons v vs=>cases b<;>exact h.elim
 |t::c,S,vs,b,ps,hs,hv,h,hw=>by
  cases vs with
  |nil=>cases b<;>exact h.elim
  |cons v vs=>
   cases b with
   |nil=>exact h.elim
   |cons d b=>
    obtain⟨p,q,h1,h2,rfl⟩:=h;rw[DataW.weightsEach]at hw;simp only[sig]at hs;split at hs
    .rename_i a r l y;cases hs;have⟨x,o,s,i⟩:=Z5C l (hv 0 t v rfl rfl) h1 (λm g=>hw m<|ZYM _ g)
     have⟨xs,k,u⟩:=readAll y (λj t v h1 h2=>hv (j+1) t v (by simpa using h1)<|by simpa using h2) h2<|λm g=>hw m<|ZZn _ g
     exact⟨x::xs,⟨x,xs,rfl,o,s,k⟩,v,vs,rfl,i,u⟩
    .cases hs
def ZAU{c:Bool}:∀(b:List TypeId)(vs:List Value)(a:List<|DataW H)(ps:List MemPlace),DataW.TrodAll enc P w 0 (λ_=>true) c b vs a ps->a.length=b.length:=by
 intro b;induction b with
 |nil=>intro vs a ps h;cases vs<;>cases a<;>first|rfl|exact h.elim
 |cons t b e=>
  intro vs a ps h;cases vs with
  |nil=>cases a<;>exact h.elim
  |cons v vs=>cases a with
   |nil=>exact h.elim
   |cons d a=>
    obtain⟨p,q,h1,h2,rfl⟩:=h;rw[ZXw,ZXw,e _ _ _ h2]
def Zz6:∀{b us:List TypeId}{c a:List (DataW H)},c.length=b.length->∀m∈DataW.weightsEach P b c,m∈DataW.weightsEach P (b++us) (c++a)
 |[],us,[],a,_,m,hm=>by rw[DataW.weightsEach]at hm;cases hm;simp
 |[],us,d::c,a,hl,_,_=>by simp at hl
 |t::b,us,[],a,hl,_,_=>by simp at hl
 |t::b,us,d::c,a,hl,m,hm=>by
  rw[ZXl,ZXl,DataW.weightsEach];rw[DataW.weightsEach]at hm;rcases ZY9.1 hm with h|h
  .exact ZYM _ h
  .exact ZZn _<|Zz6 (by simpa using hl) m h
def C7{e:Bool}{n:Nat}{w':World}{i:Nat->Bool}:∀{g:List TypeId}{S:List (Bool×List CSh)}{vs:List Value}{c:List (DataW H)}{ps:List MemPlace},sig P n g=some S->
 DataW.TrodAll enc P w 0 (λ_=>true) e g vs c ps->(∀p∈ps,i p.block=true/\w.sameAt w' p)->DataW.TrodAll enc P w' 0 i e g vs c ps
 |[],S,vs,c,ps,hs,h,_=>by
  cases vs with
  |nil=>cases c<;>exact h
  |cons v vs=>cases c<;>exact h.elim
 |t::g,S,vs,c,ps,hs,h,hp=>by
  cases vs with
  |nil=>cases c<;>exact h.elim
  |cons v vs=>
   cases c with
   |nil=>exact h.elim
   |cons d c=>
    obtain⟨p,q,h1,h2,rfl⟩:=h;simp only[sig]at hs;split at hs
    .rename_i a r j k;have⟨b,h1⟩:=h1;refine⟨p,q,⟨b,?_⟩,C7 k h2<|λx f=>hp x<|by simp[f],rfl⟩
     exact DataW.trod_carry b t _ _ (Z5A _ t a j b _ _ h1<|λx f=>(hp x<|by simp[show x∈p from f]).1)<|λx f=>(hp x<|by simp[show x∈p from f]).2
    .cases hs
def Z5D(W a:World)(h1:a.os=W.os)(h2:a.output=W.output)(c:∀i,i<W.heap.size->a.heap[i]?=W.heap[i]?):W.keptBut a (λ_=>False):=by
 refine⟨h1,h2,λi b=>?_⟩
 rw[c i b];have:=(World.keptBut_refl W<|λ_=>False).2.2 i b
 exact this
def Z5E(w:World):M T0 (X0 P) [] w where
 inj b c b' c' r h:=by cases h
 lt r h:=(JM r h).elim
 notX r h:=(JM r h).elim
 obj b:=by simp[YR,T0]
def Z5F{h:Hp}:∀(n:Nat){v:AV}{b:Bool},freeze false h n v=some (.bool b)->v=.bool b
 |0,v,b,hv=>by simp[freeze]at hv
 |n+1,v,b,hv=>by
  cases d:clean v with
  |true=>
   unfold freeze at hv;rw[d,cond_true]at hv;exact Option.some.inj hv
  |false=>
   exfalso;unfold freeze at hv;rw[d,cond_false]at hv;cases v with
   |agg cs=>simp at hv
   |tup cs=>simp at hv
   |ifc t x=>simp at hv
   |clo fn a c=>simp only at hv;split at hv<;>simp at hv
   |iptr bw cs=>cases bw<;>simp at hv
   |isl bw ex sz es=>cases bw<;>simp at hv
   |imap bw f vs=>cases bw<;>simp at hv
   |ptr b i off g=>
    simp only at hv;split at hv
    .simp only[cond]at hv;split at hv
     .split at hv<;>simp at hv
     .cases hv
    .cases hv
   |sl b g off e ex=>
    simp only at hv;split at hv
    .simp only[cond]at hv;split at hv<;>simp at hv
    .cases hv
   |mp b=>
    simp only at hv;split at hv
    .simp only[cond]at hv;split at hv<;>simp at hv
    .cases hv
   |_=>first|(simp only[clean]at d;cases d;done)|(cases hv;done)
def Z5G{h:Hp}{v:AV}{b:Bool}(a:YE h v=some (.bool b)):v=.bool b:=by
 unfold YE at a;cases c:clean v with
 |true=>rw[c,cond_true]at a;exact Option.some.inj a
 |false=>rw[c,cond_false]at a;exact Z5F 40 a
def Z5H{E:Env}{f:Nat}{as:List AV}{b:Bool}(e:E.sum f=none)(h:pfn E f as=some (.bool b)):∃n h',QX E n f as []=some (.bool b,h'):=by
 unfold pfn at h;cases a:fnV E f as []with
 |none=>rw[a]at h;cases h
 |some r=>
  rw[a,ZM]at h;have d:=Z5G h;have⟨n,c⟩:=(Yr<|GC f as []).1 a;cases n with
  |zero=>simp[Qz]at c
  |succ n=>
   simp only[Qz,e]at c;exact⟨n,r.2,by rw[c,<-d]⟩
def Z5I{E:Env}(ok:EnvOk P E){f:Nat}{fn:Func}{s:ChangeSpec}{n:Nat}{S:List (Bool×List CSh)}{tb:TypeId}(F:E.sum f=none)(l:s.vars=[])(w:sig P n fn.params.toList=some S)
 (G:fn.resultTypes = #[tb]) (aa:P.underlying tb=some .bool) (y:∀a:List<|DataW H,a.length=fn.params.size->s.fn H a={results:=[.lit<|.bool true],args:=a})
 (z:∀as,Wvs S as->pfn E f as=some (.bool true))
 (W:World) (ab:GlR E T0 (X0 P) W) (N:Nat) (args:Array Value) (a M:List<|DataW H) (u:List MemPlace)
 (O:∀(j:Nat)t v,fn.params[j]?=some t->args[j]?=some v->Value.okWide P W .any N t v)
 (hW:DataW.Whole enc P fn.params.toList s.vars false W args.toList a M u) {us:List TypeId} (X:(DataW.weightsEach P (fn.params.toList++us)<|a++M).all (·<=reachBytes)=true):
 Calls P f args W λe B=>∃v,e=.returned v/\s.post enc P fn false true false false W args v B:=by
 have L:=hW;obtain⟨p,q,Q,Y,rfl,ad,ac⟩:=hW;have⟨as,h1,h2⟩:=readAll w (λj t v h1 h2=>O j t v (by simpa using h1)<|by simpa using h2) Q (λm hm=>by
  have:=ZXs.1 X m<|Zz6 (ZAU _ _ _ _ Q) m hm;simpa using this)
 have⟨k,h',J⟩:=Z5H F<|z as h1;have hc:=((TM ok k).body f as [] (.bool true) h' J T0 (X0 P) W args rfl ⟨Z5E W,ab,λr Z=>Z.elim⟩ h2).2
 refine hc.mono λe B⟨rv,he,T',st,m,Z⟩=>⟨rv,he,?_⟩
 have U:rv=.bool true:=Z;subst U;rw[l]at Y;have T:M=[]/\q=[]:=by
  cases M with
  |nil=>exact⟨rfl,Y⟩
  |cons g M=>exact Y.elim
 obtain⟨rfl,rfl⟩:=T;have c:a.length=fn.params.size:=by
  have:∀(D:List TypeId)(vs:List Value)(a:List<|DataW H)(ps:List MemPlace),DataW.TrodAll enc P W 0 (λ_=>true) true D vs a ps->a.length=D.length:=by
   intro D;induction D with
   |nil=>intro vs a ps h;cases vs<;>cases a<;>first|rfl|exact h.elim
   |cons t D ih=>
    intro vs a ps h;cases vs with
    |nil=>cases a<;>exact h.elim
    |cons v vs=>cases a with
     |nil=>exact h.elim
     |cons d a=>have⟨_,_,_,h2,_⟩:=h;simp[ih _ _ _ h2]
  simpa using this _ _ _ _ Q
 have K:∀x∈p,x.block<W.heap.size:=λx C=>L.lt x<|by simpa using C
 have A:∀x:MemPlace,x.block<W.heap.size->W.sameAt B x:=by
  intro x C;have R:=st.keep x.block C<|JM _;cases x with
  |cell b o=>
   have V:B.heap[b]?=W.heap[b]?:=R;simp only[World.sameAt,World.cell?,V]
  |map b=>exact R
 have R:W.keptBut B (λ_=>False):=Z5D W B st.os st.output<|λi hi=>st.keep i hi<|JM _
 refine⟨a,[],p++[],[],p,[],L,?_,?_,?_,World.keptBut_mono (λ_ h=>h.elim) R,nofun⟩
 .rw[ZXr,y a c,G];exact⟨[],[],⟨1,by rw[DataW.trod_step];unfold DataW.trodStep;rw[aa];rfl⟩,rfl,rfl⟩
 .rw[ZXr,y a c];exact C7 w Q<|λx C=>⟨by simpa using K x C,A x<|K x C⟩
 .rw[l,ZXr,y a c];rfl
end
end Go.AM
