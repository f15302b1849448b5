/- From the abstract machine to contracts over typed data. No condition. -/
import Derived.Test.YtnjibjdmniajjaaGreatDoorQ3
import Derived.Deep.DeepHandedRow
import Derived.ProofKit
import Derived.OpenShut
set_option linter.unusedVariables false
set_option linter.defProp false
set_option linter.unusedSimpArgs false
set_option linter.unusedSectionVars false
namespace Go.AM
open Go
inductive CSh where
 |bool
 |int (k:IntKind)
 |str
 |sl (ag:Bool) (es:List CSh)
 deriving Inhabited
def byC:CSh->Nat
 | .int .i64=>8
 | .str=>16
 | .sl _ _=>24
 |_=>1
def byS(l:List CSh):Nat:=(l.map byC).sum
mutual
def Wc:CSh->AV->Prop
 | .bool,a=>∃b,a=.bool b
 | .int k,a=>∃n,a=.int k n/\(Lit.int k n).wf=true
 | .str,a=>∃s:ByteArray,a=.str s/\s.size<=maxLen
 | .sl ag es,a=>∃xs,a=.isl false false es.length xs/\xs.length*byS es<=reachBytes/\∀x∈xs,(ag=true->∃cs,x=.agg cs/\Wcs es cs)/\(ag=false->Wcs es [x])
def Wcs:List CSh->List AV->Prop
 |[],as=>as=[]
 |s::ss,as=>∃a r,as=a::r/\Wc s a/\Wcs ss r
end
def C0:∀{b:List CSh}{as:List AV},Wcs b as->as.length=b.length
 |[],as,h=>by rw[Wcs]at h;subst h;rfl
 |s::b,as,h=>by
  rw[Wcs]at h;obtain⟨a,r,rfl,_,c⟩:=h;simp[C0 c]
def M7:∀{e d:List CSh}{c b:List AV},Wcs e c->Wcs d b->Wcs (e++d) (c++b)
 |[],d,c,b,h1,h2=>by rw[Wcs]at h1;subst h1;exact h2
 |s::ss,d,c,b,h1,h2=>by
  rw[Wcs]at h1;obtain⟨a,r,rfl,g,f⟩:=h1;rw[ZSv,Wcs];exact⟨a,r++b,rfl,g,M7 f h2⟩
def isAgg(P:Program)(t:TypeId):Bool:=match P.underlying t with
 |some (.struct _)|some (.array _ _)=>true
 |_=>false
def Kn(P:Program)(b:TypeId->Option (List CSh)):Nat->List Field->Option (List CSh)
 |_,[]=>some []
 |o,f::fs=>
  if f.offset=o then
   match b f.type with
   |some a=>if a.length=P.cellsOf f.type then(Kn P b (o+P.cellsOf f.type) fs).map (a++·)else none
   |none=>none
  else none
def Y7(P:Program):Nat->TypeId->Option (List CSh)
 |0,_=>none
 |n+1,t=>
  match P.underlying t with
  |some .bool=>some [.bool]
  |some (.int k)=>some [.int k]
  |some .string=>some [.str]
  |some (.slice e)=>match Y7 P n e with
   |some es=>if es.length=P.cellsOf e/\0<es.length/\byS es<=P.bytesOf e then some [.sl (isAgg P e) es]else none
   |none=>none
  |some (.struct fs)=>match Kn P (Y7 P n) 0 fs.toList with
   |some es=>if es.length=P.cellsOf t then some es else none
   |none=>none
  |some (.array m e)=>match Y7 P n e with
   |some es=>if es.length=P.cellsOf e/\m*es.length=P.cellsOf t then some ((List.replicate m es).flatten)else none
   |none=>none
  |_=>none
section
variable {H:Type} {enc:TypeId×Value→H} {P:Program} {w:World}
def T0:Ty:=λ_=>none
def JM(r:Nat):¬T0.rng r:=by rintro⟨b,c,h,_⟩;cases h
def X0(P:Program):Xt:=⟨λ_=>False,Chk P⟩
mutual
def Z5u:∀(s:CSh)(a:AV),Wc s a->clean a=true
 | .bool,a,h=>by rw[Wc]at h;obtain⟨b,rfl⟩:=h;rfl
 | .int k,a,h=>by rw[Wc]at h;obtain⟨b,rfl,_⟩:=h;rfl
 | .str,a,h=>by rw[Wc]at h;obtain⟨b,rfl,_⟩:=h;rfl
 | .sl ag es,a,h=>by rw[Wc]at h;obtain⟨b,rfl,_⟩:=h;rfl
def M8:∀(s:List CSh)(a:List AV),Wcs s a->Z4 a=true
 |[],a,h=>by rw[Wcs]at h;subst h;rfl
 |s::ss,a,h=>by
  rw[Wcs]at h;obtain⟨a,r,rfl,b,c⟩:=h;simp[Z4,Z5u s a b,M8 ss r c]
end
def M9{a:Bool}{es:List CSh}:∀(xs:List AV),(∀x∈xs,(a=true->∃cs,x=.agg cs/\Wcs es cs)/\(a=false->Wcs es [x]))->Z4 xs=true
 |[],_=>rfl
 |x::xs,h=>by
  obtain⟨b,d⟩:=h x<|by simp
  have c:clean x=true:=by
   cases a with
   |true=>obtain⟨cs,rfl,e⟩:=b rfl;exact M8 _ _ e
   |false=>
    have:=M8 _ _<|d rfl;simpa[Z4]using this
  simp[Z4,c,M9 xs<|λy f=>h y<|by simp[f]]
def Z5v{a:Addr}{v:Value}(h:w.cell? a=some v):a=⟨a.block,a.off,none⟩/\a.block<w.heap.size:=by
 unfold World.cell? at h;split at h
 .rename_i c _ _ e;split at h
  .cases h
  .rename_i d;refine⟨?_,(ZTi.1 e).1⟩;cases a with
   |mk b o s=>cases s with
    |none=>rfl
    |some s=>exact absurd rfl d
 .cases h
def Z5w{b:Nat}{a:Addr}{n:Nat}{cs:List Value}(h:w.cells? b a n=some cs):cs.length=n/\∀i,i<n->w.cell? (a.add i)=cs[i]?:=by
 unfold World.cells? at h;split at h
 .refine⟨by simpa using mapM_some_length h,λi d=>?_⟩
  have c:=mapM_some_get h i i<|by simp[d]
  exact c
 .cases h
def C1{T:Ty}{X:Xt}{r:Nat}:∀{as:List AV}{cs:List Value}{o:Nat},Rs T X w as cs->(∀i,i<cs.length->w.cell? ⟨r,o+i,none⟩=cs[i]?)->ZV T X w r as o
 |[],_,_,_,_=>trivial
 |a::as,cs,o,h,hc=>by
  simp only[Rs]at h;obtain⟨v,e,rfl,b,c⟩:=h;refine⟨⟨v,by simpa[World.at]using hc 0 (by simp),b⟩,C1 c λi d=>?_⟩
  have:=hc (i+1)<|by simp;omega
  rw[show o+1+i=o+(i+1)by omega]
  simpa using this
def C3{T:Ty}{X:Xt}{sz r:Nat}:∀{xs:List AV}{o:Nat},(∀i x,xs[i]?=some x->∃cs,x=.agg cs/\cs.length=sz/\ZV T X w r cs (o+i*sz))->ZA T X w sz r xs o
 |[],_,_=>trivial
 |x::xs,o,h=>by
  obtain⟨cs,rfl,b,e⟩:=h 0 x rfl;rw[ZA];refine⟨b,by simpa using e,C3 λi y g=>?_⟩
  obtain⟨a,f,d,c⟩:=h (i+1) y<|by simpa using g
  exact⟨a,f,d,by rw[show o+sz+i*sz=o+(i+1)*sz by rw[ZSY];omega];exact c⟩
def C4{T:Ty}{X:Xt}{r:Nat}:∀{xs:List AV}{o:Nat},(∀i x,xs[i]?=some x->(∀cs,x≠.agg cs)/\∃v,w.cell? ⟨r,o+i,none⟩=some v/\R T X w x v)->ZA T X w 1 r xs o
 |[],_,_=>trivial
 |x::xs,o,h=>by
  obtain⟨f,v,b,e⟩:=h 0 x rfl;have a:ZA T X w 1 r xs (o+1):=C4 λi y j=>by
   obtain⟨g,v',d,c⟩:=h (i+1) y<|by simpa using j
   exact⟨g,v',by rw[show o+1+i=o+(i+1)by omega];exact d,c⟩
  cases x with
  |agg cs=>exact absurd rfl (f cs)
  |_=>exact⟨rfl,⟨v,b,e⟩,a⟩
def Z5x{s:CSh}{a:AV}(h:Wc s a):∀cs,a≠.agg cs:=by
 rintro cs rfl;cases s with
 |bool=>rw[Wc]at h;obtain⟨b,c⟩:=h;cases c
 |int k=>rw[Wc]at h;obtain⟨b,c,_⟩:=h;cases c
 |str=>rw[Wc]at h;obtain⟨b,c,_⟩:=h;cases c
 |sl d es=>rw[Wc]at h;obtain⟨b,c,_⟩:=h;cases c
def add_add(b o i j:Nat):((⟨b,o,none⟩:Addr).add i).add j=⟨b,o+i+j,none⟩:=by
 unfold Addr.add;by_cases c:i=0
 .by_cases a:j=0<;>simp[c,a]
 .by_cases a:j=0<;>simp[c,a]
def Ma{d:Type}{Q:Nat->d->Prop}:∀(n:Nat),(∀i,i<n->∃x,Q i x)->∃xs:List d,xs.length=n/\∀i x,xs[i]?=some x->Q i x
 |0,_=>⟨[],rfl,by simp⟩
 |n+1,h=>by
  obtain⟨xs,b,g⟩:=Ma n<|λi f=>h i<|by omega
  obtain⟨x,e⟩:=h n<|by omega
  refine⟨xs++[x],by simp[b],λi y a=>?_⟩
  by_cases f:i<n
  .exact g i y<|by rwa[ZT2<|by omega]at a
  .have c:i<(xs++[x]).length:=(ZSA.1 a).1;have:i=n:=by simp[b]at c;omega
   subst this;rw[ZTd (by omega),b]at a
   simp at a;exact a▸e
def C5{n:Nat}{t:TypeId}{a:List CSh}(h:Y7 P n t=some a)(b:isAgg P t=false):∃s,a=[s]:=by
 cases n with
 |zero=>simp[Y7]at h
 |succ n=>
  rw[Y7]at h;unfold isAgg at b;split at h
  .cases h;exact⟨_,rfl⟩
  .cases h;exact⟨_,rfl⟩
  .cases h;exact⟨_,rfl⟩
  .split at h
   .split at h
    .cases h;exact⟨_,rfl⟩
    .cases h
   .cases h
  .rename_i d c;simp[c]at b
  .rename_i m e c;simp[c]at b
  .cases h
def bnd(P:Program)(t:TypeId)(d:DataW H):Prop:=∀m∈d.weights P t,m<=reachBytes
def Zxf{e:TypeId}:∀{b:List (DataW H)}{i:Nat}{d:DataW H},(∀m∈DataW.weightsAll P e b,m<=reachBytes)->b[i]?=some d->bnd P e d
 |[],_,_,_,h=>by simp at h
 |c::r,0,d,hw,h=>by
  simp only[ZT6,Option.some.injEq]at h;subst h;intro m a;exact hw m<|by rw[DataW.weightsAll];exact ZTM _ a
 |c::r,i+1,d,hw,h=>by
  simp only[ZTp]at h;exact Zxf (λm a=>hw m<|by rw[DataW.weightsAll];exact ZUb _ a) h
def Z5y{e:Bool}{n d:Nat}{cs:List Value}
 (v:∀(t:TypeId)(c:List CSh),Y7 P n t=some c->∀(d:Nat)(cs:List Value)(x:DataW H×List MemPlace),DataW.trod enc P w 0 (λ_=>true) e d t cs=some x->bnd P t x.1->∃as,Wcs c as/\Rs T0 (X0 P) w as cs):
 ∀(g:List Field)(o:Nat)(c:List CSh)(xs:List<|DataW H×List MemPlace),Kn P (Y7 P n) o g=some c->g.mapM (λf=>DataW.trod enc P w 0 (λ_=>true) e d f.type<|(cs.drop f.offset).take (P.cellsOf f.type))=some xs->(∀m∈DataW.weightsEach P (g.map (·.type)) (xs.map (·.1)),m<=reachBytes)->
  cs.length=o+c.length->∃as,Wcs c as/\Rs T0 (X0 P) w as (cs.drop o):=by
 intro g;induction g with
 |nil=>
  intro o c xs h _ _ l;simp only[Kn]at h;cases h;refine⟨[],by rw[Wcs],?_⟩
  rw[ZV3<|by simp at l;omega]
  rfl
 |cons f g q=>
  intro o c xs h s i l;simp only[Kn]at h;split at h
  .rename_i E;split at h
   .rename_i a B;split at h
    .rename_i r;simp only[ZSD]at h;obtain⟨b,G,rfl⟩:=h;simp only[List.mapM_cons,Option.pure_def,Option.bind_eq_bind,ZUl,Option.some.injEq]at s;obtain⟨y,z,ys,p,j⟩:=s;subst j;rw[ZSx,ZSx,DataW.weightsEach]at i;obtain⟨as,u,C⟩:=v _ _ B _ _ _ z (λm k=>i m<|ZTM _ k)
     rw[ZSJ,r]at l;obtain⟨A,D,F⟩:=q _ _ _ G p (λm k=>i m<|ZUb _ k)<|by omega
     refine⟨as++A,M7 u D,?_⟩;have:cs.drop o=(cs.drop o).take (P.cellsOf f.type)++cs.drop (o+P.cellsOf f.type):=by
      rw[<-ZTF,ZTt]
     rw[this];subst E;exact QR C F
    .cases h
   .cases h
  .cases h
def Z5z{b:Bool}{a k:Nat}{e:TypeId}{cs:List Value}{es:List CSh}(s:es.length=k)
 (p:∀(cs:List Value)(x:DataW H×List MemPlace),DataW.trod enc P w 0 (λ_=>true) b a e cs=some x->bnd P e x.1->∃as,Wcs es as/\Rs T0 (X0 P) w as cs):
 ∀(m o:Nat),(∀i,o<=i->i<o+m->∃x,DataW.trod enc P w 0 (λ_=>true) b a e ((cs.drop<|i*k).take k)=some x/\bnd P e x.1)->
  cs.length=o*k+m*k->∃as,Wcs (List.replicate m es).flatten as/\Rs T0 (X0 P) w as (cs.drop<|o*k):=by
 intro m;induction m with
 |zero=>
  intro o _ g;refine⟨[],by simp[Wcs],?_⟩
  rw[ZV3<|by simp at g;omega]
  rfl
 |succ m f=>
  intro o j g;obtain⟨x,c,d⟩:=j o (ZSr _)<|by omega
  obtain⟨as,h,l⟩:=p _ _ c d;obtain⟨n,r,q⟩:=f (o+1) (λi h l=>j i (by omega)<|by omega)<|by rw[g,ZSY,ZSY];omega
  refine⟨as++n,by rw[ZU7,ZUf];exact M7 h r,?_⟩
  have:cs.drop (o*k)=(cs.drop<|o*k).take k++cs.drop ((o+1)*k):=by
   rw[ZSY,Nat.one_mul,<-ZTF,ZTt]
  rw[this];exact QR l q
def read{S:Bool}:∀(n:Nat)(t:TypeId)(y:List CSh),Y7 P n t=some y->∀(g:Nat)(cs:List Value)(x:DataW H×List MemPlace),
 DataW.trod enc P w 0 (λ_=>true) S g t cs=some x->bnd P t x.1->∃as,Wcs y as/\Rs T0 (X0 P) w as cs:=by
 intro n;induction n with
 |zero=>intro t y h;simp[Y7]at h
 |succ n W=>
  intro t y h g cs x c q;cases g with
  |zero=>simp[DataW.trod]at c
  |succ g=>
   rw[Y7]at h;split at h
   .rename_i u;cases h;rw[DataW.trod_step]at c;unfold DataW.trodStep at c;rw[u]at c
    match cs,c with
    |[.bool b],_=>exact⟨[.bool b],⟨_,_,rfl,⟨b,rfl⟩,rfl⟩,⟨_,_,rfl,rfl,rfl⟩⟩
   .rename_i k u;cases h;rw[DataW.trod_step]at c;unfold DataW.trodStep at c;rw[u]at c
    match cs,c with
    |[.int k' m],c=>
     simp only at c;split at c
     .rename_i M;obtain⟨rfl,q⟩:=M;exact⟨[.int k' m],⟨_,_,rfl,⟨m,rfl,q⟩,rfl⟩,⟨_,_,rfl,rfl,rfl⟩⟩
     .cases c
   .rename_i u;cases h;rw[DataW.trod_step]at c;unfold DataW.trodStep at c;rw[u]at c
    match cs,c with
    |[.string s],c=>
     simp only at c;split at c
     .rename_i M;exact⟨[.str s],⟨_,_,rfl,⟨s,rfl,M⟩,rfl⟩,⟨_,_,rfl,rfl,rfl⟩⟩
     .cases c
   .rename_i e u;split at h
    .rename_i es z;split at h
     .rename_i d;obtain⟨d,V,Z⟩:=d;cases h;rw[DataW.trod_step]at c;unfold DataW.trodStep at c;rw[u]at c
      match cs,c with
      |[.slice none 0 0],_=>
       refine⟨[.isl false false es.length []],⟨_,_,rfl,?_,rfl⟩,⟨_,_,rfl,?_,rfl⟩⟩
       .rw[Wc];exact⟨[],rfl,by simp,by simp⟩
       .exact⟨none,0,0,rfl,rfl,ZSr _,λ_=>rfl,rfl,.inl rfl⟩
      |[.slice (some a) len cap],c=>
       simp only at c;split at c
       .rename_i M;simp only[ZUl]at c;obtain⟨Q2,K,B⟩:=c;simp only[ZSD]at B;obtain⟨ac,_,D⟩:=B;subst D;unfold bnd at q;rw[DataW.weights,u]at q;dsimp only at q;have L:Q2.length=len:=by rw[mapM_some_length K];simp
        have O:len*byS es<=reachBytes:=by
         have h9:=q _<|ZSV ..;rw[ZSs,ZSs,L]at h9;exact ZTa (Nat.mul_le_mul (Nat.le_add_right _ _) Z) h9
        have ab:∀m∈DataW.weightsAll P e (Q2.map (·.1)),m<=reachBytes:=λm hm=>q m<|ZT4 _<|ZTM _ hm
        have p:∀i,i<len->∃(cs:List Value)(as:List AV),cs.length=es.length/\(∀j,j<es.length->w.cell? ((a.add<|i*es.length).add j)=cs[j]?)/\Wcs es as/\Rs T0 (X0 P) w as cs:=by
         intro i C;have l:=mapM_some_get K i i<|by simp[C]
         have f:i<Q2.length:=by rw[mapM_some_length K];simpa using C
         rw[ZSu f]at l;simp only[ZUl]at l;obtain⟨cs,E,G⟩:=l;obtain⟨N,U⟩:=Z5w E;obtain⟨as,X,h8⟩:=W e es z _ _ _ G<|Zxf (i:=i) ab<|by rw[ZT7,ZSu f];rfl
         rw[<-d]at N U;exact⟨cs,as,N,U,X,h8⟩
        by_cases h0:len=0
        .subst h0;refine⟨[.isl false false es.length []],⟨_,_,rfl,?_,rfl⟩,⟨_,_,rfl,?_,rfl⟩⟩
         .rw[Wc];exact⟨[],rfl,by simp,by simp⟩
         .exact⟨some a,0,cap,rfl,rfl,M.2.1,nofun,rfl,.inl rfl⟩
        .have A:a=⟨a.block,a.off,none⟩/\a.block<w.heap.size:=by
          obtain⟨cs,as,l,f,_,_⟩:=p 0<|by omega
          have:=f 0 V;rw[ZSu<|by omega]at this
          have e0:(a.add<|0*es.length).add 0=a:=by simp[Addr.add]
          rw[e0]at this;exact Z5v this
         obtain⟨A,T⟩:=A;have J:∀i j,(a.add<|i*es.length).add j=⟨a.block,a.off+i*es.length+j,none⟩:=by
          intro i j;exact(congrArg (λa:Addr=>(a.add<|i*es.length).add j) A).trans (add_add _ _ _ _)
         cases Y:isAgg P e with
         |true=>
          obtain⟨xs,l,f⟩:=Ma (Q:=λi(x:AV)=>∃cs,x=AV.agg cs/\Wcs es cs/\ZV T0 (X0 P) w a.block cs (a.off+i*es.length)) len (λi C=>by
           obtain⟨cs,as,l,f,E,G⟩:=p i C;refine⟨.agg as,as,rfl,E,C1 G λj hj=>?_⟩
           rw[<-J];exact f j<|by omega)
          have o:∀x∈xs,(true=true->∃cs,x=.agg cs/\Wcs es cs)/\(true=false->Wcs es [x]):=by
           intro x c;obtain⟨i,C⟩:=ZTR c;obtain⟨cs,E,G,_⟩:=f i x C;exact⟨λ_=>⟨cs,E,G⟩,nofun⟩
          refine⟨[.isl false false es.length xs],⟨_,_,rfl,?_,rfl⟩,⟨_,_,rfl,?_,rfl⟩⟩
          .rw[Wc];exact⟨xs,rfl,by rw[l];exact O,o⟩
          .refine⟨some a,len,cap,rfl,l.symm,M.2.1,nofun,M9 xs o,.inr ⟨a.block,a.off,by rw[<-A],JM _,λ_ h=>h,T,?_⟩⟩
           exact C3 λi x c=>by
            obtain⟨cs,E,G,N⟩:=f i x c;exact⟨cs,E,C0 G,N⟩
         |false=>
          obtain⟨s,rfl⟩:=C5 z Y;obtain⟨xs,l,f⟩:=Ma (Q:=λi(x:AV)=>Wcs [s] [x]/\(∀cs,x≠AV.agg cs)/\∃v,w.cell? ⟨a.block,a.off+i,none⟩=some v/\R T0 (X0 P) w x v) len (λi C=>by
           obtain⟨cs,as,l,f,E,G⟩:=p i C;rw[Wcs]at E;obtain⟨x,r,rfl,N,U⟩:=E;rw[Wcs]at U;subst U;obtain⟨v,vr,rfl,X,h8⟩:=G;refine⟨x,by rw[Wcs];exact⟨x,[],rfl,N,by rw[Wcs]⟩,Z5x N,v,?_,X⟩
           have:=f 0<|by simp
           rw[J]at this;simpa using this)
          have o:∀x∈xs,(false=true->∃cs,x=.agg cs/\Wcs [s] cs)/\(false=false->Wcs [s] [x]):=by
           intro x c;obtain⟨i,C⟩:=ZTR c;exact⟨nofun,λ_=>(f i x C).1⟩
          refine⟨[.isl false false 1 xs],⟨_,_,rfl,?_,rfl⟩,⟨_,_,rfl,?_,rfl⟩⟩
          .rw[Wc];exact⟨xs,rfl,by rw[l];exact O,o⟩
          .refine⟨some a,len,cap,rfl,l.symm,M.2.1,nofun,M9 xs o,.inr ⟨a.block,a.off,by rw[<-A],JM _,λ_ h=>h,T,?_⟩⟩
           exact C4 λi x c=>(f i x c).2
       .cases c
     .cases h
    .cases h
   .rename_i fs u;split at h
    .rename_i es z;split at h
     .rename_i d;cases h;rw[DataW.trod_step]at c;unfold DataW.trodStep at c;rw[u]at c;simp only at c;split at c
      .rename_i hl;simp only[ZSD]at c;obtain⟨xs,F,D⟩:=c;subst D;unfold bnd at q;rw[DataW.weights,u]at q;obtain⟨as,l,f⟩:=Z5y (λt y h g cs x c=>W t y h g cs x c) _ _ _ _ z F q (by omega)
       exact⟨as,l,f⟩
      .cases c
     .cases h
    .cases h
   .rename_i m e u;split at h
    .rename_i es z;split at h
     .rename_i d;cases h;rw[DataW.trod_step]at c;unfold DataW.trodStep at c;rw[u]at c;simp only at c;split at c
      .rename_i hl;simp only[ZSD]at c;obtain⟨xs,F,D⟩:=c;subst D;unfold bnd at q;rw[DataW.weights,u]at q;dsimp only at q;obtain⟨as,l,f⟩:=Z5z (k:=P.cellsOf e) (by omega) (λcs x c=>W e es z _ cs x c) m 0 (λi _ C=>by
        have ad:xs.length=m:=by rw[mapM_some_length F];simp
        have aa:i<m:=by omega
        have l:=mapM_some_get F i i<|by simp[aa]
        have f:i<xs.length:=by omega
        rw[ZSu f]at l;exact⟨_,l,Zxf (i:=i) q<|by rw[ZT7,ZSu f];rfl⟩) (by rw[hl,<-d.2,d.1];simp)
       exact⟨as,l,by simpa using f⟩
      .cases c
     .cases h
    .cases h
   .cases h
def C6{e:TypeId->Option (List CSh)}:∀{d:List Field}{o:Nat}{c:List CSh},Kn P e o d=some c->∀f∈d,∃a,e f.type=some a
 |[],_,_,_,f,hf=>by cases hf
 |g::d,o,c,h,f,hf=>by
  simp only[Kn]at h;split at h
  .split at h
   .rename_i a i;split at h
    .simp only[ZSD]at h;obtain⟨b,j,_⟩:=h;rcases ZST.1 hf with rfl|hf
     .exact⟨a,i⟩
     .exact C6 j f hf
    .cases h
   .cases h
  .cases h
def Z5A{g:Bool}{G:Nat->Bool}:∀(n:Nat)(t:TypeId)(v:List CSh),Y7 P n t=some v->∀(d:Nat)(cs:List Value)(x:DataW H×List MemPlace),
 DataW.trod enc P w 0 (λ_=>true) g d t cs=some x->(∀p∈x.2,G p.block=true)->DataW.trod enc P w 0 G g d t cs=some x:=by
 intro n;induction n with
 |zero=>intro t v h;simp[Y7]at h
 |succ n L=>
  intro t v h d cs x c J;cases d with
  |zero=>simp[DataW.trod]at c
  |succ d=>
   rw[Y7]at h;rw[DataW.trod_step]at c⊢;unfold DataW.trodStep at c⊢;split at h
   .rename_i l;rw[l]at c⊢
    match cs,c with
    |[.bool b],c=>exact c
   .rename_i l;rw[l]at c⊢
    match cs,c with
    |[.int k m],c=>exact c
   .rename_i l;rw[l]at c⊢
    match cs,c with
    |[.string s],c=>exact c
   .rename_i e l;rw[l]at c⊢;split at h
    .rename_i es o;split at h
     .rename_i N
      match cs,c with
      |[.slice none 0 0],c=>exact c
      |[.slice (some a) len cap],c=>
       simp only at c⊢;split at c
       .rename_i E;rw[if_pos E];simp only[ZSD,ZUl]at c⊢;obtain⟨M,A,j,z,rfl⟩:=c;simp only[if_true]at z;have Q:M.length=len:=by rw[mapM_some_length A];simp
        have U:j.length=cap-len:=by rw[mapM_some_length z];simp
        have D:∀(y:DataW H×List MemPlace)(i:Nat),y∈M++j->(w.cells? 0 (a.add<|i*P.cellsOf e)<|P.cellsOf e).bind (DataW.trod enc P w 0 (λ_=>true) g d e)=some y->
         (w.cells? 0 (a.add<|i*P.cellsOf e)<|P.cellsOf e).bind (DataW.trod enc P w 0 G g d e)=some y:=by
         intro y i r q;simp only[ZUl]at q⊢;obtain⟨B,S,T⟩:=q;refine⟨B,S,L e es o d B y T λp F=>J p ?_⟩
         simp only[ZSQ,ZUi];exact .inr ⟨y,by simpa using r,F⟩
        refine⟨M,mapM_carry A<|λi y _ r q=>D y i (by simp[r]) q,j,?_,rfl⟩
        by_cases C:cap=len
        .have:j=[]:=List.eq_nil_of_length_eq_zero (by omega)
         subst this;subst C;split
         .simp
         .rfl
        .have K:G a.block=true:=by
          have:=J (.cell a.block a.off) (by
           simp only[ZSQ];left;refine MemPlace.mem_row.2 ⟨0,?_,by simp⟩
           exact Nat.mul_pos (by omega)<|by omega)
          exact this
         rw[if_pos K];exact mapM_carry z<|λi y _ r q=>D y (len+i) (by simp[r]) q
       .cases c
     .cases h
    .cases h
   .rename_i V l;rw[l]at c⊢;split at h
    .rename_i es o;simp only at c⊢;split at c
     .rename_i E;rw[if_pos E];simp only[ZSD]at c⊢;obtain⟨xs,u,rfl⟩:=c;refine⟨xs,mapM_carry u<|λf y O r q=>?_,rfl⟩
      obtain⟨a,R⟩:=C6 o f O;exact L f.type a R d _ y q λp F=>J p<|ZUi.2 ⟨y,r,F⟩
     .cases c
    .cases h
   .rename_i m e l;rw[l]at c⊢;split at h
    .rename_i es o;simp only at c⊢;split at c
     .rename_i E;rw[if_pos E];simp only[ZSD]at c⊢;obtain⟨xs,u,rfl⟩:=c;exact⟨xs,mapM_carry u<|λf y _ r q=>L e es o d _ y q λp F=>J p<|ZUi.2 ⟨y,r,F⟩,rfl⟩
     .cases c
    .cases h
   .cases h
def Z5B{n:Nat}{t:TypeId}{s:CSh}{cs:Array Value}{c:Nat}(e:Y7 P n t=some [s])(d:isAgg P t=false)(b:Value.okWide P w .any c t<|.agg cs):False:=by
 cases n with
 |zero=>simp[Y7]at e
 |succ n=>
  rw[Y7]at e;split at e
  .rename_i a;simp[Value.okWide,a,Cell.okWide,Cell.ok]at b
  .rename_i a;simp[Value.okWide,a,Cell.okWide,Cell.ok]at b
  .rename_i a;simp[Value.okWide,a,Cell.okWide,Cell.ok]at b
  .rename_i a;simp[Value.okWide,a,Cell.okWide,Cell.ok]at b
  .rename_i a;simp[isAgg,a]at d
  .rename_i a;simp[isAgg,a]at d
  .cases e
def Z5C{g:Bool}{n:Nat}{t:TypeId}{e:List CSh}{v:Value}{d:DataW H}{ps:List MemPlace}{i:Nat}(j:Y7 P n t=some e)(b:Value.okWide P w .any i t v)
 (h:DataW.Trod enc P w 0 (λ_=>true) g t v d ps) (y:bnd P t d):∃a,(isAgg P t=true->∃as,a=.agg as/\Wcs e as)/\(isAgg P t=false->Wcs e [a])/\R T0 (X0 P) w a v:=by
 obtain⟨f,h⟩:=h;obtain⟨as,k,o⟩:=read n t e j f _ _ h y;cases c:isAgg P t with
 |true=>
  have:∃cs,v=.agg cs:=by
   unfold isAgg at c;unfold Value.okWide at b;split at c
   .rename_i m;rw[m]at b;obtain⟨cs,h,_⟩:=b;exact⟨cs,h⟩
   .rename_i m;rw[m]at b;obtain⟨cs,h,_⟩:=b;exact⟨cs,h⟩
   .cases c
  obtain⟨cs,rfl⟩:=this;exact⟨.agg as,λ_=>⟨as,rfl,k⟩,nofun,cs,rfl,o⟩
 |false=>
  obtain⟨s,rfl⟩:=C5 j c;rw[Wcs]at k;obtain⟨a,r,rfl,z,p⟩:=k;rw[Wcs]at p;subst p;obtain⟨v',u,x,q,A⟩:=o;have l:u=[]:=A;subst l;refine⟨a,nofun,λ_=>by rw[Wcs];exact⟨a,[],rfl,z,by rw[Wcs]⟩,?_⟩
  have:v=v':=by
   cases v with
   |agg cs=>exact(Z5B j c b).elim
   |_=>simpa[Value.cells]using x
  exact this▸q
def sig(P:Program)(n:Nat):List TypeId->Option (List<|Bool×List CSh)
 |[]=>some []
 |t::ts=>match Y7 P n t,sig P n ts with
  |some a,some r=>some<|(isAgg P t,a)::r
  |_,_=>none
def Wvs:List (Bool×List CSh)->List AV->Prop
 |[],as=>as=[]
 |s::ss,as=>∃a r,as=a::r/\(s.1=true->∃cs,a=.agg cs/\Wcs s.2 cs)/\(s.1=false->Wcs s.2 [a])/\Wvs ss r
def readAll{c:Bool}{n f:Nat}:∀{e:List TypeId}{S:List (Bool×List CSh)}{vs:List Value}{b:List (DataW H)}{ps:List MemPlace},sig P n e=some S->
 (∀(j:Nat)t v,e[j]?=some t->vs[j]?=some v->Value.okWide P w .any f t v)->DataW.TrodAll enc P w 0 (λ_=>true) c e vs b ps->(∀m∈DataW.weightsEach P e b,m<=reachBytes)->
 ∃as,Wvs S as/\Rs T0 (X0 P) w as vs
 |[],S,vs,b,ps,hs,_,h,_=>by
  cases vs with
  |nil=>simp only[sig]at hs;cases hs;exact⟨[],rfl,rfl⟩
  |cons v vs=>cases b<;>exact h.elim
 |t::e,S,vs,b,ps,hs,hv,h,hw=>by
  cases vs with
  |nil=>cases b<;>exact h.elim
  |cons v vs=>
   cases b with
   |nil=>exact h.elim
   |cons d b=>
    obtain⟨p,q,g,i,rfl⟩:=h;rw[DataW.weightsEach]at hw;simp only[sig]at hs;split at hs
    .rename_i a r s u;cases hs;obtain⟨x,z,y,o⟩:=Z5C s (hv 0 t v rfl rfl) g (λm k=>hw m<|ZTM _ k)
     obtain⟨xs,l,A⟩:=readAll u (λj t v g i=>hv (j+1) t v (by simpa using g)<|by simpa using i) i<|λm k=>hw m<|ZUb _ k
     exact⟨x::xs,⟨x,xs,rfl,z,y,l⟩,v,vs,rfl,o,A⟩
    .cases hs
def ZAU{b:Bool}:∀(c:List TypeId)(vs:List Value)(a:List<|DataW H)(ps:List MemPlace),DataW.TrodAll enc P w 0 (λ_=>true) b c vs a ps->a.length=c.length:=by
 intro c;induction c with
 |nil=>intro vs a ps h;cases vs<;>cases a<;>first|rfl|exact h.elim
 |cons t c e=>
  intro vs a ps h;cases vs with
  |nil=>cases a<;>exact h.elim
  |cons v vs=>cases a with
   |nil=>exact h.elim
   |cons d a=>
    obtain⟨p,q,g,f,rfl⟩:=h;rw[ZSG,ZSG,e _ _ _ f]
def Zz6:∀{c us:List TypeId}{b a:List (DataW H)},b.length=c.length->∀m∈DataW.weightsEach P c b,m∈DataW.weightsEach P (c++us) (b++a)
 |[],us,[],a,_,m,hm=>by rw[DataW.weightsEach]at hm;cases hm;simp
 |[],us,d::b,a,hl,_,_=>by simp at hl
 |t::c,us,[],a,hl,_,_=>by simp at hl
 |t::c,us,d::b,a,hl,m,hm=>by
  rw[ZSv,ZSv,DataW.weightsEach];rw[DataW.weightsEach]at hm;rcases ZSQ.1 hm with h|h
  .exact ZTM _ h
  .exact ZUb _<|Zz6 (by simpa using hl) m h
def C7{e:Bool}{n:Nat}{w':World}{j:Nat->Bool}:∀{g:List TypeId}{S:List (Bool×List CSh)}{vs:List Value}{c:List (DataW H)}{ps:List MemPlace},sig P n g=some S->
 DataW.TrodAll enc P w 0 (λ_=>true) e g vs c ps->(∀p∈ps,j p.block=true/\w.sameAt w' p)->DataW.TrodAll enc P w' 0 j e g vs c ps
 |[],S,vs,c,ps,hs,h,_=>by
  cases vs with
  |nil=>cases c<;>exact h
  |cons v vs=>cases c<;>exact h.elim
 |t::g,S,vs,c,ps,hs,h,hp=>by
  cases vs with
  |nil=>cases c<;>exact h.elim
  |cons v vs=>
   cases c with
   |nil=>exact h.elim
   |cons d c=>
    obtain⟨p,q,i,m,rfl⟩:=h;simp only[sig]at hs;split at hs
    .rename_i a r k l;obtain⟨b,i⟩:=i;refine⟨p,q,⟨b,?_⟩,C7 l m<|λx f=>hp x<|by simp[f],rfl⟩
     exact DataW.trod_carry b t _ _ (Z5A _ t a k b _ _ i<|λx f=>(hp x<|by simp[show x∈p from f]).1)<|λx f=>(hp x<|by simp[show x∈p from f]).2
    .cases hs
def Z5D(W a:World)(c:a.os=W.os)(d:a.output=W.output)(e:∀i,i<W.heap.size->a.heap[i]?=W.heap[i]?):W.keptBut a (λ_=>False):=by
 refine⟨c,d,λi b=>?_⟩
 rw[e i b];have:=(World.keptBut_refl W<|λ_=>False).2.2 i b
 exact this
def Z5E(w:World):M T0 (X0 P) [] w where
 inj b c b' c' r h:=by cases h
 lt r h:=(JM r h).elim
 notX r h:=(JM r h).elim
 obj b:=by simp[YR,T0]
def Z5F{h:Hp}:∀(n:Nat){v:AV}{b:Bool},freeze false h n v=some (.bool b)->v=.bool b
 |0,v,b,hv=>by simp[freeze]at hv
 |n+1,v,b,hv=>by
  cases d:clean v with
  |true=>
   unfold freeze at hv;rw[d,cond_true]at hv;exact Option.some.inj hv
  |false=>
   exfalso;unfold freeze at hv;rw[d,cond_false]at hv;cases v with
   |agg cs=>simp at hv
   |tup cs=>simp at hv
   |ifc t x=>simp at hv
   |clo fn a c=>simp only at hv;split at hv<;>simp at hv
   |iptr bw cs=>cases bw<;>simp at hv
   |isl bw f sz es=>cases bw<;>simp at hv
   |imap bw j vs=>cases bw<;>simp at hv
   |ptr b i off g=>
    simp only at hv;split at hv
    .simp only[cond]at hv;split at hv
     .split at hv<;>simp at hv
     .cases hv
    .cases hv
   |sl b g off e f=>
    simp only at hv;split at hv
    .simp only[cond]at hv;split at hv<;>simp at hv
    .cases hv
   |mp b=>
    simp only at hv;split at hv
    .simp only[cond]at hv;split at hv<;>simp at hv
    .cases hv
   |_=>first|(simp only[clean]at d;cases d;done)|(cases hv;done)
def Z5G{h:Hp}{v:AV}{b:Bool}(a:YE h v=some (.bool b)):v=.bool b:=by
 unfold YE at a;cases c:clean v with
 |true=>rw[c,cond_true]at a;exact Option.some.inj a
 |false=>rw[c,cond_false]at a;exact Z5F 40 a
def Z5H{E:Env}{f:Nat}{as:List AV}{b:Bool}(e:E.sum f=none)(h:pfn E f as=some (.bool b)):∃n h',QX E n f as []=some (.bool b,h'):=by
 unfold pfn at h;cases a:fnV E f as []with
 |none=>rw[a]at h;cases h
 |some r=>
  rw[a,ZM]at h;have d:=Z5G h;obtain⟨n,c⟩:=(Yr<|GC f as []).1 a;cases n with
  |zero=>simp[Qz]at c
  |succ n=>
   simp only[Qz,e]at c;exact⟨n,r.2,by rw[c,<-d]⟩
def Z5I{E:Env}(ok:EnvOk P E){f:Nat}{fn:Func}{s:ChangeSpec}{n:Nat}{S:List (Bool×List CSh)}{tb:TypeId}(J:E.sum f=none)(l:s.vars=[])(y:sig P n fn.params.toList=some S)
 (M:fn.resultTypes = #[tb]) (aa:P.underlying tb=some .bool) (A:∀c:List<|DataW H,c.length=fn.params.size->s.fn H c={results:=[.lit<|.bool true],args:=c})
 (z:∀as,Wvs S as->pfn E f as=some (.bool true))
 (W:World) (ad:GlR E T0 (X0 P) W) (Q:Nat) (a:Array Value) (c L:List<|DataW H) (w:List MemPlace)
 (G:∀(j:Nat)t v,fn.params[j]?=some t->a[j]?=some v->Value.okWide P W .any Q t v)
 (hW:DataW.Whole enc P fn.params.toList s.vars false W a.toList c L w) {us:List TypeId} (ac:(DataW.weightsEach P (fn.params.toList++us)<|c++L).all (·<=reachBytes)=true):
 Calls P f a W λe C=>∃v,e=.returned v/\s.post enc P fn false true false false W a v C:=by
 have R:=hW;obtain⟨p,q,U,hV,rfl,ae,af⟩:=hW;obtain⟨as,V,N⟩:=readAll y (λj t v V N=>G j t v (by simpa using V)<|by simpa using N) U (λm hm=>by
  have:=ZSw.1 ac m<|Zz6 (ZAU _ _ _ _ U) m hm;simpa using this)
 obtain⟨k,h',F⟩:=Z5H J<|z as V;have hc:=((TM ok k).body f as [] (.bool true) h' F T0 (X0 P) W a rfl ⟨Z5E W,ad,λr Z=>Z.elim⟩ N).2
 refine hc.mono λe C⟨rv,he,T',st,m,Z⟩=>⟨rv,he,?_⟩
 have X:rv=.bool true:=Z;subst X;rw[l]at hV;have ab:L=[]/\q=[]:=by
  cases L with
  |nil=>exact⟨rfl,hV⟩
  |cons g L=>exact hV.elim
 obtain⟨rfl,rfl⟩:=ab;have u:c.length=fn.params.size:=by
  have:∀(K:List TypeId)(vs:List Value)(c:List<|DataW H)(ps:List MemPlace),DataW.TrodAll enc P W 0 (λ_=>true) true K vs c ps->c.length=K.length:=by
   intro K;induction K with
   |nil=>intro vs c ps h;cases vs<;>cases c<;>first|rfl|exact h.elim
   |cons t K ih=>
    intro vs c ps h;cases vs with
    |nil=>cases c<;>exact h.elim
    |cons v vs=>cases c with
     |nil=>exact h.elim
     |cons d c=>obtain⟨_,_,_,N,_⟩:=h;simp[ih _ _ _ N]
  simpa using this _ _ _ _ U
 have O:∀x∈p,x.block<W.heap.size:=λx D=>R.lt x<|by simpa using D
 have B:∀x:MemPlace,x.block<W.heap.size->W.sameAt C x:=by
  intro x D;have T:=st.keep x.block D<|JM _;cases x with
  |cell b o=>
   have Y:C.heap[b]?=W.heap[b]?:=T;simp only[World.sameAt,World.cell?,Y]
  |map b=>exact T
 have T:W.keptBut C (λ_=>False):=Z5D W C st.os st.output<|λi hi=>st.keep i hi<|JM _
 refine⟨c,[],p++[],[],p,[],R,?_,?_,?_,World.keptBut_mono (λ_ h=>h.elim) T,nofun⟩
 .rw[ZSC,A c u,M];exact⟨[],[],⟨1,by rw[DataW.trod_step];unfold DataW.trodStep;rw[aa];rfl⟩,rfl,rfl⟩
 .rw[ZSC,A c u];exact C7 y U<|λx D=>⟨by simpa using O x D,B x<|O x D⟩
 .rw[l,ZSC,A c u];rfl
end
end Go.AM
