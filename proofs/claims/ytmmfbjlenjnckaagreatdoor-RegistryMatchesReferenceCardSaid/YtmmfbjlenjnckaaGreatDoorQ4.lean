/- From the abstract machine to contracts over typed data. No condition. -/
import Derived.Test.YtmmfbjlenjnckaaGreatDoorQ3
import Derived.Deep.DeepHandedRow
import Derived.ProofKit
import Derived.OpenShut
set_option linter.unusedVariables false
set_option linter.defProp false
set_option linter.unusedSimpArgs false
set_option linter.unusedSectionVars false
namespace Go.AM
open Go
inductive CSh where
 |bool
 |int (k:IntKind)
 |str
 |sl (ag:Bool) (es:List CSh)
 deriving Inhabited
def byC:CSh->Nat
 | .int .i64=>8
 | .str=>16
 | .sl _ _=>24
 |_=>1
def byS(l:List CSh):Nat:=(l.map byC).sum
mutual
def Wc:CSh->AV->Prop
 | .bool,a=>∃b,a=.bool b
 | .int k,a=>∃n,a=.int k n/\(Lit.int k n).wf=true
 | .str,a=>∃s:ByteArray,a=.str s/\s.size<=maxLen
 | .sl ag es,a=>∃xs,a=.isl false false es.length xs/\xs.length*byS es<=reachBytes/\∀x∈xs,(ag=true->∃cs,x=.agg cs/\Wcs es cs)/\(ag=false->Wcs es [x])
def Wcs:List CSh->List AV->Prop
 |[],as=>as=[]
 |s::ss,as=>∃a r,as=a::r/\Wc s a/\Wcs ss r
end
def C0:∀{ss:List CSh}{as:List AV},Wcs ss as->as.length=ss.length
 |[],as,h=>by rw[Wcs]at h;subst h;rfl
 |s::ss,as,h=>by
  rw[Wcs]at h;obtain⟨a,r,rfl,_,h2⟩:=h;simp[C0 h2]
def M7:∀{s1 s2:List CSh}{a1 a2:List AV},Wcs s1 a1->Wcs s2 a2->Wcs (s1++s2) (a1++a2)
 |[],s2,a1,a2,h1,h2=>by rw[Wcs]at h1;subst h1;exact h2
 |s::ss,s2,a1,a2,h1,h2=>by
  rw[Wcs]at h1;obtain⟨a,r,rfl,h3,h4⟩:=h1;rw[ZXj,Wcs];exact⟨a,r++a2,rfl,h3,M7 h4 h2⟩
def isAgg(P:Program)(t:TypeId):Bool:=match P.underlying t with
 |some (.struct _)|some (.array _ _)=>true
 |_=>false
def Kn(P:Program)(fl:TypeId->Option (List CSh)):Nat->List Field->Option (List CSh)
 |_,[]=>some []
 |o,f::fs=>
  if f.offset=o then
   match fl f.type with
   |some a=>if a.length=P.cellsOf f.type then(Kn P fl (o+P.cellsOf f.type) fs).map (a++·)else none
   |none=>none
  else none
def Y7(P:Program):Nat->TypeId->Option (List CSh)
 |0,_=>none
 |n+1,t=>
  match P.underlying t with
  |some .bool=>some [.bool]
  |some (.int k)=>some [.int k]
  |some .string=>some [.str]
  |some (.slice e)=>match Y7 P n e with
   |some es=>if es.length=P.cellsOf e/\0<es.length/\byS es<=P.bytesOf e then some [.sl (isAgg P e) es]else none
   |none=>none
  |some (.struct fs)=>match Kn P (Y7 P n) 0 fs.toList with
   |some es=>if es.length=P.cellsOf t then some es else none
   |none=>none
  |some (.array m e)=>match Y7 P n e with
   |some es=>if es.length=P.cellsOf e/\m*es.length=P.cellsOf t then some ((List.replicate m es).flatten)else none
   |none=>none
  |_=>none
section
variable {H:Type} {enc:TypeId×Value→H} {P:Program} {w:World}
def T0:Ty:=λ_=>none
def JM(r:Nat):¬T0.rng r:=by rintro⟨b,c,h,_⟩;cases h
def X0(P:Program):Xt:=⟨λ_=>False,Chk P⟩
mutual
def Z5u:∀(s:CSh)(a:AV),Wc s a->clean a=true
 | .bool,a,h=>by rw[Wc]at h;obtain⟨b,rfl⟩:=h;rfl
 | .int k,a,h=>by rw[Wc]at h;obtain⟨b,rfl,_⟩:=h;rfl
 | .str,a,h=>by rw[Wc]at h;obtain⟨b,rfl,_⟩:=h;rfl
 | .sl ag es,a,h=>by rw[Wc]at h;obtain⟨b,rfl,_⟩:=h;rfl
def M8:∀(s:List CSh)(a:List AV),Wcs s a->Z4 a=true
 |[],a,h=>by rw[Wcs]at h;subst h;rfl
 |s::ss,a,h=>by
  rw[Wcs]at h;obtain⟨a,r,rfl,h1,h2⟩:=h;simp[Z4,Z5u s a h1,M8 ss r h2]
end
def M9{ag:Bool}{es:List CSh}:∀(xs:List AV),(∀x∈xs,(ag=true->∃cs,x=.agg cs/\Wcs es cs)/\(ag=false->Wcs es [x]))->Z4 xs=true
 |[],_=>rfl
 |x::xs,h=>by
  obtain⟨h1,h2⟩:=h x<|by simp
  have hx:clean x=true:=by
   cases ag with
   |true=>obtain⟨cs,rfl,h3⟩:=h1 rfl;exact M8 _ _ h3
   |false=>
    have:=M8 _ _<|h2 rfl;simpa[Z4]using this
  simp[Z4,hx,M9 xs<|λy hy=>h y<|by simp[hy]]
def Z5v{a:Addr}{v:Value}(h:w.cell? a=some v):a=⟨a.block,a.off,none⟩/\a.block<w.heap.size:=by
 unfold World.cell? at h;split at h
 .rename_i c _ _ hb;split at h
  .cases h
  .rename_i hs;refine⟨?_,(ZXN.1 hb).1⟩;cases a with
   |mk b o s=>cases s with
    |none=>rfl
    |some s=>exact absurd rfl hs
 .cases h
def Z5w{base:Nat}{a:Addr}{n:Nat}{cs:List Value}(h:w.cells? base a n=some cs):cs.length=n/\∀i,i<n->w.cell? (a.add i)=cs[i]?:=by
 unfold World.cells? at h;split at h
 .refine⟨by simpa using mapM_some_length h,λi hi=>?_⟩
  have h1:=mapM_some_get h i i<|by simp[hi]
  exact h1
 .cases h
def C1{T:Ty}{X:Xt}{r:Nat}:∀{as:List AV}{cs:List Value}{o:Nat},Rs T X w as cs->(∀i,i<cs.length->w.cell? ⟨r,o+i,none⟩=cs[i]?)->ZV T X w r as o
 |[],_,_,_,_=>trivial
 |a::as,cs,o,h,hc=>by
  simp only[Rs]at h;obtain⟨v,vr,rfl,h1,h2⟩:=h;refine⟨⟨v,by simpa[World.at]using hc 0 (by simp),h1⟩,C1 h2 λi hi=>?_⟩
  have:=hc (i+1)<|by simp;omega
  rw[show o+1+i=o+(i+1)by omega]
  simpa using this
def C3{T:Ty}{X:Xt}{sz r:Nat}:∀{xs:List AV}{o:Nat},(∀i x,xs[i]?=some x->∃cs,x=.agg cs/\cs.length=sz/\ZV T X w r cs (o+i*sz))->ZA T X w sz r xs o
 |[],_,_=>trivial
 |x::xs,o,h=>by
  obtain⟨cs,rfl,h1,h2⟩:=h 0 x rfl;rw[ZA];refine⟨h1,by simpa using h2,C3 λi y hy=>?_⟩
  obtain⟨cs',h3,h4,h5⟩:=h (i+1) y<|by simpa using hy
  exact⟨cs',h3,h4,by rw[show o+sz+i*sz=o+(i+1)*sz by rw[ZXw];omega];exact h5⟩
def C4{T:Ty}{X:Xt}{r:Nat}:∀{xs:List AV}{o:Nat},(∀i x,xs[i]?=some x->(∀cs,x≠.agg cs)/\∃v,w.cell? ⟨r,o+i,none⟩=some v/\R T X w x v)->ZA T X w 1 r xs o
 |[],_,_=>trivial
 |x::xs,o,h=>by
  obtain⟨h0,v,h1,h2⟩:=h 0 x rfl;have key:ZA T X w 1 r xs (o+1):=C4 λi y hy=>by
   obtain⟨h3,v',h4,h5⟩:=h (i+1) y<|by simpa using hy
   exact⟨h3,v',by rw[show o+1+i=o+(i+1)by omega];exact h4,h5⟩
  cases x with
  |agg cs=>exact absurd rfl (h0 cs)
  |_=>exact⟨rfl,⟨v,h1,h2⟩,key⟩
def Z5x{s:CSh}{a:AV}(h:Wc s a):∀cs,a≠.agg cs:=by
 rintro cs rfl;cases s with
 |bool=>rw[Wc]at h;obtain⟨b,hb⟩:=h;cases hb
 |int k=>rw[Wc]at h;obtain⟨b,hb,_⟩:=h;cases hb
 |str=>rw[Wc]at h;obtain⟨b,hb,_⟩:=h;cases hb
 |sl ag es=>rw[Wc]at h;obtain⟨b,hb,_⟩:=h;cases hb
def add_add(b o i j:Nat):((⟨b,o,none⟩:Addr).add i).add j=⟨b,o+i+j,none⟩:=by
 unfold Addr.add;by_cases hi:i=0
 .by_cases hj:j=0<;>simp[hi,hj]
 .by_cases hj:j=0<;>simp[hi,hj]
def Ma{α:Type}{Q:Nat->α->Prop}:∀(n:Nat),(∀i,i<n->∃x,Q i x)->∃xs:List α,xs.length=n/\∀i x,xs[i]?=some x->Q i x
 |0,_=>⟨[],rfl,by simp⟩
 |n+1,h=>by
  obtain⟨xs,h1,h2⟩:=Ma n<|λi hi=>h i<|by omega
  obtain⟨x,hx⟩:=h n<|by omega
  refine⟨xs++[x],by simp[h1],λi y hy=>?_⟩
  by_cases hi:i<n
  .exact h2 i y<|by rwa[ZXK<|by omega]at hy
  .have hlt:i<(xs++[x]).length:=(ZXg.1 hy).1;have:i=n:=by simp[h1]at hlt;omega
   subst this;rw[ZY0 (by omega),h1]at hy
   simp at hy;exact hy▸hx
def C5{n:Nat}{t:TypeId}{shs:List CSh}(h:Y7 P n t=some shs)(ha:isAgg P t=false):∃s,shs=[s]:=by
 cases n with
 |zero=>simp[Y7]at h
 |succ n=>
  rw[Y7]at h;unfold isAgg at ha;split at h
  .cases h;exact⟨_,rfl⟩
  .cases h;exact⟨_,rfl⟩
  .cases h;exact⟨_,rfl⟩
  .split at h
   .split at h
    .cases h;exact⟨_,rfl⟩
    .cases h
   .cases h
  .rename_i fs hu;simp[hu]at ha
  .rename_i m e hu;simp[hu]at ha
  .cases h
def bnd(P:Program)(t:TypeId)(d:DataW H):Prop:=∀m∈d.weights P t,m<=reachBytes
def Zxf{e:TypeId}:∀{ds:List (DataW H)}{i:Nat}{d:DataW H},(∀m∈DataW.weightsAll P e ds,m<=reachBytes)->ds[i]?=some d->bnd P e d
 |[],_,_,_,h=>by simp at h
 |c::r,0,d,hw,h=>by
  simp only[ZXy,Option.some.injEq]at h;subst h;intro m hm;exact hw m<|by rw[DataW.weightsAll];exact ZYm _ hm
 |c::r,i+1,d,hw,h=>by
  simp only[ZXS]at h;exact Zxf (λm hm=>hw m<|by rw[DataW.weightsAll];exact ZYX _ hm) h
def Z5y{held:Bool}{n fuel:Nat}{cs:List Value}
 (ih:∀(t:TypeId)(shs:List CSh),Y7 P n t=some shs->∀(fuel:Nat)(cs:List Value)(x:DataW H×List MemPlace),DataW.trod enc P w 0 (λ_=>true) held fuel t cs=some x->bnd P t x.1->∃as,Wcs shs as/\Rs T0 (X0 P) w as cs):
 ∀(fs:List Field)(o:Nat)(shs:List CSh)(xs:List<|DataW H×List MemPlace),Kn P (Y7 P n) o fs=some shs->fs.mapM (λf=>DataW.trod enc P w 0 (λ_=>true) held fuel f.type<|(cs.drop f.offset).take (P.cellsOf f.type))=some xs->(∀m∈DataW.weightsEach P (fs.map (·.type)) (xs.map (·.1)),m<=reachBytes)->
  cs.length=o+shs.length->∃as,Wcs shs as/\Rs T0 (X0 P) w as (cs.drop o):=by
 intro fs;induction fs with
 |nil=>
  intro o shs xs h _ _ hl;simp only[Kn]at h;cases h;refine⟨[],by rw[Wcs],?_⟩
  rw[ZZi<|by simp at hl;omega]
  rfl
 |cons f fs ihf=>
  intro o shs xs h hx hw hl;simp only[Kn]at h;split at h
  .rename_i ho;split at h
   .rename_i a ha;split at h
    .rename_i hal;simp only[ZXi]at h;obtain⟨b,hb,rfl⟩:=h;simp only[List.mapM_cons,Option.pure_def,Option.bind_eq_bind,ZYC,Option.some.injEq]at hx;obtain⟨y,hy,ys,hys,hxe⟩:=hx;subst hxe;rw[ZX3,ZX3,DataW.weightsEach]at hw;obtain⟨as,h1,h2⟩:=ih _ _ ha _ _ _ hy (λm hm=>hw m<|ZYm _ hm)
     rw[ZX7,hal]at hl;obtain⟨bs,h3,h4⟩:=ihf _ _ _ hb hys (λm hm=>hw m<|ZYX _ hm)<|by omega
     refine⟨as++bs,M7 h1 h3,?_⟩;have:cs.drop o=(cs.drop o).take (P.cellsOf f.type)++cs.drop (o+P.cellsOf f.type):=by
      rw[<-ZXZ,ZXW]
     rw[this];subst ho;exact QR h2 h4
    .cases h
   .cases h
  .cases h
def Z5z{held:Bool}{fuel k:Nat}{e:TypeId}{cs:List Value}{es:List CSh}(hk:es.length=k)
 (ih:∀(cs:List Value)(x:DataW H×List MemPlace),DataW.trod enc P w 0 (λ_=>true) held fuel e cs=some x->bnd P e x.1->∃as,Wcs es as/\Rs T0 (X0 P) w as cs):
 ∀(m o:Nat),(∀i,o<=i->i<o+m->∃x,DataW.trod enc P w 0 (λ_=>true) held fuel e ((cs.drop<|i*k).take k)=some x/\bnd P e x.1)->
  cs.length=o*k+m*k->∃as,Wcs (List.replicate m es).flatten as/\Rs T0 (X0 P) w as (cs.drop<|o*k):=by
 intro m;induction m with
 |zero=>
  intro o _ hl;refine⟨[],by simp[Wcs],?_⟩
  rw[ZZi<|by simp at hl;omega]
  rfl
 |succ m ihm=>
  intro o hx hl;obtain⟨x,hx0,hb0⟩:=hx o (ZX0 _)<|by omega
  obtain⟨as,h1,h2⟩:=ih _ _ hx0 hb0;obtain⟨bs,h3,h4⟩:=ihm (o+1) (λi h1 h2=>hx i (by omega)<|by omega)<|by rw[hl,ZXw,ZXw];omega
  refine⟨as++bs,by rw[ZYi,ZYr];exact M7 h1 h3,?_⟩
  have:cs.drop (o*k)=(cs.drop<|o*k).take k++cs.drop ((o+1)*k):=by
   rw[ZXw,Nat.one_mul,<-ZXZ,ZXW]
  rw[this];exact QR h2 h4
def read{held:Bool}:∀(n:Nat)(t:TypeId)(shs:List CSh),Y7 P n t=some shs->∀(fuel:Nat)(cs:List Value)(x:DataW H×List MemPlace),
 DataW.trod enc P w 0 (λ_=>true) held fuel t cs=some x->bnd P t x.1->∃as,Wcs shs as/\Rs T0 (X0 P) w as cs:=by
 intro n;induction n with
 |zero=>intro t shs h;simp[Y7]at h
 |succ n ih=>
  intro t shs h fuel cs x hx hw;cases fuel with
  |zero=>simp[DataW.trod]at hx
  |succ fuel=>
   rw[Y7]at h;split at h
   .rename_i hu;cases h;rw[DataW.trod_step]at hx;unfold DataW.trodStep at hx;rw[hu]at hx
    match cs,hx with
    |[.bool b],_=>exact⟨[.bool b],⟨_,_,rfl,⟨b,rfl⟩,rfl⟩,⟨_,_,rfl,rfl,rfl⟩⟩
   .rename_i k hu;cases h;rw[DataW.trod_step]at hx;unfold DataW.trodStep at hx;rw[hu]at hx
    match cs,hx with
    |[.int k' m],hx=>
     simp only at hx;split at hx
     .rename_i hc;obtain⟨rfl,hw⟩:=hc;exact⟨[.int k' m],⟨_,_,rfl,⟨m,rfl,hw⟩,rfl⟩,⟨_,_,rfl,rfl,rfl⟩⟩
     .cases hx
   .rename_i hu;cases h;rw[DataW.trod_step]at hx;unfold DataW.trodStep at hx;rw[hu]at hx
    match cs,hx with
    |[.string s],hx=>
     simp only at hx;split at hx
     .rename_i hc;exact⟨[.str s],⟨_,_,rfl,⟨s,rfl,hc⟩,rfl⟩,⟨_,_,rfl,rfl,rfl⟩⟩
     .cases hx
   .rename_i e hu;split at h
    .rename_i es hes;split at h
     .rename_i hlen;obtain⟨hlen,hpos,hby⟩:=hlen;cases h;rw[DataW.trod_step]at hx;unfold DataW.trodStep at hx;rw[hu]at hx
      match cs,hx with
      |[.slice none 0 0],_=>
       refine⟨[.isl false false es.length []],⟨_,_,rfl,?_,rfl⟩,⟨_,_,rfl,?_,rfl⟩⟩
       .rw[Wc];exact⟨[],rfl,by simp,by simp⟩
       .exact⟨none,0,0,rfl,rfl,ZX0 _,λ_=>rfl,rfl,.inl rfl⟩
      |[.slice (some a) len cap],hx=>
       simp only at hx;split at hx
       .rename_i hc;simp only[ZYC]at hx;obtain⟨Q2,hel,hrest⟩:=hx;simp only[ZXi]at hrest;obtain⟨rest,_,hxe⟩:=hrest;subst hxe;unfold bnd at hw;rw[DataW.weights,hu]at hw;dsimp only at hw;have hlen2:Q2.length=len:=by rw[mapM_some_length hel];simp
        have hle:len*byS es<=reachBytes:=by
         have h9:=hw _<|ZYa ..;rw[ZWQ,ZWQ,hlen2]at h9;exact ZXG (Nat.mul_le_mul (Nat.le_add_right _ _) hby) h9
        have hwe:∀m∈DataW.weightsAll P e (Q2.map (·.1)),m<=reachBytes:=λm hm=>hw m<|ZYV _<|ZYm _ hm
        have hcell:∀i,i<len->∃(cs:List Value)(as:List AV),cs.length=es.length/\(∀j,j<es.length->w.cell? ((a.add<|i*es.length).add j)=cs[j]?)/\Wcs es as/\Rs T0 (X0 P) w as cs:=by
         intro i hi;have h1:=mapM_some_get hel i i<|by simp[hi]
         have h2:i<Q2.length:=by rw[mapM_some_length hel];simpa using hi
         rw[ZX5 h2]at h1;simp only[ZYC]at h1;obtain⟨cs,h3,h4⟩:=h1;obtain⟨h5,h6⟩:=Z5w h3;obtain⟨as,h7,h8⟩:=ih e es hes _ _ _ h4<|Zxf (i:=i) hwe<|by rw[ZXJ,ZX5 h2];rfl
         rw[<-hlen]at h5 h6;exact⟨cs,as,h5,h6,h7,h8⟩
        by_cases h0:len=0
        .subst h0;refine⟨[.isl false false es.length []],⟨_,_,rfl,?_,rfl⟩,⟨_,_,rfl,?_,rfl⟩⟩
         .rw[Wc];exact⟨[],rfl,by simp,by simp⟩
         .exact⟨some a,0,cap,rfl,rfl,hc.2.1,nofun,rfl,.inl rfl⟩
        .have hsp:a=⟨a.block,a.off,none⟩/\a.block<w.heap.size:=by
          obtain⟨cs,as,h1,h2,_,_⟩:=hcell 0<|by omega
          have:=h2 0 hpos;rw[ZX5<|by omega]at this
          have e0:(a.add<|0*es.length).add 0=a:=by simp[Addr.add]
          rw[e0]at this;exact Z5v this
         obtain⟨hsp,hlt⟩:=hsp;have hadd:∀i j,(a.add<|i*es.length).add j=⟨a.block,a.off+i*es.length+j,none⟩:=by
          intro i j;exact(congrArg (λa:Addr=>(a.add<|i*es.length).add j) hsp).trans (add_add _ _ _ _)
         cases hag:isAgg P e with
         |true=>
          obtain⟨xs,h1,h2⟩:=Ma (Q:=λi(x:AV)=>∃cs,x=AV.agg cs/\Wcs es cs/\ZV T0 (X0 P) w a.block cs (a.off+i*es.length)) len (λi hi=>by
           obtain⟨cs,as,h1,h2,h3,h4⟩:=hcell i hi;refine⟨.agg as,as,rfl,h3,C1 h4 λj hj=>?_⟩
           rw[<-hadd];exact h2 j<|by omega)
          have hall:∀x∈xs,(true=true->∃cs,x=.agg cs/\Wcs es cs)/\(true=false->Wcs es [x]):=by
           intro x hx;obtain⟨i,hi⟩:=List.getElem?_of_mem hx;obtain⟨cs,h3,h4,_⟩:=h2 i x hi;exact⟨λ_=>⟨cs,h3,h4⟩,nofun⟩
          refine⟨[.isl false false es.length xs],⟨_,_,rfl,?_,rfl⟩,⟨_,_,rfl,?_,rfl⟩⟩
          .rw[Wc];exact⟨xs,rfl,by rw[h1];exact hle,hall⟩
          .refine⟨some a,len,cap,rfl,h1.symm,hc.2.1,nofun,M9 xs hall,.inr ⟨a.block,a.off,by rw[<-hsp],JM _,λ_ h=>h,hlt,?_⟩⟩
           exact C3 λi x hx=>by
            obtain⟨cs,h3,h4,h5⟩:=h2 i x hx;exact⟨cs,h3,C0 h4,h5⟩
         |false=>
          obtain⟨s,rfl⟩:=C5 hes hag;obtain⟨xs,h1,h2⟩:=Ma (Q:=λi(x:AV)=>Wcs [s] [x]/\(∀cs,x≠AV.agg cs)/\∃v,w.cell? ⟨a.block,a.off+i,none⟩=some v/\R T0 (X0 P) w x v) len (λi hi=>by
           obtain⟨cs,as,h1,h2,h3,h4⟩:=hcell i hi;rw[Wcs]at h3;obtain⟨x,r,rfl,h5,h6⟩:=h3;rw[Wcs]at h6;subst h6;obtain⟨v,vr,rfl,h7,h8⟩:=h4;refine⟨x,by rw[Wcs];exact⟨x,[],rfl,h5,by rw[Wcs]⟩,Z5x h5,v,?_,h7⟩
           have:=h2 0<|by simp
           rw[hadd]at this;simpa using this)
          have hall:∀x∈xs,(false=true->∃cs,x=.agg cs/\Wcs [s] cs)/\(false=false->Wcs [s] [x]):=by
           intro x hx;obtain⟨i,hi⟩:=List.getElem?_of_mem hx;exact⟨nofun,λ_=>(h2 i x hi).1⟩
          refine⟨[.isl false false 1 xs],⟨_,_,rfl,?_,rfl⟩,⟨_,_,rfl,?_,rfl⟩⟩
          .rw[Wc];exact⟨xs,rfl,by rw[h1];exact hle,hall⟩
          .refine⟨some a,len,cap,rfl,h1.symm,hc.2.1,nofun,M9 xs hall,.inr ⟨a.block,a.off,by rw[<-hsp],JM _,λ_ h=>h,hlt,?_⟩⟩
           exact C4 λi x hx=>(h2 i x hx).2
       .cases hx
     .cases h
    .cases h
   .rename_i fs hu;split at h
    .rename_i es hes;split at h
     .rename_i hlen;cases h;rw[DataW.trod_step]at hx;unfold DataW.trodStep at hx;rw[hu]at hx;simp only at hx;split at hx
      .rename_i hl;simp only[ZXi]at hx;obtain⟨xs,hxs,hxe⟩:=hx;subst hxe;unfold bnd at hw;rw[DataW.weights,hu]at hw;obtain⟨as,h1,h2⟩:=Z5y (λt shs h fuel cs x hx=>ih t shs h fuel cs x hx) _ _ _ _ hes hxs hw (by omega)
       exact⟨as,h1,h2⟩
      .cases hx
     .cases h
    .cases h
   .rename_i m e hu;split at h
    .rename_i es hes;split at h
     .rename_i hlen;cases h;rw[DataW.trod_step]at hx;unfold DataW.trodStep at hx;rw[hu]at hx;simp only at hx;split at hx
      .rename_i hl;simp only[ZXi]at hx;obtain⟨xs,hxs,hxe⟩:=hx;subst hxe;unfold bnd at hw;rw[DataW.weights,hu]at hw;dsimp only at hw;obtain⟨as,h1,h2⟩:=Z5z (k:=P.cellsOf e) (by omega) (λcs x hx=>ih e es hes _ cs x hx) m 0 (λi _ hi=>by
        have hl2:xs.length=m:=by rw[mapM_some_length hxs];simp
        have hi':i<m:=by omega
        have h1:=mapM_some_get hxs i i<|by simp[hi']
        have h2:i<xs.length:=by omega
        rw[ZX5 h2]at h1;exact⟨_,h1,Zxf (i:=i) hw<|by rw[ZXJ,ZX5 h2];rfl⟩) (by rw[hl,<-hlen.2,hlen.1];simp)
       exact⟨as,h1,by simpa using h2⟩
      .cases hx
     .cases h
    .cases h
   .cases h
def C6{fl:TypeId->Option (List CSh)}:∀{fs:List Field}{o:Nat}{shs:List CSh},Kn P fl o fs=some shs->∀f∈fs,∃a,fl f.type=some a
 |[],_,_,_,f,hf=>by cases hf
 |g::fs,o,shs,h,f,hf=>by
  simp only[Kn]at h;split at h
  .split at h
   .rename_i a ha;split at h
    .simp only[ZXi]at h;obtain⟨b,hb,_⟩:=h;rcases ZXv.1 hf with rfl|hf
     .exact⟨a,ha⟩
     .exact C6 hb f hf
    .cases h
   .cases h
  .cases h
def Z5A{held:Bool}{sp:Nat->Bool}:∀(n:Nat)(t:TypeId)(shs:List CSh),Y7 P n t=some shs->∀(fuel:Nat)(cs:List Value)(x:DataW H×List MemPlace),
 DataW.trod enc P w 0 (λ_=>true) held fuel t cs=some x->(∀p∈x.2,sp p.block=true)->DataW.trod enc P w 0 sp held fuel t cs=some x:=by
 intro n;induction n with
 |zero=>intro t shs h;simp[Y7]at h
 |succ n ih=>
  intro t shs h fuel cs x hx hs;cases fuel with
  |zero=>simp[DataW.trod]at hx
  |succ fuel=>
   rw[Y7]at h;rw[DataW.trod_step]at hx⊢;unfold DataW.trodStep at hx⊢;split at h
   .rename_i hu;rw[hu]at hx⊢
    match cs,hx with
    |[.bool b],hx=>exact hx
   .rename_i hu;rw[hu]at hx⊢
    match cs,hx with
    |[.int k m],hx=>exact hx
   .rename_i hu;rw[hu]at hx⊢
    match cs,hx with
    |[.string s],hx=>exact hx
   .rename_i e hu;rw[hu]at hx⊢;split at h
    .rename_i es hes;split at h
     .rename_i hlen
      match cs,hx with
      |[.slice none 0 0],hx=>exact hx
      |[.slice (some a) len cap],hx=>
       simp only at hx⊢;split at hx
       .rename_i hc;rw[if_pos hc];simp only[ZXi,ZYC]at hx⊢;obtain⟨Q2,hel,rest,hre,rfl⟩:=hx;simp only[if_true]at hre;have hll:Q2.length=len:=by rw[mapM_some_length hel];simp
        have hrl:rest.length=cap-len:=by rw[mapM_some_length hre];simp
        have one:∀(y:DataW H×List MemPlace)(i:Nat),y∈Q2++rest->(w.cells? 0 (a.add<|i*P.cellsOf e)<|P.cellsOf e).bind (DataW.trod enc P w 0 (λ_=>true) held fuel e)=some y->
         (w.cells? 0 (a.add<|i*P.cellsOf e)<|P.cellsOf e).bind (DataW.trod enc P w 0 sp held fuel e)=some y:=by
         intro y i hy h1;simp only[ZYC]at h1⊢;obtain⟨cs',h2,h3⟩:=h1;refine⟨cs',h2,ih e es hes fuel cs' y h3 λp hp=>hs p ?_⟩
         simp only[ZXF,ZYS];exact .inr ⟨y,by simpa using hy,hp⟩
        refine⟨Q2,mapM_carry hel<|λi y _ hy h1=>one y i (by simp[hy]) h1,rest,?_,rfl⟩
        by_cases hcap:cap=len
        .have:rest=[]:=List.eq_nil_of_length_eq_zero (by omega)
         subst this;subst hcap;split
         .simp
         .rfl
        .have hsp:sp a.block=true:=by
          have:=hs (.cell a.block a.off) (by
           simp only[ZXF];left;refine MemPlace.mem_row.2 ⟨0,?_,by simp⟩
           exact Nat.mul_pos (by omega)<|by omega)
          exact this
         rw[if_pos hsp];exact mapM_carry hre<|λi y _ hy h1=>one y (len+i) (by simp[hy]) h1
       .cases hx
     .cases h
    .cases h
   .rename_i fs hu;rw[hu]at hx⊢;split at h
    .rename_i es hes;simp only at hx⊢;split at hx
     .rename_i hc;rw[if_pos hc];simp only[ZXi]at hx⊢;obtain⟨xs,hxs,rfl⟩:=hx;refine⟨xs,mapM_carry hxs<|λf y hf hy h1=>?_,rfl⟩
      obtain⟨a,ha⟩:=C6 hes f hf;exact ih f.type a ha fuel _ y h1 λp hp=>hs p<|ZYS.2 ⟨y,hy,hp⟩
     .cases hx
    .cases h
   .rename_i m e hu;rw[hu]at hx⊢;split at h
    .rename_i es hes;simp only at hx⊢;split at hx
     .rename_i hc;rw[if_pos hc];simp only[ZXi]at hx⊢;obtain⟨xs,hxs,rfl⟩:=hx;exact⟨xs,mapM_carry hxs<|λf y _ hy h1=>ih e es hes fuel _ y h1 λp hp=>hs p<|ZYS.2 ⟨y,hy,hp⟩,rfl⟩
     .cases hx
    .cases h
   .cases h
def Z5B{n:Nat}{t:TypeId}{s:CSh}{cs:Array Value}{base:Nat}(hf:Y7 P n t=some [s])(hag:isAgg P t=false)(hok:Value.okWide P w .any base t<|.agg cs):False:=by
 cases n with
 |zero=>simp[Y7]at hf
 |succ n=>
  rw[Y7]at hf;split at hf
  .rename_i hu;simp[Value.okWide,hu,Cell.okWide,Cell.ok]at hok
  .rename_i hu;simp[Value.okWide,hu,Cell.okWide,Cell.ok]at hok
  .rename_i hu;simp[Value.okWide,hu,Cell.okWide,Cell.ok]at hok
  .rename_i hu;simp[Value.okWide,hu,Cell.okWide,Cell.ok]at hok
  .rename_i hu;simp[isAgg,hu]at hag
  .rename_i hu;simp[isAgg,hu]at hag
  .cases hf
def Z5C{held:Bool}{n:Nat}{t:TypeId}{shs:List CSh}{v:Value}{d:DataW H}{ps:List MemPlace}{base:Nat}(hf:Y7 P n t=some shs)(hok:Value.okWide P w .any base t v)
 (h:DataW.Trod enc P w 0 (λ_=>true) held t v d ps) (hb:bnd P t d):∃a,(isAgg P t=true->∃as,a=.agg as/\Wcs shs as)/\(isAgg P t=false->Wcs shs [a])/\R T0 (X0 P) w a v:=by
 obtain⟨fuel,h⟩:=h;obtain⟨as,h1,h2⟩:=read n t shs hf fuel _ _ h hb;cases hag:isAgg P t with
 |true=>
  have:∃cs,v=.agg cs:=by
   unfold isAgg at hag;unfold Value.okWide at hok;split at hag
   .rename_i hu;rw[hu]at hok;obtain⟨cs,h,_⟩:=hok;exact⟨cs,h⟩
   .rename_i hu;rw[hu]at hok;obtain⟨cs,h,_⟩:=hok;exact⟨cs,h⟩
   .cases hag
  obtain⟨cs,rfl⟩:=this;exact⟨.agg as,λ_=>⟨as,rfl,h1⟩,nofun,cs,rfl,h2⟩
 |false=>
  obtain⟨s,rfl⟩:=C5 hf hag;rw[Wcs]at h1;obtain⟨a,r,rfl,h3,h4⟩:=h1;rw[Wcs]at h4;subst h4;obtain⟨v',vr,h5,h6,h7⟩:=h2;have h7':vr=[]:=h7;subst h7';refine⟨a,nofun,λ_=>by rw[Wcs];exact⟨a,[],rfl,h3,by rw[Wcs]⟩,?_⟩
  have:v=v':=by
   cases v with
   |agg cs=>exact(Z5B hf hag hok).elim
   |_=>simpa[Value.cells]using h5
  exact this▸h6
def sig(P:Program)(n:Nat):List TypeId->Option (List<|Bool×List CSh)
 |[]=>some []
 |t::ts=>match Y7 P n t,sig P n ts with
  |some a,some r=>some<|(isAgg P t,a)::r
  |_,_=>none
def Wvs:List (Bool×List CSh)->List AV->Prop
 |[],as=>as=[]
 |s::ss,as=>∃a r,as=a::r/\(s.1=true->∃cs,a=.agg cs/\Wcs s.2 cs)/\(s.1=false->Wcs s.2 [a])/\Wvs ss r
def readAll{held:Bool}{n base:Nat}:∀{ts:List TypeId}{S:List (Bool×List CSh)}{vs:List Value}{ds:List (DataW H)}{ps:List MemPlace},sig P n ts=some S->
 (∀(j:Nat)t v,ts[j]?=some t->vs[j]?=some v->Value.okWide P w .any base t v)->DataW.TrodAll enc P w 0 (λ_=>true) held ts vs ds ps->(∀m∈DataW.weightsEach P ts ds,m<=reachBytes)->
 ∃as,Wvs S as/\Rs T0 (X0 P) w as vs
 |[],S,vs,ds,ps,hs,_,h,_=>by
  cases vs with
  |nil=>simp only[sig]at hs;cases hs;exact⟨[],rfl,rfl⟩
  |cons v vs=>cases ds<;>exact h.elim
 |t::ts,S,vs,ds,ps,hs,hv,h,hw=>by
  cases vs with
  |nil=>cases ds<;>exact h.elim
  |cons v vs=>
   cases ds with
   |nil=>exact h.elim
   |cons d ds=>
    obtain⟨p,q,h1,h2,rfl⟩:=h;rw[DataW.weightsEach]at hw;simp only[sig]at hs;split at hs
    .rename_i a r ha hr;cases hs;obtain⟨x,h3,h4,h5⟩:=Z5C ha (hv 0 t v rfl rfl) h1 (λm hm=>hw m<|ZYm _ hm)
     obtain⟨xs,h6,h7⟩:=readAll hr (λj t v h1 h2=>hv (j+1) t v (by simpa using h1)<|by simpa using h2) h2<|λm hm=>hw m<|ZYX _ hm
     exact⟨x::xs,⟨x,xs,rfl,h3,h4,h6⟩,v,vs,rfl,h5,h7⟩
    .cases hs
def ZAU{held:Bool}:∀(ts:List TypeId)(vs:List Value)(ds:List<|DataW H)(ps:List MemPlace),DataW.TrodAll enc P w 0 (λ_=>true) held ts vs ds ps->ds.length=ts.length:=by
 intro ts;induction ts with
 |nil=>intro vs ds ps h;cases vs<;>cases ds<;>first|rfl|exact h.elim
 |cons t ts ih=>
  intro vs ds ps h;cases vs with
  |nil=>cases ds<;>exact h.elim
  |cons v vs=>cases ds with
   |nil=>exact h.elim
   |cons d ds=>
    obtain⟨p,q,h1,h2,rfl⟩:=h;rw[ZXr,ZXr,ih _ _ _ h2]
def Zz6:∀{ts us:List TypeId}{ds gs:List (DataW H)},ds.length=ts.length->∀m∈DataW.weightsEach P ts ds,m∈DataW.weightsEach P (ts++us) (ds++gs)
 |[],us,[],gs,_,m,hm=>by rw[DataW.weightsEach]at hm;cases hm;simp
 |[],us,d::ds,gs,hl,_,_=>by simp at hl
 |t::ts,us,[],gs,hl,_,_=>by simp at hl
 |t::ts,us,d::ds,gs,hl,m,hm=>by
  rw[ZXj,ZXj,DataW.weightsEach];rw[DataW.weightsEach]at hm;rcases ZXF.1 hm with h|h
  .exact ZYm _ h
  .exact ZYX _<|Zz6 (by simpa using hl) m h
def C7{held:Bool}{n:Nat}{w':World}{sp:Nat->Bool}:∀{ts:List TypeId}{S:List (Bool×List CSh)}{vs:List Value}{ds:List (DataW H)}{ps:List MemPlace},sig P n ts=some S->
 DataW.TrodAll enc P w 0 (λ_=>true) held ts vs ds ps->(∀p∈ps,sp p.block=true/\w.sameAt w' p)->DataW.TrodAll enc P w' 0 sp held ts vs ds ps
 |[],S,vs,ds,ps,hs,h,_=>by
  cases vs with
  |nil=>cases ds<;>exact h
  |cons v vs=>cases ds<;>exact h.elim
 |t::ts,S,vs,ds,ps,hs,h,hp=>by
  cases vs with
  |nil=>cases ds<;>exact h.elim
  |cons v vs=>
   cases ds with
   |nil=>exact h.elim
   |cons d ds=>
    obtain⟨p,q,h1,h2,rfl⟩:=h;simp only[sig]at hs;split at hs
    .rename_i a r ha hr;obtain⟨fuel,h1⟩:=h1;refine⟨p,q,⟨fuel,?_⟩,C7 hr h2<|λx hx=>hp x<|by simp[hx],rfl⟩
     exact DataW.trod_carry fuel t _ _ (Z5A _ t a ha fuel _ _ h1<|λx hx=>(hp x<|by simp[show x∈p from hx]).1)<|λx hx=>(hp x<|by simp[show x∈p from hx]).2
    .cases hs
def Z5D(W W':World)(h1:W'.os=W.os)(h2:W'.output=W.output)(h3:∀i,i<W.heap.size->W'.heap[i]?=W.heap[i]?):W.keptBut W' (λ_=>False):=by
 refine⟨h1,h2,λi hi=>?_⟩
 rw[h3 i hi];have:=(World.keptBut_refl W<|λ_=>False).2.2 i hi
 exact this
def Z5E(w:World):M T0 (X0 P) [] w where
 inj b c b' c' r h:=by cases h
 lt r h:=(JM r h).elim
 notX r h:=(JM r h).elim
 obj b:=by simp[YR,T0]
def Z5F{h:Hp}:∀(n:Nat){v:AV}{b:Bool},freeze false h n v=some (.bool b)->v=.bool b
 |0,v,b,hv=>by simp[freeze]at hv
 |n+1,v,b,hv=>by
  cases hc:clean v with
  |true=>
   unfold freeze at hv;rw[hc,cond_true]at hv;exact Option.some.inj hv
  |false=>
   exfalso;unfold freeze at hv;rw[hc,cond_false]at hv;cases v with
   |agg cs=>simp at hv
   |tup cs=>simp at hv
   |ifc t x=>simp at hv
   |clo fn a c=>simp only at hv;split at hv<;>simp at hv
   |iptr bw cs=>cases bw<;>simp at hv
   |isl bw ex sz es=>cases bw<;>simp at hv
   |imap bw ks vs=>cases bw<;>simp at hv
   |ptr b i off g=>
    simp only at hv;split at hv
    .simp only[cond]at hv;split at hv
     .split at hv<;>simp at hv
     .cases hv
    .cases hv
   |sl b g off len ex=>
    simp only at hv;split at hv
    .simp only[cond]at hv;split at hv<;>simp at hv
    .cases hv
   |mp b=>
    simp only at hv;split at hv
    .simp only[cond]at hv;split at hv<;>simp at hv
    .cases hv
   |_=>first|(simp only[clean]at hc;cases hc;done)|(cases hv;done)
def Z5G{h:Hp}{v:AV}{b:Bool}(hv:YE h v=some (.bool b)):v=.bool b:=by
 unfold YE at hv;cases hc:clean v with
 |true=>rw[hc,cond_true]at hv;exact Option.some.inj hv
 |false=>rw[hc,cond_false]at hv;exact Z5F 40 hv
def Z5H{E:Env}{f:Nat}{as:List AV}{b:Bool}(hs:E.sum f=none)(h:pfn E f as=some (.bool b)):∃n h',QX E n f as []=some (.bool b,h'):=by
 unfold pfn at h;cases hf:fnV E f as []with
 |none=>rw[hf]at h;cases h
 |some r=>
  rw[hf,ZM]at h;have hv:=Z5G h;obtain⟨n,hn⟩:=(Yr<|GC f as []).1 hf;cases n with
  |zero=>simp[Qz]at hn
  |succ n=>
   simp only[Qz,hs]at hn;exact⟨n,r.2,by rw[hn,<-hv]⟩
def Z5I{E:Env}(ok:EnvOk P E){f:Nat}{fn:Func}{s:ChangeSpec}{n:Nat}{S:List (Bool×List CSh)}{tb:TypeId}(hsum:E.sum f=none)(hvars:s.vars=[])(hsig:sig P n fn.params.toList=some S)
 (hres:fn.resultTypes = #[tb]) (htb:P.underlying tb=some .bool) (hfn:∀ds:List<|DataW H,ds.length=fn.params.size->s.fn H ds={results:=[.lit<|.bool true],args:=ds})
 (hspec:∀as,Wvs S as->pfn E f as=some (.bool true))
 (W:World) (hgl:GlR E T0 (X0 P) W) (base:Nat) (args:Array Value) (ds gs:List<|DataW H) (before:List MemPlace)
 (hval:∀(j:Nat)t v,fn.params[j]?=some t->args[j]?=some v->Value.okWide P W .any base t v)
 (hW:DataW.Whole enc P fn.params.toList s.vars false W args.toList ds gs before) {us:List TypeId} (hwt:(DataW.weightsEach P (fn.params.toList++us)<|ds++gs).all (·<=reachBytes)=true):
 Calls P f args W λe W'=>∃v,e=.returned v/\s.post enc P fn false true false false W args v W':=by
 have hW':=hW;obtain⟨p,q,hA,hV,rfl,hfz,hnd⟩:=hW;obtain⟨as,h1,h2⟩:=readAll hsig (λj t v h1 h2=>hval j t v (by simpa using h1)<|by simpa using h2) hA (λm hm=>by
  have:=ZXl.1 hwt m<|Zz6 (ZAU _ _ _ _ hA) m hm;simpa using this)
 obtain⟨k,h',hrun⟩:=Z5H hsum<|hspec as h1;have hc:=((TM ok k).body f as [] (.bool true) h' hrun T0 (X0 P) W args rfl ⟨Z5E W,hgl,λr hr=>hr.elim⟩ h2).2
 refine hc.mono λe W'⟨rv,he,T',st,m,hr⟩=>⟨rv,he,?_⟩
 have hr':rv=.bool true:=hr;subst hr';rw[hvars]at hV;have hgq:gs=[]/\q=[]:=by
  cases gs with
  |nil=>exact⟨rfl,hV⟩
  |cons g gs=>exact hV.elim
 obtain⟨rfl,rfl⟩:=hgq;have hlen:ds.length=fn.params.size:=by
  have:∀(ts:List TypeId)(vs:List Value)(ds:List<|DataW H)(ps:List MemPlace),DataW.TrodAll enc P W 0 (λ_=>true) true ts vs ds ps->ds.length=ts.length:=by
   intro ts;induction ts with
   |nil=>intro vs ds ps h;cases vs<;>cases ds<;>first|rfl|exact h.elim
   |cons t ts ih=>
    intro vs ds ps h;cases vs with
    |nil=>cases ds<;>exact h.elim
    |cons v vs=>cases ds with
     |nil=>exact h.elim
     |cons d ds=>obtain⟨_,_,_,h2,_⟩:=h;simp[ih _ _ _ h2]
  simpa using this _ _ _ _ hA
 have hlt:∀x∈p,x.block<W.heap.size:=λx hx=>hW'.lt x<|by simpa using hx
 have hsame:∀x:MemPlace,x.block<W.heap.size->W.sameAt W' x:=by
  intro x hx;have hk:=st.keep x.block hx<|JM _;cases x with
  |cell b o=>
   have hk':W'.heap[b]?=W.heap[b]?:=hk;simp only[World.sameAt,World.cell?,hk']
  |map b=>exact hk
 have hk:W.keptBut W' (λ_=>False):=Z5D W W' st.os st.output<|λi hi=>st.keep i hi<|JM _
 refine⟨ds,[],p++[],[],p,[],hW',?_,?_,?_,World.keptBut_mono (λ_ h=>h.elim) hk,nofun⟩
 .rw[ZXe,hfn ds hlen,hres];exact⟨[],[],⟨1,by rw[DataW.trod_step];unfold DataW.trodStep;rw[htb];rfl⟩,rfl,rfl⟩
 .rw[ZXe,hfn ds hlen];exact C7 hsig hA<|λx hx=>⟨by simpa using hlt x hx,hsame x<|hlt x hx⟩
 .rw[hvars,ZXe,hfn ds hlen];rfl
end
end Go.AM
