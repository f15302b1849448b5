/- The abstract machine and its soundness, part 3: what it computes, the program computes. No condition. -/
import Derived.Test.YtaeppjlndecijabGreatDoorQ2
import Derived.Sort.Grow
import Derived.Deep.Draws
import Derived.Laws.Entries
import Derived.Lib.ItoaNum
import Derived.Lib.Repeat
import Derived.Lib.Join
import Derived.Lib.SlTrimSet
import Derived.Lib.AtoiAll
set_option linter.unusedVariables false
set_option linter.defProp false
set_option linter.unusedSimpArgs false
set_option linter.unusedSectionVars false
namespace Go.AM
open Go
variable [Dr]
variable {P:Program} {E:Env} {T:Ty} {X:Xt} {w:World} {h:Hp} {fr:Fr} {a:Act}
def U2{x y:DRec}{b:Nat}(a:Qy x y=true)(c:x.wr=some b):y.all=false/\b ∉ y.rs/\(y.wr=some b->Kp x y=true):=by
 simp[Qy,ZZ9]at a
 grind
def Gz{x y:DRec}(h:Kp x y=true):∃k v j u,x.ik=some (k,v)/\y.ik=some (j,u)/\YF k j=true:=by
 grind [Kp]
theorem TE{x y:DRec}{b:Nat}(a:Qy x y=true)(c:y.wr=some b):x.all=false/\b ∉ x.rs:=by grind [Qy]
def TF{a:Array Bool}{K m:Nat}(d:a.size=K+m)(c:∀j,lis a j=decide (j<K)):a.toList.count false=m:=by
 have:a.toList=List.replicate K true++List.replicate m false:=by
  apply ZYy;intro j;have b:=c j;unfold lis at b;rw[ZYC]at b
  grind
 grind
theorem Lp{u:Array Oper}{N k sz n:Nat}{ro:Option Nat}{M:List (List Nat)}{v D:List AOper}(K:X.cr=Chk P)(R:N<=sz)(A:Chks P N u M v D){C:Nat}(y:∀j,j<C->AllOk P E j)
 {ex:AOper->Fr->Hp->Option (AV×DRec×Option (Nat×AObj))} {x:List Rc} {fr0:Fr} {B:Hp} {e:Fr} {h1:Hp} (m:Run ex fr0 B v M x e h1) {fr':Fr} {h':Hp} (q:ZS E C D e h1=some (fr',h'))
 {g:Nat} {c:Array Bool} {Q:Exit->Act->World->Prop} (l:c.size=u.size) (V:∀j,v.length<=j->lis c j=false) (o:c.toList.count false<=g)
 (z:At x fr0 B h1.length (lis c) fr h) (s:St E T X h w fr k sz a) (W:∀L O w',Step T w L w'->St E L X h' w' fr' k sz O->Q .normal O w') (i:∀j,j<v.length->lis c j=true):wpAnyIn (Qa ro) n P .any u Q g c a w:=by
 have p:∀j,lis c j=decide (j<v.length):=by
  grind
 have Y:∀{α:Type}(f:Rc->Option α)(d:α),LW (lis c) f 0 x d=LW Y0 f 0 x d:=λf d=>Gs _ _ _ (λj r J _=>by
  have:=(ZXu.1 J).1;rw[m.len]at this;rw[ZXA,i j this];rfl)
 have G:∀t,get e t=get fr t:=λt=>by rw[m.fr t,z.fr t,Y]
 have H:h=h1:=by
  apply ZYy;intro b;have F:LF (lis c) b 0 x (Qs B h1.length b)=LF Y0 b 0 x (Qs B h1.length b):=VN _ _ _ (λj r J _=>by
   have:=(ZXu.1 J).1;rw[m.len]at this;rw[ZXA,i j this];rfl)
  rw[z.hp b,F];have U:=m.hp b
  grind [Lh,Qs,Ll]
 subst H;have S:St E T X h w e k sz a:=s.withFr<|λt=>by rw[G t];exact s.f t
 refine Tv K R A.back C y D v.length g c T a w e h fr' h' Q A.len.symm A.op2 A.later l p q S ?_ W;rw[TF (by rw[l,A.len]) p]at o
 grind
def TG{ac:Array Oper}{N aw sz n:Nat}{ro:Option Nat}{un:List (List Nat)}{p1 p2:List AOper}(bl:X.cr=Chk P)(hN:N<=sz)(ck:Chks P N ac un p1 p2){k k2:Nat}(ih:AllOk P E k)(bt:∀j,j<k2->AllOk P E j)
 {B:List Rc} {fr0:Fr} {H:Hp} {bv:Fr} {h1:Hp} (au:Run (λo fr h=>Zk E (k+1) o fr h) fr0 H p1 un B bv h1) {fr':Fr} {h':Hp} (bm:ZS E k2 p2 bv h1=some (fr',h')):
 ∀(R:Nat)(g:Array Bool)(T:Ty)(w:World)(a:Act)(fr:Fr)(h:Hp)(Q:Exit->Act->World->Prop),g.size=ac.size->(∀j,p1.length<=j->lis g j=false)->Closed ac (lis g)->g.toList.count false<=R->
 At B fr0 H h1.length (lis g) fr h->St E T X h w fr aw sz a->(∀T' a' w',Step T w T' w'->St E T' X h' w' fr' aw sz a'->Q .normal a' w')->wpAnyIn (Qa ro) n P .any ac Q R g a w:=by
 intro R;induction R with
 |zero=>
  intro g T w a fr h Q M bu D af G s hq;refine Lp bl hN ck bt au bm M bu af G s hq λj J=>?_
  have ae:j<g.size:=by rw[M,ck.len];omega
  by_cases e:lis g j=true
  .grind
  .exfalso;have cy:false∈g.toList:=by
    unfold lis at e;rw[ZYC,ZYW ae]at e
    grind
   grind
 |succ R bw=>
  intro g T w a fr h Q M bu D af G s hq;by_cases bn:∀j,j<p1.length->lis g j=true
  .grind [Lp]
  .have bz:∀i o,ac[i]?=some o->∀e∈o.after,Region.binds .any e=true->e.on<i:=λi o ho e he hb=>by
    have:=Lj ck.back i o (by grind) e he hb
    omega
   have br:∀i,i∈Region.ready .any ac g->i<p1.length:=by
    intro i hi;have⟨dl,o,ho,h2⟩:=(KU M).1 hi;have av:=(ZYd.1 ho).1;by_cases e:i<p1.length
    .grind
    .exfalso;exact bn λj J=>Gu D i o ho h2 j<|ck.later i (by omega) av j<|by omega
   refine⟨λH=>?_,λi hi=>?_⟩
   ·
    exfalso;have cc:∃j,j<p1.length/\lis g j=false:=by
     grind
    have:∀m,(∀j,j<m->lis g j=true)\/∃j,j<m/\lis g j=false/\∀i,i<j->lis g i=true:=by
     intro m;induction m with
     |zero=>grind
     |succ m dt=>
      grind
    have⟨j0,dq,dr⟩:=cc;rcases this p1.length with hx|⟨j,q1,q2,q3⟩
    .grind
    .have de:j<ac.size:=by rw[ck.len];omega
     grind [Region.ready,KU]
   .have⟨cn,o,ho,h2⟩:=(KU M).1 hi;have av:=br i hi;have aq:p1[i]?=some p1[i]:=ZXj av;generalize p1[i]=q at aq;have⟨ch,z,r,u,k1,du,k3,k4,k5,k6,k7,k8,k9,df,bq,dm⟩:=au.op i q aq;have dn:r.d.wr=r.wr.map (·.1):=Gy k3;have ba:∀j,j<i->lis g j=true\/∃x y,p1[j]?=some x/\B[j]?=some y/\XZ x q=true/\Qy r.d y.d=true:=λj J=>TB au ck D ho h2 k1 aq J
    have F:∀(j:Nat)(C:Rc),B[j]?=some C->i<j->lis g j=true->(∃qj:AOper,C.dst=qj.dst/\XZ q qj=true)/\Qy C.d r.d=true/\C.d.wr=C.wr.map (·.1):=by
     intro j C A J hl;have⟨qj,uj,m1,m2,m3,⟨_,_,m4⟩,m5⟩:=KV au A
     grind [TD,Gy]
    have al:∀(j:Nat)(C:Rc),B[j]?=some C->∃x:AOper,p1[j]?=some x/\C.dst=x.dst/\C.d.wr=C.wr.map (·.1):=by
     grind [KV,Gy]
    have ar:∀t∈q.reads,get fr t=get ch t:=by
     intro t ht;rw[G.fr t,k8 t];refine Gs _ _ _ λj C A hs=>?_
     rw[ZXA]
     grind [Ry,below,Lk,Tx]
    have ca:∀b,(r.d.all=true\/b∈r.d.rs)->LF (lis g) b 0 B (Qs H h1.length b)=LF (below i) b 0 B (Qs H h1.length b):=by
     intro b hb;refine VN _ _ _ λj C A hs=>?_
     rw[ZXA];have⟨O,hw⟩:=hs;have⟨x,cq,cj,ax⟩:=al j C A;have aa:C.d.wr=some b:=by grind
     rcases Nat.lt_trichotomy j i with J|J|J
     .grind [below,TE]
     .grind [below]
     .have:below i j=false:=by grind [below]
      rw[this];cases ad:lis g j with
      |false=>rfl
      |true=>
       have⟨_,Z,_⟩:=F j C A J ad;have⟨z1,z2,_⟩:=U2 Z aa
       grind
    have ay:∀b O,z[b]?=some O->(r.d.all=true\/b∈r.d.rs)->h[b]?=some O:=by
     intro b O dh hb;rw[G.hp b,ca b hb]
     grind [Lh,Qs,Ll]
    have bc:z.length<=h.length:=by rw[G.len];omega
    have cb:∀O,r.wr=some (z.length,O)->h[z.length]?=none\/h[z.length]?=some .dead:=by
     intro O hw;have aj:r.d.wr=some z.length:=by grind
     rw[G.hp];have:LF (lis g) z.length 0 B (Qs H h1.length z.length)=Qs H h1.length z.length:=by
      refine U0 _ _ _ λj C A hs=>?_
      rw[ZXA];have⟨az,ap⟩:=hs;have⟨x,cq,cj,ax⟩:=al j C A;have aa:C.d.wr=some z.length:=by grind
      rcases Nat.lt_trichotomy j i with J|J|J
      .exfalso;have q1:(LF (below i) z.length 0 B<|H[z.length]?).isSome=true:=by
        cases be:C.d.ik with
        |none=>exact Li B 0 _<|.inr ⟨j,C,A,by grind [below],⟨az,ap⟩,be⟩
        |some kv=>
         have⟨ce,cv⟩:=kv;have cp:j<p1.length:=by grind
         have⟨cz,ae,rj,uj,m1,_,_,_,_,_,_,_,m9,_,cf,_⟩:=au.op j p1[j]<|ZXj cp;rw[A]at m1;cases m1;have⟨bj,db,dp,z1,z2⟩:=cf ce cv be;rw[ap]at z1;cases z1;rw[m9]at z2;have⟨hs,bc⟩:=Rv A;have e1:LF (below j) z.length 0 B (H[z.length]?)=LF Y0 z.length 0 (B.take j) (H[z.length]?):=by
          grind [L9]
         have e2:LF (below i) z.length 0 B (H[z.length]?)=LF (below i) z.length (0+j) (C::B.drop (j+1)) (LF Y0 z.length 0 (B.take j)<|H[z.length]?):=by
          have:=VO (S:=below i) (b:=z.length) (B.take j) (C::B.drop (j+1)) 0<|H[z.length]?
          grind [VN,below,Y0]
         grind [Li]
       grind
      .grind
      .cases ad:lis g j with
       |false=>rfl
       |true=>
        have⟨_,Z,_⟩:=F j C A J ad;have⟨_,_,_,_,_,ag,_⟩:=Gz<|(U2 Z aa).2.2 aj;exfalso;have⟨b2,cd,cm,z1,z2⟩:=bq _ _ ag
        grind
     rw[this];unfold Qs
     grind
    unfold wpOpIn;simp only[ho];have L:i<g.size:=by grind
    have bf:∀j,p1.length<=j->lis (g.setIfInBounds i true) j=false:=by
     intro j J;rw[X8 L,if_neg<|by omega]
     grind
    have U:Closed ac (lis<|g.setIfInBounds i true):=by
     intro j oj cw hl e he hb;rw[X8 L]at hl⊢;by_cases ee:e.on=i
     .rw[if_pos ee]
     .rw[if_neg ee];by_cases ej:j=i
      .grind
      .rw[if_neg ej]at hl;exact D j oj cw hl e he hb
    have ab:(g.setIfInBounds i true).toList.count false<=R:=by
     simp_all[lis,List.count_set]
    have bb:∀t,get (ZB fr q.dst r.v) t=LW (lis<|g.setIfInBounds i true) (fD t) 0 B (get fr0 t):=by
     intro t;rw[L8];by_cases ed:q.dst=some t
     .rw[if_pos ed];have cg:fD t r=some r.v:=by unfold fD;rw[if_pos<|k4.trans ed]
      refine(BO k1 cg (by rw[ZXA,X8 L,if_pos rfl]) λj C J A hs=>?_).symm
      rw[ZXA,X8 L,if_neg<|by omega]
      cases ad:lis g j with
      |false=>rfl
      |true=>
       have⟨⟨qj,m1,m2⟩,_,_⟩:=F j C A J ad;exact((Lk m2 ed).2 (m1▸Ry hs)).elim
     .rw[if_neg ed,G.fr t];refine Gs _ _ _ λj C A hs=>?_
      rw[ZXA,X8 L];by_cases e:j=i
      .grind [Ry]
      grind
    have W:∀b,¬YT b r->h[b]?=LF (lis<|g.setIfInBounds i true) b 0 B (Qs H h1.length b):=by
     intro b dg;rw[G.hp b];refine VN _ _ _ λj C A hs=>?_
     rw[ZXA,X8 L]
     grind
    have an:∀(b':Nat)(O:AObj),r.wr=some (b',O)->b'<h.length:=by
     intro b' O hw;rw[hw]at k5 k7;simp only[Ya,Nat.ble_eq]at k5;have:=Ks z b' O k5 b';rw[if_pos rfl]at this;have dc:=(ZXu.1 this).1;have dk:(setH z b' O).length<=h1.length:=k7;rw[G.len];omega
    cases am:r.d.ik with
    |none=>
     refine Tl ih k3 am ar ay bc cb bl hN (ck.op1 i o q ho aq) s _ Q ?_;intro T1 a1 w1 bk s1;refine bw (g.setIfInBounds i true) T1 w1 a1 _ _ Q (by grind) bf U ab ⟨bb,λb=>?_,?_⟩ s1<|λT2 a2 w2 bp s2=>hq T2 a2 w2 (bk.trans bp) s2
     .cases hw:r.wr with
      |none=>exact W b λ⟨O,h3⟩=>by grind
      |some p=>
       have⟨b',O⟩:=p;have ak:=an b' O hw;show(setH h b' O)[b]?=_
       rw[Ks h b' O<|by omega]
       by_cases eb:b=b'
       .subst eb;rw[if_pos rfl];have aj:r.d.wr=some b:=by grind
        refine(BP k1 hw am (by rw[ZXA,X8 L,if_pos rfl]) λj C J A hs=>?_).symm
        rw[ZXA,X8 L,if_neg<|by omega]
        cases ad:lis g j with
        |false=>rfl
        |true=>
         have⟨_,Z,ax⟩:=F j C A J ad;have⟨az,ap⟩:=hs;have aa:C.d.wr=some b:=by grind
         have⟨_,_,_,_,_,ag,_⟩:=Gz<|(U2 Z aa).2.2 aj
         grind
       .rw[if_neg eb];exact W b λ⟨cu,h3⟩=>by grind
     .cases hw:r.wr with
      |none=>exact G.len
      |some p=>
       have⟨b',O⟩:=p;have ak:=an b' O hw;show(setH h b' O).length=h1.length
       unfold setH;rw[(show Nat.blt b' h.length=true by simp_all),cond_true,ZYG]
       exact G.len
    |some kv=>
     have⟨kx,vx⟩:=kv;have⟨b,ks,vs,hw,dj⟩:=bq kx vx am;have ak:=an b _ hw;have aj:r.d.wr=some b:=by grind
     have⟨hs,Y⟩:=Rv k1;have hA:∃kA vA,LF (lis g) b 0 (B.take i) (Qs H h1.length b)=some (.map kA vA)/\∀x∈kA,x∈ks:=by
      have e1:LF (below i) b 0 (B.take i) (H[b]?)=some (.map ks vs):=by
       have:=VO (S:=below i) (b:=b) (B.take i) (r::B.drop (i+1)) 0<|H[b]?
       grind [U0,below]
      have e2:=Tn (S0:=below i) (S:=lis g) (b:=b) (B.take i) 0 (H[b]?) (Qs H h1.length b) (λj rj J ha=>?_)<|Tz H h1.length b
      .rw[e1]at e2;rcases e2 with e2|e2|⟨ks0,vs0,cd,cm,q1,q2,q3⟩
       all_goals grind
      .have ah:=(ZXu.1 J).1;rw[Y]at ah;have ae:B[j]?=some rj:=by grind
       rw[ZXA];refine⟨by grind [below],?_⟩
       rcases ba j ah with e|⟨_,y,_,hy,_,Z⟩
       .grind
       .rw[ae]at hy;cases hy;have⟨az,ap⟩:=ha;have⟨_,_,_,ax⟩:=al j rj ae;have aa:rj.d.wr=some b:=by grind
        have⟨_,_,j2,u2,_,ag,_⟩:=Gz<|(U2 Z aj).2.2 aa
        grind
     have⟨kA,vA,bx,da⟩:=hA;have hB:=To (S:=lis g) (b:=b) (Pk:=λx=>YF x kx=true) (B.drop<|i+1) (i+1) (λj rj J hS ha=>by
      have ae:B[i+1+j]?=some rj:=by grind
      have⟨_,Z,ax⟩:=F (i+1+j) rj ae (by omega) hS
      have⟨az,ap⟩:=ha;have aa:rj.d.wr=some b:=by grind
      have⟨k2,v2,j2,u2,cx,ag,dd⟩:=Gz<|(U2 Z aa).2.2 aj
      grind)
     have⟨K,V,cl,hK,hB⟩:=hB;have bd:h[b]?=some (.map (kA++K)<|vA++V):=by
      have:=VO (S:=lis g) (b:=b) (B.take i) (r::B.drop (i+1)) 0<|Qs H h1.length b;rw[<-hs,Y,bx]at this;rw[G.hp b,this];simp only[LF,ZXA,cn]
      grind
     have bg:LF (lis<|g.setIfInBounds i true) b 0 B (Qs H h1.length b)=some (.map (kA++kx::K)<|vA++vx::V):=by
      have:=VO (S:=lis<|g.setIfInBounds i true) (b:=b) (B.take i) (r::B.drop (i+1)) 0<|Qs H h1.length b;rw[<-hs,Y]at this;rw[this];have e1:LF (lis<|g.setIfInBounds i true) b 0 (B.take i) (Qs H h1.length b)=some (.map kA vA):=by
       rw[<-bx];refine VN _ _ _ λj rj J _=>?_
       have ah:=(ZXu.1 J).1;rw[Y]at ah;rw[ZXA,X8 L,if_neg<|by omega]
      rw[e1];simp only[LF,ZXA,X8 L,if_true,VM hw am,KT];have e2:LF (lis<|g.setIfInBounds i true) b (i+1) (B.drop<|i+1) (some<|.map (kA++[kx])<|vA++[vx])=LF (lis g) b (i+1) (B.drop<|i+1) (some<|.map (kA++[kx])<|vA++[vx]):=by
       refine VN _ _ _ λj rj J _=>?_
       rw[X8 L,if_neg<|by omega]
      grind
     have bh:kA.length=vA.length:=by
      have⟨rr,es,ct,l,_,_,_,_,q4,q5⟩:=JS s.c.m bd
      grind [Qr,List.length_append,List.length_map]
     refine Tm ih k3 am ar hw bd ?_ bl hN (ck.op1 i o q ho aq) s _ Q ?_
     .grind [Tp,Tq]
     .intro T1 a1 w1 bk s1;have m2:=Ts s1.c.m ak bh cl;have s2:St E T1 X (setH h b<|.map (kA++kx::K)<|vA++vx::V) w1 (ZB fr q.dst r.v) aw sz a1:=⟨⟨m2,s1.c.gl,s1.c.hX⟩,s1.f,s1.sz,s1.marks,s1.base⟩;refine bw (g.setIfInBounds i true) T1 w1 a1 _ _ Q (by grind) bf U ab ⟨bb,λb'=>?_,?_⟩ s2 (λT2 a2 w2 bp s2=>hq T2 a2 w2 (bk.trans bp) s2)
      .rw[Ks h b _<|by omega]
       by_cases eb:b'=b
       .subst eb;rw[if_pos rfl,bg]
       .rw[if_neg eb];exact W b' λ⟨cu,h3⟩=>by grind
      .unfold setH;rw[(show Nat.blt b h.length=true by grind [Nat.blt_eq]),cond_true,ZYG]
       exact G.len
end Go.AM
namespace Go.AM
open Go
variable [Dr]
variable {P:Program} {E:Env} {T:Ty} {X:Xt} {w:World} {h:Hp} {fr:Fr} {a:Act}
def TH(m:M T X h w)(n:Nat):M T X (h++List.replicate n .dead) w where
 inj:=m.inj
 lt:=m.lt
 notX:=m.notX
 obj b:=by
  rcases ZYj b h.length with hb|hb
  .rw[ZYw hb];exact m.obj b
  .rw[ZYl hb,JR m<|.inl<|ZYP hb,ZZD];split
   .trivial
   .trivial
def GA(n k:Nat):lis (Array.replicate n false) k=false:=by
 unfold lis;rw[ZYC,Array.getElem?_replicate];split<;>rfl
def TI(m:M T X h w)(k:Nat)(a:Dr.d->w.drawn<=k):M T X h {w with drawn:=k}:=Xr m ((Step.refl T w).drew k a)<|λ_ _=>rfl
def TJ{k:Nat}(p:∀j,j<=k->AllOk P E j):L7 P E k:=by
 intro W Y V fr h fr' h' l T X w a N Z x y sz ro n B G z s Q L;have C:=Tw z;simp only[Ze]at l;split at l
 .next J h1 A=>
  simp only[ZXt,Prod.mk.injEq]at l;obtain⟨⟨fr2,h2⟩,l,_,rfl,rfl⟩:=l;have⟨rc,u⟩:=BX (λq fr h v d O l=>Tk q fr h v d O l) A
  cases k with
  |zero=>simp[ZS]at l
  |succ k=>
   refine wpIn_region_any C.mix ?_;have e:Step T w T {w with drawn:=w.drawn+1}:=(Step.refl T w).drew _ (λ_=>ZYa _)
   have S:M T X (h++List.replicate (h1.length-h.length) .dead) {w with drawn:=w.drawn+1}:=TH (TI s.c.m _<|λ_=>ZYa _) _
   have U:St E T X (h++List.replicate (h1.length-h.length) .dead) {w with drawn:=w.drawn+1} fr y sz a:=
    ⟨⟨S,λg=>⟨HR e _ _ (s.c.gl g).1,ZRJ e (s.c.gl g).1 (s.c.gl g).2⟩,s.c.hX⟩,Kr e s.f,s.sz,s.marks.step e,s.base⟩
   refine TG B G C (p k<|by omega) (λj hj=>p j<|by omega) u l x.size (Array.replicate x.size false) T _ a fr _ Q (by simp) (λj _=>GA _ j) ?_ ?_ ?_ U
    (λK R w' F H=>L K R w' (e.trans F) H)
   .intro i o _ D;rw[GA]at D;cases D
   .rw[Array.toList_replicate,List.count_replicate_self];exact ZXh _
   .refine⟨λt=>?_,λb=>?_,?_⟩
    .rw[Rt _ _ _<|λk r _ _=>GA _ _]
    .rw[U0 _ _ _<|λk r _ _=>GA _ _]
     unfold Qs;rcases ZYj b h.length with hb|hb
     .rw[ZYw hb,ZXj hb];rfl
     .rw[ZYl hb,ZYP hb,ZZD];by_cases z:b<h1.length
      .rw[if_pos z,if_pos<|by omega];rfl
      .rw[if_neg z,if_neg<|by omega];rfl
    .rw[ZXy,ZZE];have:=u.grow;omega
 .cases l
def TK(c:EnvOk P E):AllOk P E 0:=by
 constructor
 .exact c.rs
 .intro f args h v h' a;simp[Qz]at a
 .intro f args h v h' a;simp[QX]at a
 .intro p f args h v h' a;simp[Qm]at a
 .intro b args h v h' a;simp[YG]at a
 .intro p f args h v h' a;simp[QQ]at a
 .intro q fr h fr' h' a;simp[Q5]at a
 .intro d fr h fr' h' a;simp[ZS]at a
 .intro q fr h e fr' h' a;simp[Ze]at a
 .intro live q fr h e fr' h' a;simp[Ze]at a
def TL(z:EnvOk P E):∀k,∀j,j<=k->AllOk P E j:=by
 intro k;induction k with
 |zero=>intro j D;rw[Nat.le_zero.1 D];exact TK z
 |succ k B=>
  intro j D;rcases ZYj j (k+1)with hlt|hge
  .exact B j<|by omega
  .have:j=k+1:=by omega
   subst this;have i:=B k<|ZXh _;constructor
   .exact z.rs
   .intro f args h v h' m T X w d g c t;exact Bl z i m d g c t
   .intro f args h v h' m T X w d g c t;exact Bo z i m d g c t
   .intro p f args h v h' m T X w d g c t;exact Bq z i m d g c t
   .intro b args h v h' m T X w d l g c t F;exact BD i m d l g c t F
   .intro p f args h v h' m T X w H d g c G t;exact Br i m H d g c G t
   .intro q fr h fr' h' m T X w a N C o r sz ro n g u y s next Q J
    exact BA i m g u y s next Q J
   .intro L fr h fr' h' m T X w a N C os r sz ro n g u y s Q A;exact BB i m g u y s Q A
   .intro q fr h e fr' h' m T X w a N c r sz K ro n g u y x s Q A;exact BN z.gl (TJ B) i m g u y x s Q A
   .intro live q fr h e fr' h' m T X w a N c r sz K ro n g u y x s Q A;exact L5 i m g u y x s Q A
def TM(a:EnvOk P E)(k:Nat):AllOk P E k:=TL a k k<|ZXh _
end Go.AM
namespace Go.AM
open Go
variable {E:Env}
structure MonoAt(E:Env)(n:Nat):Prop where
 fn:∀f args h r,Qz E n f args h=some r->Qz E (n+1) f args h=some r
 body:∀f args h r,QX E n f args h=some r->QX E (n+1) f args h=some r
 call:∀p f args h r,Qm E n p f args h=some r->Qm E (n+1) p f args h=some r
 yield:∀b args h r,YG E n b args h=some r->YG E (n+1) b args h=some r
 callv:∀p f args h r,QQ E n p f args h=some r->QQ E (n+1) p f args h=some r
 op:∀o fr h r,Q5 E n o fr h=some r->Q5 E (n+1) o fr h=some r
 ops:∀os fr h r,ZS E n os fr h=some r->ZS E (n+1) os fr h=some r
 dop:∀o fr h r,Zk E n o fr h=some r->Zk E (n+1) o fr h=some r
 code:∀c fr h r,Ze E n c fr h=some r->Ze E (n+1) c fr h=some r
def Lq{ex ex':AOper->Fr->Hp->Option (AV×DRec×Option (Nat×AObj))}(d:∀o fr h r,ex o fr h=some r->ex' o fr h=some r):
 ∀(b:List AOper)(us:List<|List Nat)(fr:Fr)(h:Hp)(a:List DRec)(r:Fr×Hp),QH ex b us fr h a=some r->QH ex' b us fr h a=some r:=by
 intro b;induction b with
 |nil=>grind [QH]
 |cons o b c=>
  intro us fr h a r e;cases us with
  |nil=>grind [QH]
  |cons u us=>
   grind [QH]
def TN{n:Nat}(b:MonoAt E n)(f:Nat)(args:List AV)(h:Hp)(r:AV×Hp)(a:Qz E (n+1) f args h=some r):Qz E (n+2) f args h=some r:=by
 simp[Qz]at a⊢;cases c:E.sum f with
 |some s=>grind
 |none=>rw[c]at a;exact b.body _ _ _ _ a
def TO{n:Nat}(b:MonoAt E n)(f:Nat)(args:List AV)(h:Hp)(r:AV×Hp)(a:QX E (n+1) f args h=some r):QX E (n+2) f args h=some r:=by
 simp[QX]at a⊢;cases d:E.fn f with
 |none=>grind
 |some fn=>
  rw[d]at a;dsimp only at a⊢;cases c:Ze E n fn.body (QP 0 args) h with
  |none=>grind
  |some p=>rw[b.code _ _ _ _ c];grind
def TP{n:Nat}(b:MonoAt E n)(p:Bool)(f:Nat)(args:List AV)(h:Hp)(r:AV×Hp)(a:Qm E (n+1) p f args h=some r):Qm E (n+2) p f args h=some r:=by
 cases p with
 |false=>exact b.fn _ _ _ _ a
 |true=>
  simp[Qm]at a⊢;cases d:Ql h args with
  |none=>grind
  |some as=>
   rw[d]at a;dsimp only at a⊢;cases c:Qz E n f as []with
   |none=>grind
   |some p=>rw[b.fn _ _ _ _ c];grind
def TQ{n:Nat}(g:MonoAt E n)(b:Nat)(args:List AV)(h:Hp)(r:AV×Hp)(a:YG E (n+1) b args h=some r):YG E (n+2) b args h=some r:=by
 simp[YG]at a⊢;split at a
 .next fr ps assign body o=>
  split at a
  .next fr0 p=>
   split at a
   .next i h1 m=>
    rw[g.code _ _ _ _ m];dsimp only at a⊢;split at a
    .next fr2 l c f j=>
     split at a
     .next e k h2 d=>rw[g.code _ _ _ _ d];grind
     grind
    grind
   grind
  grind
 grind
def TR{n:Nat}(c:MonoAt E n)(p:Bool)(f:AV)(args:List AV)(h:Hp)(r:AV×Hp)(a:QQ E (n+1) p f args h=some r):QQ E (n+2) p f args h=some r:=by
 cases f with
 |clo fn first cap=>
  cases fn<;>simp[QQ]at a⊢
  exact c.call _ _ _ _ _ a
 |yld b=>
  cases p
  .exact c.yield _ _ _ _ a
  grind [QQ]
 |_=>simp[QQ]at a
def TS{n:Nat}(i:MonoAt E n)(o:AOper)(fr:Fr)(h:Hp)(r:Fr×Hp)(c:Q5 E (n+1) o fr h=some r):Q5 E (n+2) o fr h=some r:=by
 have⟨d,j,g⟩:=o;cases e:ZJ fr g with
 |none=>grind [Q5]
 |some b=>
  cases b with
  |false=>grind [Q5]
  |true=>
   cases j<;>try (simpa only[Q5]using c)
   case call p f args=>
    simp only[Q5,e,ZXt]at c⊢;have⟨a,h1,h2⟩:=c;exact⟨a,i.call _ _ _ _ _ h1,h2⟩
   case callv p f args=>
    simp only[Q5,e,ZXt]at c⊢;have⟨a,h1,h2⟩:=c;exact⟨a,i.callv _ _ _ _ _ h1,h2⟩
def TT{n:Nat}(b:MonoAt E n)(os:List AOper)(fr:Fr)(h:Hp)(r:Fr×Hp)(a:ZS E (n+1) os fr h=some r):ZS E (n+2) os fr h=some r:=by
 cases os with
 |nil=>grind [ZS]
 |cons o os=>
  simp[ZS]at a⊢;cases c:Q5 E n o fr h with
  |none=>grind
  |some p=>rw[c]at a;rw[b.op _ _ _ _ c];exact b.ops _ _ _ _ a
def TU{n:Nat}(i:MonoAt E n)(o:AOper)(fr:Fr)(h:Hp)(r:AV×DRec×Option (Nat×AObj))(a:Zk E (n+1) o fr h=some r):Zk E (n+2) o fr h=some r:=by
 have⟨d,j,g⟩:=o;cases e:ZJ fr g with
 |none=>grind [Zk]
 |some b=>
  cases b with
  |false=>grind [Zk]
  |true=>
   cases j<;>try (simpa only[Zk]using a)
   case call p f args=>
    simp[Zk,e]at a⊢;cases p with
    |false=>grind
    |true=>
     split at a
     .next v h2 c=>rw[i.call _ _ _ _ _ c];grind
     grind
   case callv p x args=>
    simp[Zk,e]at a⊢;cases p with
    |false=>grind
    |true=>
     split at a
     .next g first cap k=>
      split at a
      .next v h2 c=>rw[i.call _ _ _ _ _ c];grind
      grind
     grind
def Lr(n:Nat)(a:List AOper)(fr:Fr)(h:Hp):Ze E (n+1) (.region a) fr h=(ZS E n a fr h).map λr=>(.normal,r.1,r.2):=rfl
def Ls(n:Nat)(a:List<|List Nat)(c b:List AOper)(fr:Fr)(h:Hp):Ze E (n+1) (.draw a c b) fr h =
 (match QH (λo fr h=>Zk E n o fr h) c a fr h []with
  |some (fr,h)=>(ZS E n b fr h).map λr=>(.normal,r.1,r.2)
  |none=>none):=rfl
def Lt(n:Nat)(a b:ACode)(fr:Fr)(h:Hp):Ze E (n+1) (.seq a b) fr h=(match Ze E n a fr h with|some (.normal,fr,h)=>Ze E n b fr h|r=>r):=rfl
def Lu(n:Nat)(x:Arg)(a b:ACode)(fr:Fr)(h:Hp):Ze E (n+1) (.cond x a b) fr h=(match ev E fr x with| .bool true=>Ze E n a fr h| .bool false=>Ze E n b fr h|_=>none):=rfl
def Lv(n:Nat)(a:Nat)(b:ACode)(fr:Fr)(h:Hp):Ze E (n+1) (.block a b) fr h=(match Ze E n b fr h with|some (.exit i,fr,h)=>bif i==a then some (.normal,fr,h)else some (.exit i,fr,h)|r=>r):=rfl
def Lw(n:Nat)(live:List Nat)(b:ACode)(fr:Fr)(h:Hp):Ze E (n+1) (.loop live b) fr h=(match Ze E n b (Z2 live fr) h with|some (.normal,fr,h)=>Ze E n (.loop live b) fr h|r=>r):=rfl
def Ly(n:Nat)(live:List Nat)(b:ACode)(fr:Fr)(h:Hp):Ze E (n+1) (.keep live b) fr h=(match Ze E n b fr h with|some (e,fr',h')=>some (e,Z2 live fr',Xq h.length (Z2 live fr') h')|none=>none):=rfl
def Lz(n:Nat)(f:Arg)(ps:List Nat)(assign body:ACode)(fr:Fr)(h:Hp):Ze E (n+1) (.rangeFunc f ps assign body) fr h =
 (match ev E fr f with
  | .clo (.func g) first cap=>
   match QX E n g (first++[.yld h.length]++cap) (h++[.loop .ready .normal fr ps assign body])with
   |some (_,h')=>
    match h'[h.length]? with
    |some (.loop .busy _ _ _ _ _)=>none
    |some (.loop _ pend fr' ps assign body)=>some (pend,fr,setH h' h.length<|.loop .exhausted pend fr' ps assign body)
    |_=>none
   |none=>none
  |_=>none):=rfl
def ZTG(n d off s:Nat)(b:ACode)(fr:Fr)(h:Hp):Ze E (n+1) (.ghost d off s b) fr h=(match Ze E n b fr h with|some (.normal,fr',h')=>(ghW d off s fr' h').map λh2=>(.normal,fr',h2)|_=>none):=rfl
def Rz(n:Nat)(fr:Fr)(h:Hp):Ze E (n+1) .skip fr h=some (.normal,fr,h):=rfl
def RA(n:Nat)(i:Nat)(fr:Fr)(h:Hp):Ze E (n+1) (.exit i) fr h=some (.exit i,fr,h):=rfl
def RB(n:Nat)(fr:Fr)(h:Hp):Ze E (n+1) .ret fr h=some (.ret,fr,h):=rfl
def TV{n:Nat}(k:MonoAt E n)(c:ACode)(fr:Fr)(h:Hp)(r:AExit×Fr×Hp)(j:Ze E (n+1) c fr h=some r):Ze E (n+2) c fr h=some r:=by
 cases c with
 |skip=>exact j
 |region u=>
  rw[Lr,ZXt]at j⊢;have⟨a,h1,h2⟩:=j;exact⟨a,k.ops _ _ _ _ h1,h2⟩
 |draw w A C=>
  rw[Ls]at j⊢;cases t:QH (λo fr h=>Zk E n o fr h) A w fr h []with
  |none=>grind
  |some p=>
   rw[t]at j;rw[Lq (ex':=λo fr h=>Zk E (n+1) o fr h) (λo fr h r q=>k.dop _ _ _ _ q) _ _ _ _ _ _ t]
   simp only[ZXt]at j⊢;have⟨a,h1,h2⟩:=j;exact⟨a,k.ops _ _ _ _ h1,h2⟩
 |seq a b=>
  rw[Lt]at j⊢;cases l:Ze E n a fr h with
  |none=>grind
  |some p=>
   have⟨e,m,h1⟩:=p;rw[l]at j;rw[k.code _ _ _ _ l];cases e with
   |normal=>exact k.code _ _ _ _ j
   |exit i=>grind
   |ret=>grind
 |cond x a b=>
  rw[Lu]at j⊢;split at j
  .exact k.code _ _ _ _ j
  .exact k.code _ _ _ _ j
  grind
 |block B b=>
  rw[Lv]at j⊢;cases l:Ze E n b fr h with
  |none=>grind
  |some p=>rw[k.code _ _ _ _ l];grind
 |loop live b=>
  rw[Lw]at j⊢;cases l:Ze E n b (Z2 live fr) h with
  |none=>grind
  |some p=>
   have⟨e,m,h1⟩:=p;rw[l]at j;rw[k.code _ _ _ _ l];cases e with
   |normal=>exact k.code _ _ _ _ j
   |exit i=>grind
   |ret=>grind
 |rangeFunc f ps assign body=>
  rw[Lz]at j⊢;split at j
  .next g first cap q=>
   split at j
   .next v h' y=>rw[k.body _ _ _ _ y];grind
   grind
  grind
 |exit i=>exact j
 |ret=>exact j
 |bad=>cases j
 |zbox d sz z ps=>exact j
 |nils s d off p=>exact j
 |ghost d off s b=>
  rw[ZTG]at j⊢;cases l:Ze E n b fr h with
  |none=>grind
  |some p=>rw[l]at j;rw[k.code _ _ _ _ l];grind
 |keep live b=>
  rw[Ly]at j⊢;cases l:Ze E n b fr h with
  |none=>grind
  |some p=>rw[l]at j;rw[k.code _ _ _ _ l];grind
def W0(E:Env):∀n,MonoAt E n:=by
 intro n;induction n with
 |zero=>
  constructor
  all_goals grind [Qz,QX,Qm,YG,QQ,Q5,ZS,Zk,Ze]
 |succ n a=>exact⟨TN a,TO a,TP a,TQ a,TR a,TS a,TT a,TU a,TV a⟩
end Go.AM
namespace Go.AM
open Go
variable {α β:Type} {E:Env}
def Qu(g:Nat->Option α):Prop:=∀n x,g n=some x->g (n+1)=some x
def Qu.le{g:Nat->Option α}(b:Qu g){n m:Nat}(h:n<=m){x:α}(c:g n=some x):g m=some x:=by
 induction h with
 |refl=>grind
 |step _ a=>exact b _ _ a
open Classical in
noncomputable def lim(g:Nat->Option α):Option α:=if h:∃x n,g n=some x then some (Classical.choose h)else none
def Yr{g:Nat->Option α}(b:Qu g){x:α}:lim g=some x↔∃n,g n=some x:=by
 unfold lim;constructor
 .intro h;split at h
  all_goals grind
 .rintro⟨n,c⟩;have d:∃x n,g n=some x:=⟨x,n,c⟩;have⟨m,a⟩:=Classical.choose_spec d;have h1:=b.le (Nat.le_max_left n m) c;have h2:=b.le (Nat.le_max_right n m) a
  grind
def U3{g:Nat->Option α}(h:∀n,g n=none):lim g=none:=by grind [lim]
def GB{a b:Option α}(h:∀x,a=some x↔b=some x):a=b:=by
 cases a with
 |none=>
  cases b with
  |none=>rfl
  |some y=>simp_all
 |some x=>grind
def TW{f g:Nat->Option α}(b:Qu f)(a:Qu g)(h:∀x,(∃n,f n=some x)↔∃n,g n=some x):lim f=lim g:=
 GB λx=>by rw[Yr b,Yr a,h]
def QA(a:Option α):lim (λ_=>a)=a:=GB λx=>by
 rw[Yr (g:=λ_=>a)<|λ_ _ h=>h]
 grind
def Qh{g:Nat->Option α}(a:Qu g)(c:g 0=none):lim g=lim (λn=>g<|n+1):=by
 refine TW a (λn x h=>a _ _ h) λx=>⟨?_,?_⟩
 .rintro⟨n,b⟩;cases n with
  |zero=>grind
  |succ n=>grind
 grind
def thn(a:Option α)(k:α->Option β):Option β:=match a with|some x=>k x|none=>none
theorem ZM(x:α)(k:α->Option β):thn (some x) k=k x:=rfl
theorem LA(k:α->Option β):thn none k=none:=rfl
@[congr] def Z9w{a a':Option α}{k:α->Option β}(h:a=a'):thn a k=thn a' k:=by rw[h]
def TX{a:Nat->Option α}{k:Nat->α->Option β}(d:Qu a)(c:∀x,Qu<|λn=>k n x):Qu (λn=>thn (a n)<|k n):=by
 intro n y h;cases b:a n with
 |none=>grind [thn]
 |some x=>
  simp[b]at h;simp[d _ _ b];exact c x _ _ h
def KW{a:Nat->Option α}{k:Nat->α->Option β}(c:Qu a)(d:∀x,Qu<|λn=>k n x):lim (λn=>thn (a n)<|k n)=thn (lim a) (λx=>lim<|λn=>k n x):=by
 refine GB λy=>?_
 rw[Yr<|TX c d];constructor
 .rintro⟨n,e⟩;cases b:a n with
  |none=>grind [thn]
  |some x=>
   simp[thn]at e;rw[(Yr c).2 ⟨n,b⟩,ZM,Yr<|d x]
   grind
 .intro h;cases b:lim a with
  |none=>rw[b]at h;cases h
  |some x=>
   rw[b,ZM,Yr<|d x]at h;have⟨n,e⟩:=(Yr c).1 b;have⟨m,f⟩:=h;refine⟨max n m,?_⟩;simp[c.le (Nat.le_max_left n m) e];exact(d x).le (Nat.le_max_right n m) f
def W3{a:Nat->Option α}{k:α->Option β}(b:Qu a):lim (λn=>thn (a n) k)=thn (lim a) k:=by
 rw[KW b (k:=λ_=>k)<|λx _ _ h=>h]
 simp_all[QA]
noncomputable def fnV(E:Env)(f:Nat)(args:List AV)(h:Hp):Option (AV×Hp):=lim λn=>Qz E n f args h
noncomputable def VP(E:Env)(f:Nat)(args:List AV)(h:Hp):Option (AV×Hp):=lim λn=>QX E n f args h
noncomputable def YU(E:Env)(p:Bool)(f:Nat)(args:List AV)(h:Hp):Option (AV×Hp):=lim λn=>Qm E n p f args h
noncomputable def U4(E:Env)(b:Nat)(args:List AV)(h:Hp):Option (AV×Hp):=lim λn=>YG E n b args h
noncomputable def Xy(E:Env)(p:Bool)(f:AV)(args:List AV)(h:Hp):Option (AV×Hp):=lim λn=>QQ E n p f args h
noncomputable def opV(E:Env)(o:AOper)(fr:Fr)(h:Hp):Option (Fr×Hp):=lim λn=>Q5 E n o fr h
noncomputable def Z9(E:Env)(os:List AOper)(fr:Fr)(h:Hp):Option (Fr×Hp):=lim λn=>ZS E n os fr h
noncomputable def Xz(E:Env)(o:AOper)(fr:Fr)(h:Hp):Option (AV×DRec×Option (Nat×AObj)):=lim λn=>Zk E n o fr h
noncomputable def Zm(E:Env)(os:List AOper)(us:List<|List Nat)(fr:Fr)(h:Hp)(a:List DRec):Option (Fr×Hp):=lim λn=>QH (λo fr h=>Zk E n o fr h) os us fr h a
noncomputable def Zb(E:Env)(c:ACode)(fr:Fr)(h:Hp):Option (AExit×Fr×Hp):=lim λn=>Ze E n c fr h
def GC(f:Nat)(args:List AV)(h:Hp):Qu λn=>Qz E n f args h:=λn x a=>(W0 E n).fn _ _ _ _ a
def LB(f:Nat)(args:List AV)(h:Hp):Qu λn=>QX E n f args h:=λn x a=>(W0 E n).body _ _ _ _ a
def U5(p:Bool)(f:Nat)(args:List AV)(h:Hp):Qu λn=>Qm E n p f args h:=λn x a=>(W0 E n).call _ _ _ _ _ a
def TY(b:Nat)(args:List AV)(h:Hp):Qu λn=>YG E n b args h:=λn x a=>(W0 E n).yield _ _ _ _ a
def RC(p:Bool)(f:AV)(args:List AV)(h:Hp):Qu λn=>QQ E n p f args h:=λn x a=>(W0 E n).callv _ _ _ _ _ a
def KX(o:AOper)(fr:Fr)(h:Hp):Qu λn=>Q5 E n o fr h:=λn x a=>(W0 E n).op _ _ _ _ a
def VQ(o:List AOper)(fr:Fr)(h:Hp):Qu λn=>ZS E n o fr h:=λn x a=>(W0 E n).ops _ _ _ _ a
def KY(o:AOper)(fr:Fr)(h:Hp):Qu λn=>Zk E n o fr h:=λn x a=>(W0 E n).dop _ _ _ _ a
def QI(c:ACode)(fr:Fr)(h:Hp):Qu λn=>Ze E n c fr h:=λn x a=>(W0 E n).code _ _ _ _ a
def LC(os:List AOper)(us:List<|List Nat)(fr:Fr)(h:Hp)(a:List DRec):Qu λn=>QH (λo fr h=>Zk E n o fr h) os us fr h a:=
 λn x b=>Lq (λo fr h r c=>(W0 E n).dop _ _ _ _ c) _ _ _ _ _ _ b
def U6(a:Option α):Qu λ_=>a:=λ_ _ h=>h
theorem VR(a:Option α)(f:α->β):a.map f=thn a (λx=>some<|f x):=rfl
def TZ{f:Nat}{args:List AV}{h:Hp}(a:E.sum f=none):fnV E f args h=VP E f args h:=by
 unfold fnV VP;rw[Qh (GC f args h) rfl]
 grind [Qz]
def V8{f:Nat}{args:List AV}{h:Hp}{s:List AV->Hp->Option (AV×Hp)}(a:E.sum f=some s):fnV E f args h=s args h:=by
 unfold fnV;rw[Qh (GC f args h) rfl]
 simp_all[Qz,QA]
def fin(rs:List ResVar)(r:Option<|AExit×Fr×Hp):Option (AV×Hp):=
 match r with
 |some (.normal,fr,h)=>thn (QO fr h rs) λv=>some (v,h)
 |some (.ret,fr,h)=>thn (QO fr h rs) λv=>some (v,h)
 |_=>none
def S1(rs:List ResVar)(fr:Fr)(h:Hp):fin rs (some (.normal,fr,h))=thn (QO fr h rs) λv=>some (v,h):=rfl
def S2(rs:List ResVar)(fr:Fr)(h:Hp):fin rs (some (.ret,fr,h))=thn (QO fr h rs) λv=>some (v,h):=rfl
def LD{f:Nat}{args:List AV}{h:Hp}{fn:AFun}(a:E.fn f=some fn):VP E f args h=fin fn.res (Zb E fn.body (QP 0 args) h):=by
 unfold VP Zb;rw[Qh (LB f args h) rfl];have e:(λn=>QX E (n+1) f args h)=λn=>thn (Ze E n fn.body (QP 0 args) h) λp=>fin fn.res (some p):=by
  funext n
  simp[QX,a];cases Ze E n fn.body (QP 0 args) h with
  |none=>rfl
  |some p=>have⟨e,fr,h⟩:=p;cases e<;>rfl
 rw[e,W3<|QI _ _ _];cases lim (λn=>Ze E n fn.body (QP 0 args) h)<;>rfl
noncomputable def pfn(E:Env)(f:Nat)(args:List AV):Option AV:=thn (fnV E f args []) λr=>YE r.2 r.1
def GD{f:Nat}{args:List AV}{h:Hp}:YU E true f args h=thn (Ql h args) λas=>thn (pfn E f as) λv=>some (v,h):=by
 unfold YU pfn fnV;rw[Qh (U5 true f args h) rfl];simp[Qm];cases Ql h args with
 |none=>exact QA _
 |some as=>
  simp[ZM];have e:(λn=>(match Qz E n f as []with|some (v,h')=>Option.map (λv=>(v,h)) (YE h' v)|none=>none))=λn=>thn (Qz E n f as []) λr=>thn (YE r.2 r.1) λv=>some (v,h):=by
   funext n
   cases Qz E n f as []with
   |none=>rfl
   |some p=>grind [ZM,VR]
  refine(congrArg lim e).trans ?_;rw[W3<|GC _ _ _];cases lim (λn=>Qz E n f as [])<;>rfl
def LE{f:Nat}{args:List AV}{h:Hp}:YU E false f args h=fnV E f args h:=by
 unfold YU fnV;rw[Qh (U5 false f args h) rfl]
 grind [Qm]
def RD{p:Bool}{g:Nat}{first cap args:List AV}{h:Hp}:Xy E p (.clo (.func g) first cap) args h=YU E p g (first++args++cap) h:=by
 unfold Xy YU;rw[Qh (RC p _ args h) rfl]
 grind [QQ]
def S3{b:Nat}{args:List AV}{h:Hp}:Xy E false (.yld b) args h=U4 E b args h:=by
 unfold Xy U4;rw[Qh (RC false _ args h) rfl];simp[QQ]
def grd(v:AV)(b:Bool)(x y:Option α):Option α:=match v with| .bool c=>bif c==b then x else y| .tup []=>y|_=>none
@[congr] def Z9C{v v':AV}{b:Bool}{x y:Option α}(h:v=v'):grd v b x y=grd v' b x y:=by rw[h]
def S4{d:Option Nat}{e:AOp}{t:Nat}{b:Bool}{fr:Fr}{h:Hp}:opV E ⟨d,e,some (t,b)⟩ fr h=grd (get fr t) b (opV E ⟨d,e,none⟩ fr h) (some (ZB fr d<|.tup [],h)):=by
 unfold opV;rw[Qh (KX _ fr h) rfl,Qh (KX ⟨d,e,none⟩ fr h) rfl];cases g:get fr t with
 |bool c=>
  cases f:(c==b)with
  |true=>
   have a:ZJ fr (some (t,b))=some true:=by grind [ZJ]
   simp only[grd,f,cond_true];congr 1
   funext n
   cases e<;>simp only[Q5,a]<;>rfl
  |false=>
   have a:ZJ fr (some (t,b))=some false:=by grind [ZJ]
   simp only[grd,f,cond_false];rw[<-QA (some (ZB fr d<|.tup [],h))];congr 1
   funext n
   cases e<;>simp only[Q5,a]
 |tup vs=>
  cases vs with
  |nil=>
   have a:ZJ fr (some (t,b))=some false:=by grind [ZJ]
   simp only[grd];rw[<-QA (some (ZB fr d<|.tup [],h))];congr 1
   funext n
   cases e<;>simp only[Q5,a]
  |cons _ _=>
   have a:ZJ fr (some (t,b))=none:=by grind [ZJ]
   simp only[grd];refine U3 λn=>?_
   cases e<;>simp only[Q5,a]
 |_=>
  have a:ZJ fr (some (t,b))=none:=by simp only[ZJ,g]
  simp only[grd];refine U3 λn=>?_
  cases e<;>simp only[Q5,a]
def GE{d:Option Nat}{a:AOp}{fr:Fr}{h:Hp}(b:a.isCall=false):opV E ⟨d,a,none⟩ fr h=thn (Z8 E fr h h.length a) λr=>some (ZB fr d r.1,ZH h r.2.2):=by
 unfold opV;rw[Qh (KX _ fr h) rfl];rw[<-QA (thn (Z8 E fr h h.length a) λr=>some (ZB fr d r.1,ZH h r.2.2))]
 congr 1;cases a<;>first|(simp[AOp.isCall]at b;done)|(simp[Q5,ZJ,VR])
def ZGD{d:Option Nat}{sz bytes:Nat}{s x:Arg}{fr:Fr}{h:Hp}:opV E ⟨d,.apa sz bytes s x,none⟩ fr h=thn (ZE9 h sz bytes (ev E fr s)<|ev E fr x) λr=>some (ZB fr d r.1,r.2):=by
 unfold opV;rw[Qh (KX _ fr h) rfl];rw[<-QA (thn (ZE9 h sz bytes (ev E fr s)<|ev E fr x) λr=>some (ZB fr d r.1,r.2))]
 congr 1
def RE{d:Option Nat}{p:Bool}{f:Nat}{args:List Arg}{fr:Fr}{h:Hp}:opV E ⟨d,.call p f args,none⟩ fr h=thn (YU E p f (args.map<|ev E fr) h) λr=>some (ZB fr d r.1,r.2):=by
 unfold opV YU;rw[Qh (KX _ fr h) rfl];simp[Q5,ZJ,VR];rw[W3<|U5 _ _ _ _]
def RF{d:Option Nat}{p:Bool}{x:Arg}{args:List Arg}{fr:Fr}{h:Hp}:opV E ⟨d,.callv p x args,none⟩ fr h=thn (Xy E p (ev E fr x) (args.map<|ev E fr) h) λr=>some (ZB fr d r.1,r.2):=by
 unfold opV Xy;rw[Qh (KX _ fr h) rfl];simp[Q5,ZJ,VR];rw[W3<|RC _ _ _ _]
theorem KZ{fr:Fr}{h:Hp}:Z9 E [] fr h=some (fr,h):=by
 unfold Z9;rw[Qh (VQ _ fr h) rfl]
 simp_all[ZS,QA]
def V9{o:AOper}{r:List AOper}{fr:Fr}{h:Hp}:Z9 E (o::r) fr h=thn (opV E o fr h) λp=>Z9 E r p.1 p.2:=by
 unfold Z9 opV;rw[Qh (VQ _ fr h) rfl];have e:(λn=>ZS E (n+1) (o::r) fr h)=λn=>thn (Q5 E n o fr h) λp=>ZS E n r p.1 p.2:=by
  funext n
  simp[ZS];cases Q5 E n o fr h<;>rfl
 rw[e,KW (KX _ _ _)<|λx=>VQ _ _ _]
def S5{d:Option Nat}{e:AOp}{t:Nat}{b:Bool}{fr:Fr}{h:Hp}:Xz E ⟨d,e,some (t,b)⟩ fr h=grd (get fr t) b (Xz E ⟨d,e,none⟩ fr h) (some (.tup [],⟨false,[],none,none⟩,none)):=by
 unfold Xz;rw[Qh (KY _ fr h) rfl,Qh (KY ⟨d,e,none⟩ fr h) rfl];cases g:get fr t with
 |bool c=>
  cases f:(c==b)with
  |true=>
   have a:ZJ fr (some (t,b))=some true:=by grind [ZJ]
   simp only[grd,f,cond_true];congr 1
   funext n
   cases e<;>simp only[Zk,a]<;>rfl
  |false=>
   have a:ZJ fr (some (t,b))=some false:=by grind [ZJ]
   simp only[grd,f,cond_false];rw[<-QA (some (AV.tup [],(⟨false,[],none,none⟩:DRec),(none:Option<|Nat×AObj)))];congr 1
   funext n
   cases e<;>simp only[Zk,a]
 |tup vs=>
  cases vs with
  |nil=>
   have a:ZJ fr (some (t,b))=some false:=by grind [ZJ]
   simp only[grd];rw[<-QA (some (AV.tup [],(⟨false,[],none,none⟩:DRec),(none:Option<|Nat×AObj)))];congr 1
   funext n
   cases e<;>simp only[Zk,a]
  |cons _ _=>
   have a:ZJ fr (some (t,b))=none:=by grind [ZJ]
   simp only[grd];refine U3 λn=>?_
   cases e<;>simp only[Zk,a]
 |_=>
  have a:ZJ fr (some (t,b))=none:=by simp only[ZJ,g]
  simp only[grd];refine U3 λn=>?_
  cases e<;>simp only[Zk,a]
def LG{d:Option Nat}{a:AOp}{fr:Fr}{h:Hp}(b:a.isCall=false):
 Xz E ⟨d,a,none⟩ fr h=thn (Z8 E (Z2 a.slots fr) h h.length a) λr=>some (r.1,QG E (Z2 a.slots fr) h a r.2.2,r.2.2):=by
 unfold Xz;rw[Qh (KY _ fr h) rfl];rw[<-QA (thn (Z8 E (Z2 a.slots fr) h h.length a) λr=>some (r.1,QG E (Z2 a.slots fr) h a r.2.2,r.2.2))]
 congr 1;cases a<;>first|(simp[AOp.isCall]at b;done)|(simp[Zk,ZJ,VR])
def S6{d:Option Nat}{f:Nat}{args:List Arg}{fr:Fr}{h:Hp}:
 Xz E ⟨d,.call true f args,none⟩ fr h=thn (YU E true f (args.map<|ev E fr) h) λr=>some (r.1,ZOy h<|args.map<|ev E fr,none):=by
 unfold Xz YU;rw[Qh (KY _ fr h) rfl];have e:(λn=>Zk E (n+1) ⟨d,.call true f args,none⟩ fr h)=λn=>thn (Qm E n true f (args.map<|ev E fr) h) λr=>some (r.1,ZOy h<|args.map<|ev E fr,(none:Option<|Nat×AObj)):=by
  funext n
  simp[Zk,cond_true];cases Qm E n true f (args.map<|ev E fr) h<;>rfl
 rw[e,W3<|U5 _ _ _ _]
def rsD(o:Option<|List AV->Nat->List AV->Option (List AV))(h:Hp)(args:List AV):Option (AV×DRec×Option (Nat×AObj)):=match o with
 |some s=>ZEn s h args
 |none=>none
def ZIH{d:Option Nat}{f:Nat}{args:List Arg}{fr:Fr}{h:Hp}:Xz E ⟨d,.call false f args,none⟩ fr h=rsD (E.rs f) h (args.map<|ev E fr):=by
 unfold Xz;rw[Qh (KY _ fr h) rfl,<-QA (rsD (E.rs f) h<|args.map<|ev E fr)];congr 1
noncomputable def dcv(E:Env)(a:AV)(args:List AV)(h:Hp):Option (AV×DRec×Option (Nat×AObj)):=
 match a with
 | .clo (.func g) first cap=>thn (YU E true g (first++args++cap) h) λr=>some (r.1,⟨!Zi (first++args++cap),[],none,none⟩,none)
 |_=>none
def S7{d:Option Nat}{x:Arg}{args:List Arg}{fr:Fr}{h:Hp}:Xz E ⟨d,.callv true x args,none⟩ fr h=dcv E (ev E fr x) (args.map<|ev E fr) h:=by
 unfold Xz dcv YU;rw[Qh (KY _ fr h) rfl];simp only[Zk,cond_true];generalize ev E fr x=v;generalize args.map (ev E fr)=vs;cases v with
 |clo fn first cap=>
  cases fn with
  |func g=>
   refine Eq.trans ?_<|W3<|U5 (E:=E) true g (first++vs++cap) h
   congr 1
   funext n
   dsimp only;cases Qm E n true g (first++vs++cap) h<;>rfl
  |_=>exact QA _
 |_=>exact QA _
def S8{us:List (List Nat)}{fr:Fr}{h:Hp}{a:List DRec}:Zm E [] us fr h a=some (fr,h):=by
 simp_all[Zm,QH,QA]
def okd(a:List DRec)(u:List Nat)(h:Hp)(d:DRec)(b:Option<|Nat×AObj)(k:Option α):Option α:=bif Zv d a u&&Ya h b then k else none
def Z9E{a:List DRec}{u:List Nat}{h:Hp}{d:DRec}{b:Option (Nat×AObj)}{k:Option α}(h1:Zv d a u=true)(h2:Ya h b=true):okd a u h d b k=k:=by grind [okd]
@[congr] def Z9F{recs:List DRec}{u:List Nat}{h:Hp}{d:DRec}{wr:Option (Nat×AObj)}{k:Option α}:okd recs u h d wr k=okd recs u h d wr k:=rfl
def VS{o:AOper}{r:List AOper}{u:List Nat}{us:List (List Nat)}{fr:Fr}{h:Hp}{a:List DRec}:
 Zm E (o::r) (u::us) fr h a=thn (Xz E o fr h) λp=>okd a u h p.2.1 p.2.2 (Zm E r us (ZB fr o.dst p.1) (ZH h p.2.2)<|a++[p.2.1]):=by
 unfold Zm Xz;have e:(λn=>QH (λo fr h=>Zk E n o fr h) (o::r) (u::us) fr h a)=λn=>thn (Zk E n o fr h) λp=>okd a u h p.2.1 p.2.2 (QH (λo fr h=>Zk E n o fr h) r us (ZB fr o.dst p.1) (ZH h p.2.2)<|a++[p.2.1]):=by
  funext n
  simp[QH];cases Zk E n o fr h<;>rfl
 rw[e,KW (KY _ _ _) ?_]
 .congr 1
  funext p
  unfold okd;cases(Zv p.2.1 a u&&Ya h p.2.2)with
  |true=>rfl
  |false=>exact QA _
 .intro p;unfold okd;cases(Zv p.2.1 a u&&Ya h p.2.2)with
  |true=>simp_all[LC]
  |false=>exact U6 _
def nrm(r:Option<|Fr×Hp):Option (AExit×Fr×Hp):=match r with|some p=>some (.normal,p.1,p.2)|none=>none
def S9(fr:Fr)(h:Hp):nrm (some (fr,h))=some (.normal,fr,h):=rfl
def W4(r:Option<|AExit×Fr×Hp)(k:Fr->Hp->Option (AExit×Fr×Hp)):Option (AExit×Fr×Hp):=
 match r with
 |some (.normal,fr,h)=>k fr h
 |r=>r
@[congr] def Z9K{r r':Option (AExit×Fr×Hp)}{k:Fr->Hp->Option (AExit×Fr×Hp)}(h:r=r'):W4 r k=W4 r' k:=by rw[h]
def cnd(v:AV)(x y:Option α):Option α:=match v with| .bool true=>x| .bool false=>y|_=>none
@[congr] def Z9N{v v':AV}{x y:Option α}(h:v=v'):cnd v x y=cnd v' x y:=by rw[h]
def blk(a:Nat)(r:Option<|AExit×Fr×Hp):Option (AExit×Fr×Hp):=
 match r with
 |some (.exit i,fr,h)=>bif i==a then some (.normal,fr,h)else some (.exit i,fr,h)
 |r=>r
def Sa(a:Nat)(fr:Fr)(h:Hp):blk a (some (.normal,fr,h))=some (.normal,fr,h):=rfl
def Sb(a:Nat)(fr:Fr)(h:Hp):blk a (some (.ret,fr,h))=some (.ret,fr,h):=rfl
def Sc(a i:Nat)(fr:Fr)(h:Hp):blk a (some (.exit i,fr,h))=bif i==a then some (.normal,fr,h)else some (.exit i,fr,h):=rfl
def kp(live:List Nat)(n:Nat)(r:Option<|AExit×Fr×Hp):Option (AExit×Fr×Hp):=
 match r with
 |some (e,fr,h)=>some (e,Z2 live fr,Xq n (Z2 live fr) h)
 |none=>none
def Sd(live:List Nat)(n:Nat)(e:AExit)(fr:Fr)(h:Hp):kp live n (some (e,fr,h))=some (e,Z2 live fr,Xq n (Z2 live fr) h):=rfl
def lp(r:Option<|AExit×Fr×Hp)(k:Fr->Hp->Option (AExit×Fr×Hp)):Option (AExit×Fr×Hp):=W4 r k
def Se{fr:Fr}{h:Hp}:Zb E .skip fr h=some (.normal,fr,h):=by
 unfold Zb;rw[Qh (QI _ fr h) rfl]
 simp_all[Rz,QA]
def zbW(d sz:Nat)(ps:List<|Nat×Nat)(z:AV)(fr:Fr)(h:Hp):Option (AExit×Fr×Hp):=bif fits sz (Zvr h.length ps z)then some (.normal,put fr d<|.ptr (h.length+ps.length) 0 0 1,h++Zvo ps++[.row sz [Zvr h.length ps z]])else none
def Zzm(d sz:Nat)(ps:List<|Nat×Nat)(z:AV)(fr:Fr)(h:Hp)(a:fits sz (Zvr h.length ps z)=true):zbW d sz ps z fr h=some (.normal,put fr d<|.ptr (h.length+ps.length) 0 0 1,h++Zvo ps++[.row sz [Zvr h.length ps z]]):=by grind [zbW]
def Zzn{d sz:Nat}{z:AV}{ps:List (Nat×Nat)}{fr:Fr}{h:Hp}:Zb E (.zbox d sz z ps) fr h=zbW d sz ps z fr h:=by
 unfold Zb;rw[Qh (QI _ fr h) rfl];exact QA _
def Sf{i:Nat}{fr:Fr}{h:Hp}:Zb E (.exit i) fr h=some (.exit i,fr,h):=by
 unfold Zb;rw[Qh (QI _ fr h) rfl]
 simp_all[RA,QA]
def Sg{fr:Fr}{h:Hp}:Zb E .ret fr h=some (.ret,fr,h):=by
 unfold Zb;rw[Qh (QI _ fr h) rfl]
 simp_all[RB,QA]
def Sh{a:List AOper}{fr:Fr}{h:Hp}:Zb E (.region a) fr h=nrm (Z9 E a fr h):=by
 unfold Zb Z9;rw[Qh (QI _ fr h) rfl];simp[Lr,VR];rw[W3<|VQ _ _ _];cases lim (λn=>ZS E n a fr h)<;>rfl
def Si{b:List (List Nat)}{c a:List AOper}{fr:Fr}{h:Hp}:Zb E (.draw b c a) fr h=nrm (thn (Zm E c b fr h []) λp=>Z9 E a p.1 p.2):=by
 have e:Zb E (.draw b c a) fr h=lim λn=>thn (QH (λo fr h=>Zk E n o fr h) c b fr h []) λp=>nrm (ZS E n a p.1 p.2):=by
  unfold Zb;rw[Qh (QI _ fr h) rfl];congr 1
  funext n
  rw[Ls];cases QH (λo fr h=>Zk E n o fr h) c b fr h []with
  |none=>rfl
  |some p=>
   simp[ZM];cases ZS E n a p.1 p.2<;>rfl
 have f:∀p:Fr×Hp,Qu λn=>nrm (ZS E n a p.1 p.2):=by
  intro p n x g;cases d:ZS E n a p.1 p.2 with
  |none=>grind [nrm]
  |some q=>simp[nrm]at g;simp[VQ _ _ _ _ _ d,nrm];grind
 rw[e];refine(KW (k:=λn p=>nrm<|ZS E n a p.1 p.2) (LC c b fr h []) f).trans ?_
 show thn (Zm E c b fr h []) _=_
 cases Zm E c b fr h []with
 |none=>rfl
 |some p=>
  simp[ZM];refine GB λx=>?_
  rw[Yr<|f p];unfold Z9;constructor
  .rintro⟨n,i⟩;cases d:ZS E n a p.1 p.2 with
   |none=>grind [nrm]
   |some q=>rw[(Yr<|VQ _ _ _).2 ⟨n,d⟩];grind
  .cases d:lim (λn=>ZS E n a p.1 p.2)with
   |none=>grind [nrm]
   |some q=>
    have⟨n,i⟩:=(Yr<|VQ _ _ _).1 d
    grind
def Sj{a b:ACode}{fr:Fr}{h:Hp}:Zb E (.seq a b) fr h=W4 (Zb E a fr h) λfr h=>Zb E b fr h:=by
 unfold Zb;rw[Qh (QI _ fr h) rfl];have e:(λn=>Ze E (n+1) (.seq a b) fr h)=λn=>thn (Ze E n a fr h) λp=>match p with|(.normal,fr,h)=>Ze E n b fr h|p=>some p:=by
  funext n
  rw[Lt];cases Ze E n a fr h with
  |none=>rfl
  |some p=>have⟨e,fr,h⟩:=p;cases e<;>rfl
 rw[e,KW (QI _ _ _) ?_]
 .cases lim (λn=>Ze E n a fr h)with
  |none=>rfl
  |some p=>
   have⟨e,fr,h⟩:=p;cases e with
   |normal=>rfl
   |exit i=>exact QA _
   |ret=>exact QA _
 .intro p;have⟨e,fr,h⟩:=p;cases e with
  |normal=>exact QI _ _ _
  |exit i=>exact U6 _
  |ret=>exact U6 _
def Sk{x:Arg}{a b:ACode}{fr:Fr}{h:Hp}:Zb E (.cond x a b) fr h=cnd (ev E fr x) (Zb E a fr h) (Zb E b fr h):=by
 unfold Zb;rw[Qh (QI _ fr h) rfl];simp[Lu];generalize ev E fr x=v;cases v with
 |bool c=>cases c<;>rfl
 |_=>exact QA _
def Sl{a:Nat}{b:ACode}{fr:Fr}{h:Hp}:Zb E (.block a b) fr h=blk a (Zb E b fr h):=by
 unfold Zb;rw[Qh (QI _ fr h) rfl];have e:(λn=>Ze E (n+1) (.block a b) fr h)=λn=>thn (Ze E n b fr h) λp=>blk a (some p):=by
  funext n
  rw[Lv];cases Ze E n b fr h with
  |none=>rfl
  |some p=>have⟨e,fr,h⟩:=p;cases e<;>rfl
 rw[e,W3<|QI _ _ _];cases lim (λn=>Ze E n b fr h)<;>rfl
def Sm{live:List Nat}{b:ACode}{fr:Fr}{h:Hp}:Zb E (.keep live b) fr h=kp live h.length (Zb E b fr h):=by
 unfold Zb;rw[Qh (QI _ fr h) rfl];have e:(λn=>Ze E (n+1) (.keep live b) fr h)=λn=>thn (Ze E n b fr h) λp=>kp live h.length (some p):=by
  funext n
  rw[Ly];cases Ze E n b fr h<;>rfl
 rw[e,W3<|QI _ _ _];cases lim (λn=>Ze E n b fr h)<;>rfl
theorem RG{live:List Nat}{b:ACode}{fr:Fr}{h:Hp}:Zb E (.loop live b) fr h=lp (Zb E b (Z2 live fr) h) λfr h=>Zb E (.loop live b) fr h:=by
 unfold Zb;rw[Qh (QI _ fr h) rfl];have e:(λn=>Ze E (n+1) (.loop live b) fr h)=λn=>thn (Ze E n b (Z2 live fr) h) λp=>match p with|(.normal,fr,h)=>Ze E n (.loop live b) fr h|p=>some p:=by
  funext n
  rw[Lw];cases Ze E n b (Z2 live fr) h with
  |none=>rfl
  |some p=>have⟨e,fr,h⟩:=p;cases e<;>rfl
 rw[e,KW (QI _ _ _) ?_]
 .cases lim (λn=>Ze E n b (Z2 live fr) h)with
  |none=>rfl
  |some p=>
   have⟨e,fr,h⟩:=p;cases e with
   |normal=>rfl
   |exit i=>exact QA _
   |ret=>exact QA _
 .intro p;have⟨e,fr,h⟩:=p;cases e with
  |normal=>exact QI _ _ _
  |exit i=>exact U6 _
  |ret=>exact U6 _
def Sn(fr:Fr)(live:List Nat)(t:Nat):get (live.map λt=>(t,get fr t)) t=if t∈live then get fr t else .bot:=by
 induction live with
 |nil=>rfl
 |cons d r a=>
  simp[get]
  grind
theorem Sp(live:List Nat)(fr:Fr):Z2 live (Z2 live fr)=Z2 live fr:=by
 unfold Z2;apply ZYL;intro t a;rw[Sn,if_pos a]
theorem GF{live:List Nat}{b:ACode}{fr:Fr}{h:Hp}:Zb E (.loop live b) fr h=Zb E (.loop live b) (Z2 live fr) h:=by grind [RG,Z2,Sp]
def J0(fr:Fr)(b:Nat)(r:Option<|AV×Hp):Option (AExit×Fr×Hp):=
 match r with
 |some (_,h')=>
  match h'[b]? with
  |some (.loop .busy _ _ _ _ _)=>none
  |some (.loop _ pend fr' ps assign body)=>some (pend,fr,setH h' b<|.loop .exhausted pend fr' ps assign body)
  |_=>none
 |none=>none
noncomputable def rf(E:Env)(a:AV)(ps:List Nat)(assign body:ACode)(fr:Fr)(h:Hp):Option (AExit×Fr×Hp):=
 match a with
 | .clo (.func g) first cap=>J0 fr h.length<|VP E g (first++[.yld h.length]++cap)<|h++[.loop .ready .normal fr ps assign body]
 |_=>none
def Sq{g:Nat}{first cap:List AV}{ps:List Nat}{assign body:ACode}{fr:Fr}{h:Hp}:
 rf E (.clo (.func g) first cap) ps assign body fr h=J0 fr h.length (VP E g (first++[.yld h.length]++cap)<|h++[.loop .ready .normal fr ps assign body]):=rfl
def Sr{f:Arg}{ps:List Nat}{assign body:ACode}{fr:Fr}{h:Hp}:Zb E (.rangeFunc f ps assign body) fr h=rf E (ev E fr f) ps assign body fr h:=by
 unfold Zb rf VP;rw[Qh (QI _ fr h) rfl];simp only[Lz];generalize ev E fr f=v;cases v with
 |clo fn first cap=>
  cases fn with
  |func g=>
   dsimp only;generalize a:(λn=>QX E n g (first++[.yld h.length]++cap)<|h++[.loop .ready .normal fr ps assign body])=r
   have b:Qu r:=by rw[<-a];exact LB _ _ _
   have e:J0 fr h.length (lim r)=thn (lim r) λp=>J0 fr h.length (some p):=by cases lim r<;>rfl
   rw[e,<-W3 b,<-a];congr 1
   funext n
   dsimp only;cases QX E n g (first++[.yld h.length]++cap) (h++[.loop .ready .normal fr ps assign body])<;>rfl
  |_=>exact QA _
 |_=>exact QA _
def Ss{b:Nat}{args:List AV}{h:Hp}{fr fr0 f fr2:Fr}{h1 h2:Hp}{e:AExit}{ps k a:List Nat}{assign body d l i g:ACode}{j:Fr}{s:LoopState}{o:AExit}{c:Fr}
 (y:h[b]?=some (.loop .ready .normal fr ps assign body)) (u:WY ps args fr=some fr0)
 (z:Zb E assign fr0 h=some (.normal,f,h1)) (q:h1[b]?=some (.loop .ready .normal c k d l))
 (r:Zb E body f (setH h1 b<|.loop .busy .normal c k d l)=some (e,fr2,h2)) (p:h2[b]?=some (.loop s o j a i g)):
 U4 E b args h=some (match e with
  | .normal=>(.bool true,setH h2 b<|.loop .ready .normal j a i g)
  |e=>(.bool false,setH h2 b<|.loop .done e j a i g)):=by
 unfold U4;rw[Yr<|TY _ _ _];have⟨n,w⟩:=(Yr<|QI _ _ _).1 z;have⟨m,x⟩:=(Yr<|QI _ _ _).1 r;refine⟨max n m+1,?_⟩;simp[YG,y,u];have t:=(QI (E:=E) assign fr0 h).le (Nat.le_max_left n m) w;have v:=(QI (E:=E) body f<|setH h1 b<|.loop .busy .normal c k d l).le (Nat.le_max_right n m) x;simp[t,q,v,p];cases e<;>rfl
end Go.AM
namespace Go.AM
instance iDr:Dr:=⟨False⟩
open Go Go.Sort
variable {P:Program}
def grown_of{a b:World}(h1:b.os=a.os)(h2:b.tape=a.tape)(e:b.output=a.output)(j:a.heap.size<=b.heap.size)(h:a.drawn<=b.drawn)(d:∀k,k<a.heap.size->b.heap[k]?=a.heap[k]?):∃q os,b=grow (a.drewN q) os:=by
 refine⟨b.drawn-a.drawn,b.heap.extract a.heap.size b.heap.size,?_⟩;have f:b.heap=a.heap++b.heap.extract a.heap.size b.heap.size:=by
  apply Array.ext_getElem?;intro i;by_cases c:i<a.heap.size
  .rw[ZYX c,d i c]
  .rw[Array.getElem?_append_right (by omega),Array.getElem?_extract]
   by_cases l:i<b.heap.size
   .rw[if_pos<|by omega]
    congr 1;omega
   .rw[if_neg (by omega),Array.getElem?_eq_none<|by omega]
 have g:b.drawn=a.drawn+(b.drawn-a.drawn):=by omega
 cases a;cases b;simp only[grow,World.drewN]at*;subst h1 h2 e;rw[World.mk.injEq];exact⟨f,rfl,g,rfl,rfl⟩
def Zzp{d:Env}{g:Nat}{args:List AV}{n:Int}{h':Hp}(i:@EnvOk dT P d)(o:∀k,d.gl k=.bot)(f:d.sum g=none)(c:fnV d g args []=some (.int .i64 n,h'))(W:World)(X2:Xt)(u:∀r,X2 r->r<W.heap.size)(j:X2.cr=Chk P)
 (a:Array Value) (h:Rs Ty.empty X2 W args a.toList):Calls P g a W λe w'=>e=.returned (.int .i64 n)/\∃q os,w'=grow (W.drewN q) os:=by
 letI:Dr:=dT
 have⟨k,l⟩:=(Yr<|GC g args []).1 c;cases k with
 |zero=>simp[Qz]at l
 |succ k=>
  simp only[Qz,f]at l;have t:Ctx d Ty.empty X2 [] W:=by
   refine⟨⟨λb c' w t r p=>(by cases p),λr h=>(XX r h).elim,λr h=>(XX r h).elim,λb=>?_⟩,λx=>?_,u⟩
   .simp only[List.getElem?_nil];trivial
   .rw[o];trivial
  have v:=((TM i k).body g args [] (.int .i64 n) h' l Ty.empty X2 W a j t h).2;refine v.mono ?_;rintro e w' ⟨rv,rfl,T',st,m,hv⟩;have s:rv=.int .i64 n:=hv;subst s;exact⟨rfl,grown_of st.os st.tape st.output st.size (st.drawn trivial)<|λb p=>st.keep b p<|XX b⟩
end Go.AM
namespace Go.AM
open Go
variable [Dr]
variable {P:Program} {E E1:Env}
def Ctx.env{T:Ty}{X:Xt}{h:Hp}{w:World}(c:Ctx E T X h w)(a:∀g,E1.gl g=E.gl g):Ctx E1 T X h w:=
 ⟨c.m,λg=>by rw[a];exact c.gl g,c.hX⟩
def ZFH(b:EnvOk P E1)(e:∀g,E1.gl g=E.gl g){f:Nat}{s:List AV->Nat->List AV->Option (List AV)}(j:∀args h v i,ZE8 s h args=some (v,i)->fnV E1 f args h=some (v,ZH h i)):ZEs P E f s:=by
 intro args h v i m T X w a d c n;have⟨k,l⟩:=(Yr<|GC f args h).1 (j _ _ _ _ m);exact(TM b k).fn f args h v _ l T X w a d (c.env e) n
def ZEo(s:List AV->Nat->List AV->Option (List AV))(args:List AV)(h:Hp):Option (AV×Hp):=(ZE8 s h args).map λr=>(r.1,ZH h r.2)
def ZFI{f:Nat}{s:List AV->Nat->List AV->Option (List AV)}(i:ZEs P E f s):Qn P E f (ZEo s):=by
 intro args h v h' d T X w a b c e;unfold ZEo at d;simp only[ZXt,Prod.mk.injEq]at d;obtain⟨⟨v',g⟩,h1,rfl,rfl⟩:=d;exact i args h v' g h1 T X w a b c e
end Go.AM
namespace Go.AM
open Go
variable [Dr]
variable {P:Program} {E E1:Env} {T T2:Ty} {X X2:Xt} {w:World} {h:Hp}
end Go.AM
namespace Go.AM
open Go
variable [Dr]
variable {P:Program} {E E1:Env}
def ZTH(b:EnvOk P E1)(e:∀g,E1.gl g=E.gl g){f:Nat}{s:List AV->Hp->Option (AV×Hp)}(i:∀args h v h',s args h=some (v,h')->YU E1 true f args h=some (v,h')):Qn P E f s:=by
 intro args h v h' l T X w a d c m;have⟨k,j⟩:=(Yr<|U5 true f args h).1 (i _ _ _ _ l);exact(TM b k).call true f args h v h' j T X w a d (c.env e) m
def ZOc(g:List AV->Option AV)(args:List AV)(h:Hp):Option (AV×Hp):=bif Z4 args then(g args).map λv=>(v,h)else none
def ZOh(b:EnvOk P E1)(c:∀g,E1.gl g=E.gl g){f:Nat}{g:List AV->Option AV}(e:∀args v,g args=some v->pfn E1 f args=some v):Qn P E f (ZOc g):=by
 refine ZTH b c<|λargs h v h' a=>?_
 unfold ZOc at a;cases d:Z4 args with
 |false=>rw[d]at a;cases a
 |true=>
  rw[d,cond_true,ZXt]at a;have⟨v',h1,h2⟩:=a;cases h2;rw[GD];unfold Ql;rw[d,cond_true,ZM,e args v h1,ZM]
def ZQr(E:Env)(n f:Nat)(args:List AV):Option AV:=(Qz E n f args []).bind λr=>YE r.2 r.1
def ZTI{n f:Nat}{args:List AV}{v:AV}(h:ZQr E n f args=some v):pfn E f args=some v:=by
 unfold ZQr at h;have⟨r,h1,h2⟩:=ZZ0.1 h;unfold pfn fnV;rw[(Yr<|GC f args []).2 ⟨n,h1⟩,ZM];exact h2
mutual
def same:AV->AV->Bool
 | .bot,.bot=>true
 | .bool a,.bool b=>a==b
 | .int j a,.int k b=>decide (j=k)&&decide (a=b)
 | .str a,.str b=>decide (a.data.toList=b.data.toList)
 | .nilp,.nilp=>true
 | .nilsl,.nilsl=>true
 | .nilmap,.nilmap=>true
 | .nilfn,.nilfn=>true
 | .nilif,.nilif=>true
 | .agg a,.agg b=>ZOI a b
 | .tup a,.tup b=>ZOI a b
 | .iptr a x,.iptr b y=>a==b&&ZOI x y
 | .isl a b c x,.isl d e f y=>a==d&&(b==e&&(c==f&&ZOI x y))
 |_,_=>false
def ZOI:List AV->List AV->Bool
 |[],[]=>true
 |a::r,b::s=>same a b&&ZOI r s
 |_,_=>false
end
mutual
def same_eq:∀(a b:AV),same a b=true->a=b
 | .bot,b,h=>by cases b<;>first|rfl|(simp[same]at h)
 | .bool a,b,h=>by cases b<;>simp[same]at h;rw[h]
 | .int j a,b,h=>by cases b<;>simp[same]at h;rw[h.1,h.2]
 | .str a,b,h=>by
  cases b<;>simp[same]at h
  exact congrArg AV.str<|ByteArray.ext h
 | .nilp,b,h=>by cases b<;>first|rfl|(simp[same]at h)
 | .nilsl,b,h=>by cases b<;>first|rfl|(simp[same]at h)
 | .nilmap,b,h=>by cases b<;>first|rfl|(simp[same]at h)
 | .nilfn,b,h=>by cases b<;>first|rfl|(simp[same]at h)
 | .nilif,b,h=>by cases b<;>first|rfl|(simp[same]at h)
 | .agg a,b,h=>by cases b<;>simp[same]at h;rw[ZPk _ _ h]
 | .tup a,b,h=>by cases b<;>simp[same]at h;rw[ZPk _ _ h]
 | .iptr a x,b,h=>by cases b<;>simp[same]at h;rw[h.1,ZPk _ _ h.2]
 | .isl a b c x,d,h=>by cases d<;>simp[same]at h;rw[h.1,h.2.1,h.2.2.1,ZPk _ _ h.2.2.2]
 | .imap ..,b,h=>by cases b<;>simp[same]at h
 | .ifc ..,b,h=>by cases b<;>simp[same]at h
 | .clo ..,b,h=>by cases b<;>simp[same]at h
 | .ptr ..,b,h=>by cases b<;>simp[same]at h
 | .sl ..,b,h=>by cases b<;>simp[same]at h
 | .mp _,b,h=>by cases b<;>simp[same]at h
 | .it _,b,h=>by cases b<;>simp[same]at h
 | .yld _,b,h=>by cases b<;>simp[same]at h
def ZPk:∀(a b:List AV),ZOI a b=true->a=b
 |[],[],_=>rfl
 |[],_::_,h=>by simp[ZOI]at h
 |_::_,[],h=>by simp[ZOI]at h
 |a::r,b::s,h=>by
  simp only[ZOI,ZXf]at h;rw[same_eq a b h.1,ZPk r s h.2]
end
def ZOp(l:List<|List AV×AV)(args:List AV):Option AV:=(l.find? λp=>ZOI p.1 args).map (·.2)
def ZOt{l:List (List AV×AV)}{f:Nat}(h:∀p∈l,pfn E f p.1=some p.2)(args:List AV)(v:AV)(a:ZOp l args=some v):pfn E f args=some v:=by
 unfold ZOp at a;obtain⟨p,h1,rfl⟩:=ZXt.1 a;have h2:=List.find?_some h1;rw[<-ZPk _ _ h2];exact h p<|ZZl h1
def okP(E:Env)(n f:Nat)(args:List AV)(v:AV):Bool:=match ZQr E n f args with|some x=>same x v|none=>false
def ZO3{n f:Nat}{args:List AV}{v:AV}(h:okP E n f args v=true):pfn E f args=some v:=by
 unfold okP at h;split at h
 .next x e=>rw[<-same_eq _ _ h];exact ZTI e
 .cases h
end Go.AM
namespace Go.AM
open Go
variable {E:Env}
def emp:ByteArray:=⟨#[]⟩
def B(l:List UInt8):ByteArray:=⟨⟨l⟩⟩
abbrev o(d:Nat)(op:AOp):AOper:=⟨some d,op,none⟩
abbrev og(d:Nat)(op:AOp)(t:Nat)(b:Bool):AOper:=⟨some d,op,some (t,b)⟩
def Su(t:Nat):get [] t=.bot:=rfl
def Sv(k:Nat)(v:AV)(r:Fr)(t:Nat):get ((k,v)::r) t=bif k==t then v else get r t:=rfl
def GG(fr:Fr)(d:Nat)(v:AV):ZB fr (some d) v=(d,v)::fr:=rfl
def RH(fr:Fr)(v:AV):ZB fr none v=fr:=rfl
def Sw(fr:Fr)(t:Nat):ev E fr (.t t)=get fr t:=rfl
def Sx(fr:Fr)(v:AV):ev E fr (.c v)=v:=rfl
def Sy(fr:Fr)(f:Nat):ev E fr (.f f)=.clo (.func f) [] []:=rfl
def SA(fr:Fr):Z2 [] fr=[]:=rfl
def SB(t:Nat)(l:List Nat)(fr:Fr):Z2 (t::l) fr=(t,get fr t)::Z2 l fr:=rfl
def SC(i:Nat):QP i []=[]:=rfl
def SD(i:Nat)(v:AV)(r:List AV):QP i (v::r)=(i,v)::QP (i+1) r:=rfl
theorem J1(h:Hp)(x:AObj):setH h h.length x=h++[x]:=by
 unfold setH;have:Nat.blt h.length h.length=false:=by rw[ZYH];simp
 rw[this,cond_false]
def SE(n:Nat)(fr:Fr):Xq n fr []=[]:=by
 unfold Xq;cases Zd n (fr.map (·.2))&&X4 n (List.take n [])<;>simp
def GH(fr:Fr)(h:Hp):Xq h.length fr h=h:=by
 unfold Xq;cases Zd h.length (fr.map (·.2))&&X4 h.length (List.take h.length h)<;>simp
def evs(E:Env)(fr:Fr)(l:List Arg):List AV:=l.map<|ev E fr
def SF(fr:Fr):evs E fr []=[]:=rfl
def SG(fr:Fr)(x:Arg)(l:List Arg):evs E fr (x::l)=ev E fr x::evs E fr l:=rfl
noncomputable def sq(E:Env)(b:ACode)(r:Option<|AExit×Fr×Hp):Option (AExit×Fr×Hp):=W4 r λfr h=>Zb E b fr h
def SH(b:ACode)(fr:Fr)(h:Hp):sq E b (some (.normal,fr,h))=Zb E b fr h:=rfl
def SI(b:ACode)(i:Nat)(fr:Fr)(h:Hp):sq E b (some (.exit i,fr,h))=some (.exit i,fr,h):=rfl
def SJ(b:ACode)(fr:Fr)(h:Hp):sq E b (some (.ret,fr,h))=some (.ret,fr,h):=rfl
def SK{a b:ACode}{fr:Fr}{h:Hp}:Zb E (.seq a b) fr h=sq E b (Zb E a fr h):=Sj
noncomputable def cn(E:Env)(a b:ACode)(fr:Fr)(h:Hp)(v:AV):Option (AExit×Fr×Hp):=cnd v (Zb E a fr h)<|Zb E b fr h
def SM(a b:ACode)(fr:Fr)(h:Hp):cn E a b fr h (.bool true)=Zb E a fr h:=rfl
def SN(a b:ACode)(fr:Fr)(h:Hp):cn E a b fr h (.bool false)=Zb E b fr h:=rfl
def SO{x:Arg}{a b:ACode}{fr:Fr}{h:Hp}:Zb E (.cond x a b) fr h=cn E a b fr h (ev E fr x):=Sk
noncomputable def lpc(E:Env)(live:List Nat)(b:ACode)(r:Option<|AExit×Fr×Hp):Option (AExit×Fr×Hp):=W4 r λfr h=>Zb E (.loop live b) fr h
theorem LH(live:List Nat)(b:ACode)(fr:Fr)(h:Hp):lpc E live b (some (.normal,fr,h))=Zb E (.loop live b) fr h:=rfl
def SP(live:List Nat)(b:ACode)(i:Nat)(fr:Fr)(h:Hp):lpc E live b (some (.exit i,fr,h))=some (.exit i,fr,h):=rfl
def SQ(live:List Nat)(b:ACode)(fr:Fr)(h:Hp):lpc E live b (some (.ret,fr,h))=some (.ret,fr,h):=rfl
theorem J2{live:List Nat}{b:ACode}{fr:Fr}{h:Hp}:Zb E (.loop live b) fr h=lpc E live b (Zb E b (Z2 live fr) h):=RG
noncomputable def stp(E:Env)(r:List AOper)(d:Option Nat)(fr:Fr)(h:Hp)(v:Option AV):Option (Fr×Hp):=thn v λv=>Z9 E r (ZB fr d v) h
def SR(r:List AOper)(d:Option Nat)(fr:Fr)(h:Hp)(v:AV):stp E r d fr h (some v)=Z9 E r (ZB fr d v) h:=rfl
noncomputable def stw(E:Env)(r:List AOper)(d:Option Nat)(fr:Fr)(x:Option<|AV×Hp):Option (Fr×Hp):=thn x λp=>Z9 E r (ZB fr d p.1) p.2
theorem LI(r:List AOper)(d:Option Nat)(fr:Fr)(v:AV)(h:Hp):stw E r d fr (some (v,h))=Z9 E r (ZB fr d v) h:=rfl
noncomputable def gst(E:Env)(d:Option Nat)(a:AOp)(r:List AOper)(fr:Fr)(h:Hp)(b:Bool)(v:AV):Option (Fr×Hp):=
 thn (grd v b (opV E ⟨d,a,none⟩ fr h)<|some (ZB fr d<|.tup [],h)) λp=>Z9 E r p.1 p.2
def J3{d:Option Nat}{a:AOp}{r:List AOper}{fr:Fr}{h:Hp}:Z9 E (⟨d,a,none⟩::r) fr h=thn (opV E ⟨d,a,none⟩ fr h) λp=>Z9 E r p.1 p.2:=V9
def SS{d:Option Nat}{a:AOp}{t:Nat}{b:Bool}{r:List AOper}{fr:Fr}{h:Hp}:Z9 E (⟨d,a,some (t,b)⟩::r) fr h=gst E d a r fr h b (get fr t):=by
 rw[V9,S4];rfl
def LJ(d:Option Nat)(a:AOp)(r:List AOper)(fr:Fr)(h:Hp):gst E d a r fr h true (.bool true)=Z9 E (⟨d,a,none⟩::r) fr h:=by rw[V9];rfl
def LK(d:Option Nat)(a:AOp)(r:List AOper)(fr:Fr)(h:Hp):gst E d a r fr h false (.bool false)=Z9 E (⟨d,a,none⟩::r) fr h:=by rw[V9];rfl
def LL(d:Option Nat)(a:AOp)(r:List AOper)(fr:Fr)(h:Hp):gst E d a r fr h true (.bool false)=Z9 E r (ZB fr d<|.tup []) h:=rfl
def LM(d:Option Nat)(a:AOp)(r:List AOper)(fr:Fr)(h:Hp):gst E d a r fr h false (.bool true)=Z9 E r (ZB fr d<|.tup []) h:=rfl
def ST(d:Option Nat)(a:AOp)(r:List AOper)(fr:Fr)(h:Hp)(b:Bool):gst E d a r fr h b (.tup [])=Z9 E r (ZB fr d<|.tup []) h:=rfl
def QB{d:Option Nat}{a:AOp}{r:List AOper}{fr:Fr}{h:Hp}{v:Option AV}{rs:AV->List Nat}(c:a.isCall=false)(b:Z8 E fr h h.length a=v.map λx=>(x,rs x,none)):Z9 E (⟨d,a,none⟩::r) fr h=stp E r d fr h v:=by
 rw[J3,GE c,b];cases v<;>rfl
def X9{d:Option Nat}{a:AOp}{r:List AOper}{fr:Fr}{h:Hp}{v:Option (AV×Hp)}(c:a.isCall=false)(b:(thn (Z8 E fr h h.length a) λx=>some (x.1,ZH h x.2.2))=v):Z9 E (⟨d,a,none⟩::r) fr h=stw E r d fr v:=by
 rw[J3,GE c,<-b];cases Z8 E fr h h.length a<;>rfl
def SU{d:Option Nat}{x:Arg}{r:List AOper}{fr:Fr}{h:Hp}:Z9 E (⟨d,.mv x,none⟩::r) fr h=Z9 E r (ZB fr d<|ev E fr x) h:=
 QB (v:=some<|ev E fr x) (rs:=λ_=>[]) rfl rfl
def SV{d:Option Nat}{sz:Nat}{r:List AOper}{fr:Fr}{h:Hp}:Z9 E (⟨d,.own sz,none⟩::r) fr h=Z9 E r (ZB fr d<|.sl h.length 0 0 0 false) (h++[.row sz []]):=
 X9 (v:=some (_,h++[.row sz []])) rfl (by simp only[Z8,ZM,ZH,J1])
def SW{d:Option Nat}{r:List AOper}{fr:Fr}{h:Hp}:Z9 E (⟨d,.mkm,none⟩::r) fr h=Z9 E r (ZB fr d<|.mp h.length) (h++[.map [] []]):=
 X9 (v:=some (_,h++[.map [] []])) rfl (by simp only[Z8,ZM,ZH,J1])
def RI:AV->AV->AV->Option AV
 | .bool true,a,_=>some a
 | .bool false,_,b=>some b
 |_,_,_=>none
def SX(a b:AV):RI (.bool true) a b=some a:=rfl
def SY(a b:AV):RI (.bool false) a b=some b:=rfl
def SZ{d:Option Nat}{c a b:Arg}{r:List AOper}{fr:Fr}{h:Hp}:Z9 E (⟨d,.pick c a b,none⟩::r) fr h=stp E r d fr h (RI (ev E fr c) (ev E fr a)<|ev E fr b):=
 QB (rs:=λ_=>[]) rfl (by
  simp only[Z8];generalize ev E fr c=v;cases v<;>first|rfl|skip
  case bool b=>cases b<;>rfl)
def A0{d:Option Nat}{f:BinOp}{x y:Arg}{r:List AOper}{fr:Fr}{h:Hp}:Z9 E (⟨d,.bin f x y,none⟩::r) fr h=stp E r d fr h (YZ f (ev E fr x)<|ev E fr y):=
 QB (rs:=λ_=>[]) rfl rfl
def A1{d:Option Nat}{f:UnOp}{x:Arg}{r:List AOper}{fr:Fr}{h:Hp}:Z9 E (⟨d,.un f x,none⟩::r) fr h=stp E r d fr h (Vy f<|ev E fr x):=
 QB (rs:=λ_=>[]) rfl rfl
def GI(neg:Bool):Option Bool->Option AV
 |some b=>some<|.bool<|bif neg then !b else b
 |none=>none
def A2(b:Bool):GI true (some b)=some (.bool<|!b):=rfl
def A3(b:Bool):GI false (some b)=some (.bool b):=rfl
def A4{d:Option Nat}{neg ag:Bool}{a:List Nat}{x y:Arg}{r:List AOper}{fr:Fr}{h:Hp}:Z9 E (⟨d,.eqv neg ag a x y,none⟩::r) fr h=stp E r d fr h (GI neg<|Zz ag a (ev E fr x)<|ev E fr y):=
 QB (rs:=λ_=>[]) rfl (by
  simp only[Z8,GI,Zl];cases Zz ag a (ev E fr x) (ev E fr y)<;>cases neg<;>rfl)
def LO(i:Nat):AV->Option AV
 | .tup vs=>vs[i]?
 |_=>none
def Aa(i:Nat)(vs:List AV):LO i (.tup vs)=vs[i]?:=rfl
def Ab{d:Option Nat}{x:Arg}{i:Nat}{r:List AOper}{fr:Fr}{h:Hp}:Z9 E (⟨d,.ext x i,none⟩::r) fr h=stp E r d fr h (LO i<|ev E fr x):=
 QB (rs:=λ_=>[]) rfl (by
  simp only[Z8];generalize ev E fr x=v;cases v<;>rfl)
def Ac{d:Option Nat}{fn:Fn}{f c:List Arg}{r:List AOper}{fr:Fr}{h:Hp}:Z9 E (⟨d,.mkf fn f c,none⟩::r) fr h=Z9 E r (ZB fr d<|.clo fn (evs E fr f)<|evs E fr c) h:=
 QB (v:=some<|.clo fn (evs E fr f)<|evs E fr c) (rs:=λ_=>[]) rfl rfl
def mmV(mx:Bool):AV->AV->Option AV
 | .int k a,.int _ b=>some<|.int k<|bif mx then(if b>a then b else a)else(if b<a then b else a)
 |_,_=>none
def Ae(k j:IntKind)(a b:Int):mmV false (.int k a) (.int j b)=some (.int k<|min a b):=by
 have e:(if b<a then b else a)=min a b:=by omega
 simp only[mmV,cond_false,e]
def Af(k j:IntKind)(a b:Int):mmV true (.int k a) (.int j b)=some (.int k<|max a b):=by
 have e:(if b>a then b else a)=max a b:=by omega
 simp only[mmV,cond_true,e]
def Ag{d:Option Nat}{mx:Bool}{x y:Arg}{r:List AOper}{fr:Fr}{h:Hp}:Z9 E (⟨d,.mm mx x y,none⟩::r) fr h=stp E r d fr h (mmV mx (ev E fr x)<|ev E fr y):=
 QB (rs:=λ_=>[]) rfl (by
  simp only[Z8];generalize ev E fr x=v;generalize ev E fr y=u;cases v<;>cases u<;>rfl)
def evp(E:Env)(fr:Fr)(ps:List<|Nat×Nat×Arg):List (Nat×Nat×AV):=ps.map λp=>(p.1,p.2.1,ev E fr p.2.2)
def Ah(fr:Fr):evp E fr []=[]:=rfl
def Ai(fr:Fr)(a b:Nat)(x:Arg)(l:List<|Nat×Nat×Arg):evp E fr ((a,b,x)::l)=(a,b,ev E fr x)::evp E fr l:=rfl
def U7:Option (List AV)->Option AV
 |some cs=>some<|.agg cs
 |none=>none
def Aj(cs:List AV):U7 (some cs)=some (.agg cs):=rfl
def Ak{d:Option Nat}{z:List AV}{ps:List (Nat×Nat×Arg)}{r:List AOper}{fr:Fr}{h:Hp}:Z9 E (⟨d,.build z ps,none⟩::r) fr h=stp E r d fr h (U7<|fill z<|evp E fr ps):=
 QB (rs:=λ_=>[]) rfl (by
  simp only[Z8,Zl,evp,U7];cases fill z (ps.map λp=>(p.1,p.2.1,ev E fr p.2.2))<;>rfl)
def evq(E:Env)(fr:Fr)(ps:List<|Nat×Arg):List (Nat×AV):=ps.map λp=>(p.1,ev E fr p.2)
def Al(fr:Fr):evq E fr []=[]:=rfl
def Am(fr:Fr)(a:Nat)(x:Arg)(l:List<|Nat×Arg):evq E fr ((a,x)::l)=(a,ev E fr x)::evq E fr l:=rfl
def GJ(ex:Bool)(sz:Nat)(z:AV):Option (List AV)->Option AV
 |some es=>bif fits sz z&&Z4 es then some (.isl false ex sz es)else none
 |none=>none
def Ao(ex:Bool)(sz:Nat)(z:AV)(es:List AV)(h1:fits sz z=true)(h2:Z4 es=true):GJ ex sz z (some es)=some (.isl false ex sz es):=by simp[GJ,h1,h2]
def Ap{d:Option Nat}{ex:Bool}{sz:Nat}{z:AV}{n:Nat}{ps:List (Nat×Arg)}{r:List AOper}{fr:Fr}{h:Hp}:Z9 E (⟨d,.bsl true ex sz z n ps,none⟩::r) fr h=stp E r d fr h (GJ ex sz z<|YC sz (List.replicate n z)<|evq E fr ps):=
 QB (rs:=λ_=>[]) rfl (by
  simp only[Z8,evq,GJ];cases YC sz (List.replicate n z) (ps.map λp=>(p.1,ev E fr p.2))with
  |none=>rfl
  |some es=>
   simp only[cond_true];cases fits sz z<;>cases Z4 es<;>rfl)
def GK(ex:Bool)(h:Hp)(sz:Nat)(z:AV)(n:Nat):Option (List AV)->Option (AV×Hp)
 |some es=>bif fits sz z then some (.sl h.length n 0 n<|!ex,h++[.row sz es])else none
 |none=>none
def Aq(h:Hp)(sz:Nat)(z:AV)(n:Nat)(es:List AV)(h1:fits sz z=true):GK false h sz z n (some es)=some (.sl h.length n 0 n true,h++[.row sz es]):=by simp[GK,h1]
def Ar{d:Option Nat}{ex:Bool}{sz:Nat}{z:AV}{n:Nat}{ps:List (Nat×Arg)}{r:List AOper}{fr:Fr}{h:Hp}:Z9 E (⟨d,.bsl false ex sz z n ps,none⟩::r) fr h=stw E r d fr (GK ex h sz z n<|YC sz (List.replicate n z)<|evq E fr ps):=
 X9 rfl (by
  simp only[Z8,evq,GK];cases YC sz (List.replicate n z) (ps.map λp=>(p.1,ev E fr p.2))with
  |none=>rfl
  |some es=>
   simp only[cond_false];cases fits sz z
   .rfl
   .simp only[cond_true,ZM,ZH,J1])
def rowAt(h:Hp)(b g:Nat):Option (Nat×List AV):=match h[b]? with|some (.row sz es)=>bif es.length==g then some (sz,es)else none|_=>none
def rowAt_zero(sz:Nat)(es:List AV)(h:Hp)(g:Nat):rowAt (.row sz es::h) 0 g=bif es.length==g then some (sz,es)else none:=rfl
def Au(x:AObj)(h:Hp)(b g:Nat):rowAt (x::h) (b+1) g=rowAt h b g:=rfl
def Av(h:Hp)(sz:Nat)(es:List AV)(g:Nat):rowAt (h++[.row sz es]) h.length g=bif es.length==g then some (sz,es)else none:=by simp[rowAt]
def ldE(n:Option Nat)(i off:Nat):Option (Nat×List AV)->Option AV
 |some (_,es)=>thn es[i]? λe=>takeC n<|e.cells.drop off
 |none=>none
def ldQ(n:Option Nat)(off:Nat):Option AV->Option AV
 |some e=>takeC n<|e.cells.drop off
 |none=>none
def Aw(n:Option Nat)(off:Nat)(e:AV):ldQ n off (some e)=takeC n (e.cells.drop off):=rfl
def Ax(n:Option Nat)(i off sz:Nat)(es:List AV):ldE n i off (some (sz,es))=ldQ n off es[i]?:=by
 simp only[ldE,ldQ];cases es[i]?<;>rfl
def ldV(h:Hp)(n:Option Nat):AV->Option AV
 | .iptr _ cs=>takeC n cs
 | .ptr b i off g=>ldE n i off<|rowAt h b g
 |_=>none
def Ay(h:Hp)(n:Option Nat)(bw:Bool)(cs:List AV):ldV h n (.iptr bw cs)=takeC n cs:=rfl
def Az(h:Hp)(n:Option Nat)(b i off g:Nat):ldV h n (.ptr b i off g)=ldE n i off (rowAt h b g):=rfl
def AA{d:Option Nat}{n:Option Nat}{x:Arg}{r:List AOper}{fr:Fr}{h:Hp}:Z9 E (⟨d,.load n x,none⟩::r) fr h=stp E r d fr h (ldV h n<|ev E fr x):=
 QB (rs:=λ_=>match ev E fr x with| .ptr b _ _ _=>[b]|_=>[]) rfl (by
  simp only[Z8];generalize ev E fr x=v;cases v<;>first|rfl|skip
  case ptr b i off g=>
   simp only[ldV,rowAt];cases h[b]? with
   |none=>rfl
   |some o=>
    cases o<;>first|rfl|skip
    case row sz es=>
     dsimp only;cases(es.length==g)
     .rfl
     .simp only[cond_true,ldE];cases es[i]?<;>rfl)
def ckV(h:Hp):AV->Option AV
 | .iptr bw cs=>some<|.iptr bw cs
 | .ptr b i off g=>match rowAt h b g with|some _=>some (.ptr b i off g)|none=>none
 | .clo (.func f) a c=>some<|.clo (.func f) a c
 |_=>none
def AB(h:Hp)(bw:Bool)(cs:List AV):ckV h (.iptr bw cs)=some (.iptr bw cs):=rfl
def ckP(b i off g:Nat):Option (Nat×List AV)->Option AV
 |some _=>some<|.ptr b i off g
 |none=>none
def AD(b i off g:Nat)(p:Nat×List AV):ckP b i off g (some p)=some (.ptr b i off g):=rfl
def AE(h:Hp)(b i off g:Nat):ckV h (.ptr b i off g)=ckP b i off g (rowAt h b g):=by
 simp only[ckV,ckP]
def AF{d:Option Nat}{x:Arg}{r:List AOper}{fr:Fr}{h:Hp}:Z9 E (⟨d,.nilck x,none⟩::r) fr h=stp E r d fr h (ckV h<|ev E fr x):=
 QB (rs:=λ_=>match ev E fr x with| .ptr b _ _ _=>[b]|_=>[]) rfl (by
  simp only[Z8];generalize ev E fr x=v;cases v<;>first|rfl|(rename_i fn _ _;cases fn<;>rfl)|skip
  case ptr b i off g=>
   simp only[ckV,rowAt];cases h[b]? with
   |none=>rfl
   |some o=>
    cases o<;>first|rfl|skip
    case row sz es=>dsimp only;cases(es.length==g)<;>rfl)
def faV(h:Hp)(k:Nat):AV->Option AV
 | .iptr bw cs=>some<|.iptr bw<|cs.drop k
 | .ptr b i off g=>ckP b i (off+k) g<|rowAt h b g
 |_=>none
def AG(h:Hp)(k:Nat)(bw:Bool)(cs:List AV):faV h k (.iptr bw cs)=some (.iptr bw<|cs.drop k):=rfl
def AH(h:Hp)(k b i off g:Nat):faV h k (.ptr b i off g)=ckP b i (off+k) g (rowAt h b g):=rfl
def AI{d:Option Nat}{k:Nat}{x:Arg}{r:List AOper}{fr:Fr}{h:Hp}:Z9 E (⟨d,.fadr k x,none⟩::r) fr h=stp E r d fr h (faV h k<|ev E fr x):=
 QB (rs:=λ_=>match ev E fr x with| .ptr b _ _ _=>[b]|_=>[]) rfl (by
  simp only[Z8];generalize ev E fr x=v;cases v<;>first|rfl|skip
  case ptr b i off g=>
   simp only[faV,rowAt,ckP];cases h[b]? with
   |none=>rfl
   |some o=>
    cases o<;>first|rfl|skip
    case row sz es=>dsimp only;cases(es.length==g)<;>rfl)
def ixG(es:List AV)(n:Int):Option AV:=if 0<=n then es[n.toNat]? else none
def LP(es:List AV)(n:Nat):ixG es (n:Int)=es[n]?:=by simp[ixG]
def RK(a:List AV)(x:AV)(b:List AV):ixG (a++x::b) (a.length:Int)=some x:=by simp[ixG]
def iaE(bw:Bool)(sz a:Nat):Option AV->Option AV
 |some e=>bif a==sz then some (.iptr bw e.cells)else none
 |none=>none
def AJ(bw:Bool)(sz:Nat)(e:AV):iaE bw sz sz (some e)=some (.iptr bw e.cells):=by simp[iaE]
def iaP(b g off sz:Nat)(n:Int)(a:Nat):Option (Nat×List AV)->Option AV
 |some (sz',_)=>if 0<=n/\n<(a:Int)then(bif sz'==sz then some (.ptr b (off+n.toNat) 0 g)else none)else none
 |none=>none
def VT(b g off sz:Nat)(n:Int)(a:Nat)(es:List AV)(c:0<=n/\n<(a:Int)):iaP b g off sz n a (some (sz,es))=some (.ptr b (off+n.toNat) 0 g):=by simp[iaP,c]
def iaV(h:Hp)(sz:Nat):AV->AV->Option AV
 | .isl bw _ sz' es,.int _ n=>iaE bw sz sz'<|ixG es n
 | .sl b g off len _,.int _ n=>iaP b g off sz n len<|rowAt h b g
 |_,_=>none
def AK(h:Hp)(sz:Nat)(bw ex:Bool)(a:Nat)(es:List AV)(k:IntKind)(n:Int):iaV h sz (.isl bw ex a es) (.int k n)=iaE bw sz a (ixG es n):=rfl
def AL(h:Hp)(sz b g off a:Nat)(ex:Bool)(k:IntKind)(n:Int):iaV h sz (.sl b g off a ex) (.int k n)=iaP b g off sz n a (rowAt h b g):=rfl
def AN{d:Option Nat}{sz:Nat}{x i:Arg}{r:List AOper}{fr:Fr}{h:Hp}:Z9 E (⟨d,.iadr sz x i,none⟩::r) fr h=stp E r d fr h (iaV h sz (ev E fr x)<|ev E fr i):=
 QB (rs:=λ_=>match ev E fr x with| .sl b _ _ _ _=>[b]|_=>[]) rfl (by
  simp only[Z8];generalize ev E fr x=v;generalize ev E fr i=u;cases v<;>cases u<;>first|rfl|skip
  case isl.int bw ex sz' es k n=>
   simp only[iaV,ixG,iaE];by_cases a:0<=n
   .rw[if_pos a,if_pos a];cases es[n.toNat]? with
    |none=>rfl
    |some e=>simp only;cases(sz'==sz)<;>rfl
   .rw[if_neg a,if_neg a];rfl
  case sl.int b g off c ex k n=>
   simp only[iaV,rowAt];by_cases a:0<=n/\n<(c:Int)
   .rw[if_pos a];cases h[b]? with
    |none=>rfl
    |some o=>
     cases o<;>first|rfl|skip
     case row sz' es=>
      simp only;cases(es.length==g)<;>cases f:(sz'==sz)<;>simp[iaP,a,f]
   .rw[if_neg a];cases h[b]? with
    |none=>rfl
    |some o=>
     cases o<;>first|rfl|skip
     case row sz' es=>
      simp only;cases(es.length==g)<;>simp[iaP,a])
def aaV(h:Hp)(sz a:Nat):AV->AV->Option AV
 | .iptr bw cs,.int _ n=>if 0<=n/\n<(a:Int)then some (.iptr bw<|cs.drop<|n.toNat*sz)else none
 | .ptr b j off g,.int _ n=>if 0<=n/\n<(a:Int)then ckP b j (off+n.toNat*sz) g (rowAt h b g)else none
 |_,_=>none
def AO(h:Hp)(sz a:Nat)(bw:Bool)(cs:List AV)(k:IntKind)(n:Int):aaV h sz a (.iptr bw cs) (.int k n)=if 0<=n/\n<(a:Int)then some (.iptr bw<|cs.drop<|n.toNat*sz)else none:=rfl
def AP(h:Hp)(sz a b j off g:Nat)(k:IntKind)(n:Int):aaV h sz a (.ptr b j off g) (.int k n)=if 0<=n/\n<(a:Int)then ckP b j (off+n.toNat*sz) g (rowAt h b g)else none:=rfl
def AQ{d:Option Nat}{sz a:Nat}{x i:Arg}{r:List AOper}{fr:Fr}{h:Hp}:Z9 E (⟨d,.aadr sz a x i,none⟩::r) fr h=stp E r d fr h (aaV h sz a (ev E fr x)<|ev E fr i):=
 QB (rs:=λ_=>match ev E fr x with| .ptr b _ _ _=>[b]|_=>[]) rfl (by
  simp only[Z8];generalize ev E fr x=v;generalize ev E fr i=u;cases v<;>cases u<;>first|rfl|skip
  case iptr.int bw cs k n=>
   simp only[aaV];split<;>rfl
  case ptr.int b j off g k n=>
   simp only[aaV,rowAt,ckP];cases h[b]? with
   |none=>simp
   |some o=>
    cases o<;>first|(simp;done)|skip
    case row sz' es=>
     simp only;cases(es.length==g)<;>by_cases c:0<=n/\n<(a:Int)<;>simp[c])
def aiV(n:Option Nat)(sz a:Nat):AV->AV->Option AV
 | .agg cs,.int _ k=>if 0<=k/\k<(a:Int)then takeC n (cs.drop<|k.toNat*sz)else none
 |_,_=>none
def LQ(n:Option Nat)(sz a:Nat)(cs:List AV)(j:IntKind)(k:Int):aiV n sz a (.agg cs) (.int j k)=if 0<=k/\k<(a:Int)then takeC n (cs.drop<|k.toNat*sz)else none:=rfl
def AR{d:Option Nat}{n:Option Nat}{sz a:Nat}{x i:Arg}{r:List AOper}{fr:Fr}{h:Hp}:Z9 E (⟨d,.aidx n sz a x i,none⟩::r) fr h=stp E r d fr h (aiV n sz a (ev E fr x)<|ev E fr i):=
 QB (rs:=λ_=>[]) rfl (by
  simp only[Z8];generalize ev E fr x=v;generalize ev E fr i=u;cases v<;>cases u<;>first|rfl|skip
  simp only[aiV];split<;>rfl)
def siV:AV->AV->Option AV
 | .str s,.int _ n=>if 0<=n then(s.data[n.toNat]?).map λb=>.int .u8 b.toNat else none
 |_,_=>none
def AS(s:ByteArray)(k:IntKind)(n:Int):siV (.str s) (.int k n)=if 0<=n then(s.data[n.toNat]?).map λb=>.int .u8 b.toNat else none:=rfl
def AT{d:Option Nat}{x i:Arg}{r:List AOper}{fr:Fr}{h:Hp}:Z9 E (⟨d,.sidx x i,none⟩::r) fr h=stp E r d fr h (siV (ev E fr x)<|ev E fr i):=
 QB (rs:=λ_=>[]) rfl (by
  simp only[Z8];generalize ev E fr x=v;generalize ev E fr i=u;cases v<;>cases u<;>first|rfl|skip
  case str.int s k n=>
   simp only[siV,Zl];split
   .cases s.data[n.toNat]?<;>rfl
   .rfl)
def lnP(a:Nat):Option (Nat×List AV)->Option AV
 |some _=>some<|.int .i64 a
 |none=>none
def AU(a:Nat)(p:Nat×List AV):lnP a (some p)=some (.int .i64 a):=rfl
def lnM(h:Hp)(b:Nat):Option AV:=match h[b]? with|some (.map ks _)=>some (.int .i64 ks.length)|_=>none
def lnV(h:Hp):Nat->AV->Option AV
 |0,.str s=>some<|.int .i64 s.size
 |1,.nilsl=>some<|.int .i64 0
 |1,.isl _ _ _ es=>some<|.int .i64 es.length
 |1,.sl b g _ len _=>lnP len<|rowAt h b g
 |2,.nilmap=>some<|.int .i64 0
 |2,.imap _ ks _=>some<|.int .i64 ks.length
 |2,.mp b=>lnM h b
 |_,_=>none
def AW(h:Hp)(s:ByteArray):lnV h 0 (.str s)=some (.int .i64 s.size):=rfl
theorem AX(h:Hp)(bw ex:Bool)(sz:Nat)(es:List AV):lnV h 1 (.isl bw ex sz es)=some (.int .i64 es.length):=rfl
def AY(h:Hp)(b g off a:Nat)(ex:Bool):lnV h 1 (.sl b g off a ex)=lnP a (rowAt h b g):=rfl
def AZ(h:Hp)(b:Nat):lnV h 2 (.mp b)=lnM h b:=rfl
def E1{d:Option Nat}{k:Nat}{x:Arg}{r:List AOper}{fr:Fr}{h:Hp}:Z9 E (⟨d,.len k x,none⟩::r) fr h=stp E r d fr h (lnV h k<|ev E fr x):=
 QB (rs:=λ_=>match ev E fr x with| .sl b _ _ _ _=>[b]| .mp b=>[b]|_=>[]) rfl (by
  simp only[Z8];generalize ev E fr x=v;rcases k with _|_|_|k<;>cases v<;>first|rfl|skip
  case succ.zero.sl b g off len ex=>
   simp only[VC,cond_true,X1,lnV,rowAt,lnP];cases h[b]? with
   |none=>rfl
   |some o=>
    cases o<;>first|rfl|skip
    case row sz es=>dsimp only;cases(es.length==g)<;>rfl
  case succ.succ.zero.mp b=>
   simp only[VC,cond_true,X1,lnV,lnM];cases h[b]? with
   |none=>rfl
   |some o=>cases o<;>rfl)
def GL(h:Hp)(sz:Nat)(v:AV):Option (AV×Hp):=bif fits sz v then some (.ptr h.length 0 0 1,h++[.row sz [v]])else none
def E2(h:Hp)(sz:Nat)(v:AV)(a:fits sz v=true):GL h sz v=some (.ptr h.length 0 0 1,h++[.row sz [v]]):=by simp[GL,a]
def E3{d:Option Nat}{sz:Nat}{x:Arg}{r:List AOper}{fr:Fr}{h:Hp}:Z9 E (⟨d,.box sz x,none⟩::r) fr h=stw E r d fr (GL h sz<|ev E fr x):=
 X9 rfl (by
  simp only[Z8,GL];cases fits sz (ev E fr x)
  .rfl
  .simp only[cond_true,ZM,ZH,J1])
def Va(h:Hp)(sz:Nat)(v:AV):Option (AV×Hp):=bif fits sz v then(bif Z4 v.cells then some (.iptr false v.cells,h)else bif Zi v.cells then some (.iptr true v.cells,h)else some (.ptr h.length 0 0 1,h++[.row sz [v]]))else none
def E4(h:Hp)(sz:Nat)(v:AV)(b:fits sz v=true)(a:Z4 v.cells=true):Va h sz v=some (.iptr false v.cells,h):=by simp[Va,b,a]
def E5(h:Hp)(sz:Nat)(v:AV)(c:fits sz v=true)(a:Z4 v.cells=false)(b:Zi v.cells=true):Va h sz v=some (.iptr true v.cells,h):=by simp[Va,c,a,b]
def E6(h:Hp)(sz:Nat)(v:AV)(c:fits sz v=true)(a:Z4 v.cells=false)(b:Zi v.cells=false):Va h sz v=some (.ptr h.length 0 0 1,h++[.row sz [v]]):=by simp[Va,c,a,b]
def E7{d:Option Nat}{sz:Nat}{x:Arg}{r:List AOper}{fr:Fr}{h:Hp}:Z9 E (⟨d,.ibox sz x,none⟩::r) fr h=stw E r d fr (Va h sz<|ev E fr x):=
 X9 rfl (by
  simp only[Z8,Va];cases fits sz (ev E fr x)
  .rfl
  .simp only[cond_true];cases Z4 (ev E fr x).cells
   .simp only[cond_false];cases Zi (ev E fr x).cells
    .simp only[cond_false,ZM,ZH,J1]
    .rfl
   .rfl)
def stE(off n:Nat)(v:AV):AV->Option AV
 | .agg old=>bif Nat.ble (off+n) old.length then some (.agg<|old.take off++v.cells++old.drop (off+n))else none
 |_=>match v.cells with|[c]=>bif off==0 then some c else none|_=>none
def E8(off n:Nat)(v:AV)(a:List AV):stE off n v (.agg a)=bif Nat.ble (off+n) a.length then some (.agg<|a.take off++v.cells++a.drop (off+n))else none:=rfl
def stS(h:Hp)(b sz:Nat)(es:List AV)(i:Nat):Option AV->Option (AV×Hp)
 |some e=>some (.bot,setH h b<|.row sz<|es.set i e)
 |none=>none
def E9(h:Hp)(b sz:Nat)(es:List AV)(i:Nat)(e:AV):stS h b sz es i (some e)=some (.bot,setH h b<|.row sz<|es.set i e):=rfl
def stO(off n:Nat)(v:AV):Option AV->Option AV
 |some e=>stE off n v e
 |none=>none
def Ea(off n:Nat)(v e:AV):stO off n v (some e)=stE off n v e:=rfl
def stP(h:Hp)(b i off n:Nat)(v:AV):Option (Nat×List AV)->Option (AV×Hp)
 |some (sz,es)=>bif fits n v then stS h b sz es i (stO off n v es[i]?)else none
 |none=>none
def Eb(h:Hp)(b i off n:Nat)(v:AV)(sz:Nat)(es:List AV)(a:fits n v=true):stP h b i off n v (some (sz,es))=stS h b sz es i (stO off n v es[i]?):=by simp[stP,a]
def stV(h:Hp)(n:Nat)(v:AV):AV->Option (AV×Hp)
 | .ptr b i off g=>stP h b i off n v<|rowAt h b g
 |_=>none
def Ec(h:Hp)(n:Nat)(v:AV)(b i off g:Nat):stV h n v (.ptr b i off g)=stP h b i off n v (rowAt h b g):=rfl
def LR{d:Option Nat}{n:Nat}{a x:Arg}{r:List AOper}{fr:Fr}{h:Hp}:Z9 E (⟨d,.store n a x,none⟩::r) fr h=stw E r d fr (stV h n (ev E fr x)<|ev E fr a):=
 X9 rfl (by
  simp only[Z8];generalize ev E fr a=u;generalize ev E fr x=v;cases u<;>first|rfl|skip
  case ptr b i off g=>
   simp only[stV,rowAt];cases h[b]? with
   |none=>rfl
   |some o=>
    cases o<;>first|rfl|skip
    case row sz es=>
     simp only;cases(es.length==g)
     .rfl
     .cases f:fits n v
      .simp[stP,f,thn]
      .simp only[ZY3,cond_true,stP,f];cases es[i]? with
       |none=>rfl
       |some e=>
        rcases hc:v.cells with _|⟨c,_|⟨c2,cs⟩⟩<;>cases e<;>simp only[stO,stE,hc]<;>first
         |rfl
         |(generalize Nat.ble (off+n) _=q;cases q<;>rfl)
         |(generalize(off==0)=q;cases q<;>rfl))
def GM(x y:AObj)(h:Hp):setH (x::h) 0 y=y::h:=rfl
def GN(x y:AObj)(h:Hp)(b:Nat):setH (x::h) (b+1) y=x::setH h b y:=by
 unfold setH;have e:Nat.blt (b+1) (x::h).length=Nat.blt b h.length:=by
  rw[ZZm];simp[ZYs]
 rw[e];cases Nat.blt b h.length<;>rfl
def slF(h:Hp)(sz:Nat)(x:AV):Option (Nat×Nat×Option Nat)->Option AV
 |some (l,hh,m)=>
  match x with
  | .nilsl=>some .nilsl
  | .isl bw ex sz' es=>bif sz'==sz then some (.isl bw (match m with|none=>ex&&hh==es.length|some m=>m==hh) sz<|(es.drop l).take (hh-l))else none
  | .sl b g off len ex=>(match rowAt h b g with|some (sz',_)=>bif sz'==sz then some (.sl b g (off+l) (hh-l) (match m with|none=>ex&&hh==len|some m=>m==hh))else none|none=>none)
  |_=>none
 |none=>none
def Ed(h:Hp)(sz:Nat)(bw ex:Bool)(es:List AV)(l a:Nat)(m:Option Nat):slF h sz (.isl bw ex sz es) (some (l,a,m))=some (.isl bw (match m with|none=>ex&&a==es.length|some m=>m==a) sz<|(es.drop l).take (a-l)):=by simp[slF]
def GO:AV->Option Nat
 | .nilsl=>some 0
 | .isl _ _ _ es=>some es.length
 | .sl _ _ _ len _=>some len
 |_=>none
def evo(E:Env)(fr:Fr)(x:Option Arg):Option AV:=x.map<|ev E fr
def Ee(fr:Fr):evo E fr none=none:=rfl
def Ef(fr:Fr)(x:Arg):evo E fr (some x)=some (ev E fr x):=rfl
def slV(h:Hp)(sz:Nat)(x:AV)(b a mx:Option AV):Option AV:=thn (GO x) λn=>slF h sz x<|bounds b a mx n
def Eg(h:Hp)(sz:Nat)(bw ex:Bool)(a:Nat)(es:List AV)(c b mx:Option AV):slV h sz (.isl bw ex a es) c b mx=slF h sz (.isl bw ex a es) (bounds c b mx es.length):=rfl
def Eh(h:Hp)(sz b g off a:Nat)(ex:Bool)(d c mx:Option AV):slV h sz (.sl b g off a ex) d c mx=slF h sz (.sl b g off a ex) (bounds d c mx a):=rfl
def Ei{d:Option Nat}{sz:Nat}{x:Arg}{a c mx:Option Arg}{r:List AOper}{fr:Fr}{h:Hp}:Z9 E (⟨d,.slc sz x a c mx,none⟩::r) fr h=stp E r d fr h (slV h sz (ev E fr x) (evo E fr a) (evo E fr c)<|evo E fr mx):=
 QB (rs:=λ_=>match ev E fr x with| .sl b _ _ _ _=>[b]|_=>[]) rfl (by
  simp only[Z8,evo];generalize ev E fr x=v;generalize a.map (ev E fr)=lo';generalize c.map (ev E fr)=hi';generalize mx.map (ev E fr)=mx';cases v<;>first|rfl|skip
  case nilsl=>
   simp only[slV,GO,ZM];cases bounds lo' hi' mx' 0<;>rfl
  case isl bw ex sz' es=>
   simp only[slV,GO,ZM];cases bounds lo' hi' mx' es.length with
   |none=>rfl
   |some p=>
    have⟨l,f,m⟩:=p;simp only[slF];cases(sz'==sz)<;>rfl
  case sl b g off len ex=>
   simp only[slV,GO,ZM];cases bounds lo' hi' mx' len with
   |none=>rfl
   |some p=>
    have⟨l,f,m⟩:=p;simp only[slF,rowAt];cases h[b]? with
    |none=>rfl
    |some o=>
     cases o<;>first|rfl|skip
     case row sz' es=>
      simp only;cases(es.length==g)<;>cases e:(sz'==sz)<;>simp[e]<;>cases m<;>rfl)
def ssF(s:ByteArray):Option (Nat×Nat×Option Nat)->Option AV
 |some (l,hh,_)=>some<|.str<|s.extract l hh
 |none=>none
def Ej(s:ByteArray)(l a:Nat)(m:Option Nat):ssF s (some (l,a,m))=some (.str<|s.extract l a):=rfl
def ssV(x:AV)(b a:Option AV):Option AV:=match x with| .str s=>ssF s (bounds b a none s.size)|_=>none
def Ek(s:ByteArray)(b a:Option AV):ssV (.str s) b a=ssF s (bounds b a none s.size):=rfl
def El{d:Option Nat}{x:Arg}{b a:Option Arg}{r:List AOper}{fr:Fr}{h:Hp}:Z9 E (⟨d,.ssl x b a,none⟩::r) fr h=stp E r d fr h (ssV (ev E fr x) (evo E fr b)<|evo E fr a):=
 QB (rs:=λ_=>[]) rfl (by
  simp only[Z8,evo];generalize ev E fr x=v;generalize b.map (ev E fr)=lo';generalize a.map (ev E fr)=hi';cases v<;>first|rfl|skip
  case str s=>
   simp only[ssV];cases bounds lo' hi' none s.size<;>rfl)
def appW(h:Hp)(fz:Bool)(sz bytes:Nat)(s x:AV):Option (AV×Hp):=thn (Qt h h.length fz sz bytes s x) λr=>some (r.1,ZH h r.2.2)
def Em{d:Option Nat}{fz:Bool}{sz bytes:Nat}{s x:Arg}{r:List AOper}{fr:Fr}{h:Hp}:Z9 E (⟨d,.app fz sz bytes s x,none⟩::r) fr h=stw E r d fr (appW h fz sz bytes (ev E fr s)<|ev E fr x):=
 X9 rfl rfl
def ZGJ{d:Option Nat}{sz bytes:Nat}{s x:Arg}{r:List AOper}{fr:Fr}{h:Hp}:Z9 E (⟨d,.apa sz bytes s x,none⟩::r) fr h=stw E r d fr (ZE9 h sz bytes (ev E fr s)<|ev E fr x):=by
 rw[J3,ZGD];unfold stw;cases ZE9 h sz bytes (ev E fr s) (ev E fr x)<;>rfl
attribute [go_sem] ZGJ
def W5(h:Hp)(ag:Bool)(kk:List Nat)(a:Bool)(z:AV)(m k:AV):Option AV:=
 match m with
 | .nilmap=>(QW ag kk a z [] [] [] k).map (·.1)
 | .imap _ ks vs=>(QW ag kk a z [] ks vs k).map (·.1)
 | .mp b=>(match h[b]? with|some (.map ks vs)=>(QW ag kk a z [b] ks vs k).map (·.1)|_=>none)
 |_=>none
def LS{ag:Bool}{kk:List Nat}{c:Bool}{z:AV}{rs:List Nat}{a vs:List AV}{k:AV}:QW ag kk c z rs a vs k=((QW ag kk c z rs a vs k).map (·.1)).map λx=>(x,rs,none):=by
 unfold QW;cases Zz ag kk k k with
 |none=>rfl
 |some b=>
  cases ZW ag kk k a 0 with
  |none=>rfl
  |some o=>
   cases o with
   |none=>rfl
   |some i=>simp only;cases vs[i]?<;>rfl
def En{d:Option Nat}{ag:Bool}{kk:List Nat}{a:Bool}{z:AV}{m k:Arg}{r:List AOper}{fr:Fr}{h:Hp}:Z9 E (⟨d,.lkp ag kk a z m k,none⟩::r) fr h=stp E r d fr h (W5 h ag kk a z (ev E fr m)<|ev E fr k):=
 QB (rs:=λ_=>match ev E fr m with| .mp b=>[b]|_=>[]) rfl (by
  simp only[Z8];generalize ev E fr m=v;generalize ev E fr k=u;cases v<;>first|rfl|exact LS|skip
  case mp b=>
   simp only[W5];cases h[b]? with
   |none=>rfl
   |some o=>cases o<;>first|rfl|exact LS)
def YK(h:Hp)(ag:Bool)(kk:List Nat)(m k v:AV):Option (AV×Hp):=
 match m with
 | .mp b=>(match h[b]? with|some (.map ks vs)=>thn (Yo ag kk b ks vs k v) λr=>some (r.1,ZH h r.2.2)|_=>none)
 |_=>none
def Eo{d:Option Nat}{ag:Bool}{kk:List Nat}{m k v:Arg}{r:List AOper}{fr:Fr}{h:Hp}:Z9 E (⟨d,.mupd ag kk m k v,none⟩::r) fr h=stw E r d fr (YK h ag kk (ev E fr m) (ev E fr k)<|ev E fr v):=
 X9 rfl (by
  simp only[Z8,YK];generalize ev E fr m=x;cases x<;>first|rfl|skip
  case mp b=>
   simp only;cases h[b]? with
   |none=>rfl
   |some o=>cases o<;>rfl)
def Ep{d:Option Nat}{ag:Bool}{kk:List Nat}{m k v:Arg}{r:List AOper}{fr:Fr}{h:Hp}:Z9 E (⟨d,.ins ag kk m k v,none⟩::r) fr h=stw E r d fr (YK h ag kk (ev E fr m) (ev E fr k)<|ev E fr v):=
 X9 rfl (by
  simp only[Z8,YK];generalize ev E fr m=x;cases x<;>first|rfl|skip
  case mp b=>
   simp only;cases h[b]? with
   |none=>rfl
   |some o=>cases o<;>rfl)
def Er{d:Option Nat}{x:Arg}{r:List AOper}{fr:Fr}{h:Hp}:Z9 E (⟨d,.rng x,none⟩::r) fr h=stw E r d fr (match ev E fr x with| .str s=>some (.it h.length,h++[.iter s 0])|_=>none):=
 X9 rfl (by
  simp only[Z8];generalize ev E fr x=v;cases v<;>first|rfl|simp only[ZM,ZH,J1])
def U8(h:Hp)(v:AV):Option (AV×Hp):=
 match v with
 | .it b=>
  (match h[b]? with
   |some (.iter s pos)=>bif Nat.blt pos s.size then some (.tup [.bool true,.int .i64 pos,.int .i32 (Utf8.decode s pos).1],setH h b<|.iter s<|pos+(Utf8.decode s pos).2)else some (.tup [.bool false],h)
   |_=>none)
 |_=>none
def Es{d:Option Nat}{x:Arg}{r:List AOper}{fr:Fr}{h:Hp}:Z9 E (⟨d,.nxt x,none⟩::r) fr h=stw E r d fr (U8 h<|ev E fr x):=
 X9 rfl (by
  simp only[Z8,U8];generalize ev E fr x=v;cases v<;>first|rfl|skip
  case it b=>
   simp only;cases h[b]? with
   |none=>rfl
   |some o=>
    cases o<;>first|rfl|skip
    case iter s pos=>simp only;cases Nat.blt pos s.size<;>rfl)
noncomputable def pcl(E:Env)(f:Nat)(as:Option<|List AV):Option AV:=thn as λas=>pfn E f as
def Et(f:Nat)(as:List AV):pcl E f (some as)=pfn E f as:=rfl
def Eu(h:Hp)(as:List AV)(a:Z4 as=true):Ql h as=some as:=by simp[Ql,a]
def ZDW(h:Hp)(as:List AV)(a:Z4 as=false):Ql h as=ZC true h 40 as:=by simp[Ql,a]
def Ew{d:Option Nat}{f:Nat}{args:List Arg}{r:List AOper}{fr:Fr}{h:Hp}:Z9 E (⟨d,.call true f args,none⟩::r) fr h=stp E r d fr h (pcl E f<|Ql h<|evs E fr args):=by
 rw[J3,RE,GD];unfold evs pcl stp;cases Ql h (args.map<|ev E fr)with
 |none=>rfl
 |some as=>
  simp only[ZM];cases pfn E f as<;>rfl
def Ex{d:Option Nat}{f:Nat}{args:List Arg}{r:List AOper}{fr:Fr}{h:Hp}:Z9 E (⟨d,.call false f args,none⟩::r) fr h=stw E r d fr (fnV E f (evs E fr args) h):=by
 rw[J3,RE,LE];unfold evs stw;cases fnV E f (args.map<|ev E fr) h<;>rfl
noncomputable def pcv(E:Env)(h:Hp)(args:List AV)(f:AV):Option AV:=
 match f with
 | .clo (.func g) first cap=>pcl E g<|Ql h<|first++args++cap
 |_=>none
def LT(h:Hp)(args:List AV)(g:Nat)(first cap:List AV):pcv E h args (.clo (.func g) first cap)=pcl E g (Ql h<|first++args++cap):=rfl
def LU{p:Bool}{f:AV}{args:List AV}{h:Hp}(e:∀g a c,f≠.clo (.func g) a c)(d:∀b,f=.yld b->p=true):Xy E p f args h=none:=by
 unfold Xy;refine U3 λn=>?_
 cases n with
 |zero=>rfl
 |succ n=>
  cases f with
  |clo fn a c=>cases fn<;>first|exact absurd rfl (e _ _ _)|rfl
  |yld b=>rw[d b rfl];rfl
  |_=>rfl
def Ey{d:Option Nat}{x:Arg}{args:List Arg}{r:List AOper}{fr:Fr}{h:Hp}:Z9 E (⟨d,.callv true x args,none⟩::r) fr h=stp E r d fr h (pcv E h (evs E fr args)<|ev E fr x):=by
 rw[J3,RF];unfold evs;generalize ev E fr x=v;generalize args.map (ev E fr)=as;by_cases b:∃g a c,v=.clo (.func g) a c
 .obtain⟨g,a,c,rfl⟩:=b;rw[RD,GD,LT];unfold pcl stp;cases Ql h (a++as++c)with
  |none=>rfl
  |some f=>
   simp only[ZM];cases pfn E g f<;>rfl
 .rw[LU (λg a c e=>b ⟨g,a,c,e⟩)<|λ_ _=>rfl]
  have:pcv E h as v=none:=by
   unfold pcv;split
   .next g a c=>exact absurd ⟨g,a,c,rfl⟩ b
   .rfl
  rw[this];rfl
def Ez{d:Option Nat}{x:Arg}{args:List Arg}{r:List AOper}{fr:Fr}{h:Hp}:Z9 E (⟨d,.callv false x args,none⟩::r) fr h=stw E r d fr (Xy E false (ev E fr x) (evs E fr args) h):=by
 rw[J3,RF];unfold evs stw;cases Xy E false (ev E fr x) (args.map<|ev E fr) h<;>rfl
def RL{g:Nat}{first cap args:List AV}{h:Hp}:Xy E false (.clo (.func g) first cap) args h=fnV E g (first++args++cap) h:=by rw[RD,LE]
def frz(r:Option<|AV×Hp):Option AV:=thn r λr=>YE r.2 r.1
def EA(v:AV)(h:Hp):frz (some (v,h))=YE h v:=rfl
def EB(h:Hp)(v:AV)(a:clean v=true):YE h v=some v:=by simp[YE,a]
def EC(h:Hp)(v:AV)(a:clean v=false):YE h v=freeze false h 40 v:=by simp[YE,a]
def fnd(rs:List ResVar)(r:Option<|AExit×Fr×Hp):Option (AV×Hp):=fin rs r
def RM(h:Hp):Option AV->Option (AV×Hp)
 |some v=>some (v,h)
 |none=>none
def ED(h:Hp)(v:AV):RM h (some v)=some (v,h):=rfl
def EE(rs:List ResVar)(fr:Fr)(h:Hp):fnd rs (some (.normal,fr,h))=RM h (QO fr h rs):=by
 simp only[fnd,S1];cases QO fr h rs<;>rfl
def EF(rs:List ResVar)(fr:Fr)(h:Hp):fnd rs (some (.ret,fr,h))=RM h (QO fr h rs):=by
 simp only[fnd,S2];cases QO fr h rs<;>rfl
def EG(fr:Fr)(h:Hp)(t:Nat):QO fr h [.tmp t]=some (get fr t):=rfl
def EH(fr:Fr)(h:Hp):QO fr h []=some (.tup []):=rfl
def EI(fr:Fr)(h:Hp)(t u:Nat):QO fr h [.tmp t,.tmp u]=some (.tup [get fr t,get fr u]):=rfl
def EJ(fr:Fr)(h:Hp)(t u v:Nat):QO fr h [.tmp t,.tmp u,.tmp v]=some (.tup [get fr t,get fr u,get fr v]):=rfl
def Q6{f:Nat}{args:List AV}{h:Hp}{rs:List ResVar}{c:ACode}(b:E.sum f=none)(a:E.fn f=some ⟨rs,c⟩):fnV E f args h=fnd rs (Zb E c (QP 0 args) h):=by
 rw[TZ b,LD a];rfl
def Z5{f:Nat}{args:List AV}{rs:List ResVar}{c:ACode}(b:E.sum f=none)(a:E.fn f=some ⟨rs,c⟩):pfn E f args=frz (fnd rs<|Zb E c (QP 0 args) []):=by
 unfold pfn frz;rw[Q6 b a]
attribute [go_sem] Su Sv GG RH Sw Sx Sy SA SB SC SD SE SF SG SH SI SJ SK SM SN SO LH SP SQ Zzn Zzm Zvr Zw7 Zvo Se Sf Sg Sh Sl Sm S9 Sa Sb Sc Sd KZ SR LI SS LJ LK LL LM ST SU SV SW SX SY SZ A0 A1 A2 A3 A4 Aa Ab Ac Ae Af Ag Ah Ai Aj Ak Al Am Ao Ap Aq Ar rowAt_zero Au Av Ax Aw Ay Az AA AB AD AE AF AG AH AI LP AJ AK AL AN AO AP AQ LQ AR AS AT AU AW AX AY AZ E1 E2 E3 E4 E5 E6 E7 E8 E9 Ea Eb Ec LR GM GN Ed Ee Ef Eg Eh Ei Ej Ek El Em En Eo Ep Er Es Et Eu ZDW Ew Ex LT Ey Ez RL EA EB EC ED EE EF EG EH EI EJ cond_true cond_false YZ JO UR Vy Zz ZE eq1
end Go.AM
namespace Go.AM
open Go
def Yc(p:UInt8->Bool):List UInt8->Int->Int
 |[],_=>-1
 |c::r,i=>bif p c then i else Yc p r<|i+1
def U9(args:List AV)(h:Hp):Option (AV×Hp):=match args with
 |[.str s,.int .u8 c]=>bif decide (0<=c)&&decide (c<256)then some (.int .i64<|Yc (λx=>(x.toNat:Int)==c) s.data.toList 0,h)else none
 |_=>none
def W6(b:UInt8):Bool:=decide (48<=b.toNat)&&decide (b.toNat<=57)
def J4(l:List UInt8)(n:Int):Int:=l.foldl (λn c=>10*n+((c.toNat:Int)-48)) n
def J5(args:List AV)(h:Hp):Option (AV×Hp):=match args with
 |[.str s]=>bif s.data.toList.all W6&&(!s.data.toList.isEmpty&&Nat.ble s.size 18)then some (.tup [.int .i64<|J4 s.data.toList 0,.nilif],h)else none
 |_=>none
def J6(args:List AV)(h:Hp):Option (AV×Hp):=match args with
 |[.str s,.str c]=>bif Nat.blt s.size 4294967281&&(Nat.beq c.size 2&&c.data.toList.all (λb=>Nat.blt b.toNat 128))then some (.int .i64 (Yc (λx=>c.data.toList.any (·==x)) s.data.toList 0),h)else none
 |_=>none
def Qd(l:List UInt8):AV:=.str ⟨l.toArray⟩
def WB:AV->Bool
 | .str _=>true
 |_=>false
def GP:AV->AV->Bool
 | .str a,.str b=>!WW b a
 | .int _ a,.int _ b=>decide (a<=b)
 |_,_=>true
def Vb(x:AV):List AV->List AV
 |[]=>[x]
 |y::r=>bif GP x y then x::y::r else y::Vb x r
def Yk:List AV->List AV
 |[]=>[]
 |x::r=>Vb x<|Yk r
def J7(args:List AV)(h:Hp):Option (AV×Hp):=match args with
 |[.sl b g off len _]=>match h[b]? with
  |some (.row sz es)=>bif sz==1&&(es.length==g&&(off==0&&(len==g&&(es.all WB&&Nat.ble es.length 1000000))))then some (.tup [],setH h b<|.row 1<|Yk es)else none
  |_=>none
 |_=>none
def sameKey:AV->AV->Bool
 | .str a,.str b=>Z3 a b
 | .int _ a,.int _ b=>a==b
 |_,_=>false
def Ys:List AV->List AV
 |[]=>[]
 |a::r=>match Ys r with
  |[]=>[a]
  |b::s=>bif sameKey a b then b::s else a::b::s
def J8(args:List AV)(h:Hp):Option (AV×Hp):=match args with
 |[.sl b g off len _]=>match h[b]? with
  |some (.row sz es)=>bif sz==1&&(es.length==g&&(off==0&&(len==g&&(es.all WB&&Nat.ble es.length 1000000))))then
   some (.sl b g 0 (Ys es).length false,setH h b<|.row 1<|Ys es++List.replicate (g-(Ys es).length) (Qd []))else none
  |_=>none
 |_=>none
def J9(args:List AV)(h:Hp):Option (AV×Hp):=match args with
 |[x]=>match Q2 h x with
  |some es=>bif Qq h 1 x&&(es.all (fits 1)&&Nat.ble es.length 1000000)then some (.sl h.length es.length 0 es.length false,h++[.row 1 es])else none
  |none=>none
 |_=>none
def Q4(a:UInt8):List UInt8->List (List UInt8)
 |[]=>[[]]
 |c::r=>bif c==a then []::Q4 a r else match Q4 a r with|w::ws=>(c::w)::ws|[]=>[[c]]
def Ja(args:List AV)(h:Hp):Option (AV×Hp):=match args with
 |[.str s,.str c]=>match c.data.toList with
  |[x]=>bif Nat.blt s.size 4294967281 then some (.sl h.length (Q4 x s.data.toList).length 0 (Q4 x s.data.toList).length false,h++[.row 1<|(Q4 x s.data.toList).map Qd])else none
  |_=>none
 |_=>none
def Zp2:AV->Bool
 | .int .i64 n=>decide (-9223372036854775808<=n)&&decide (n<=9223372036854775807)
 |_=>false
def ZoZ(kk:Nat)(args:List AV)(h:Hp):Option (AV×Hp):=match args with
 |[.clo (.func g) [] [.ptr k 0 0 1]]=>match h[k]? with
  |some (.row 1 [.mp b])=>match h[b]? with
   |some (.map ks _)=>bif Nat.beq g kk&&(ks.all Zp2&&Nat.ble ks.length 1000000)then some (.sl h.length ks.length 0 ks.length false,h++[.row 1<|Yk ks])else none
   |_=>none
  |_=>none
 |_=>none
def lexB:List Int->List Int->Bool
 |[],[]=>false
 |[],_::_=>true
 |_::_,[]=>false
 |a::r,b::s=>decide (a<b)||(a==b&&lexB r s)
def cmpL(a b:List Int):Int:=bif lexB a b then -1 else bif lexB b a then 1 else 0
def ZvI(x:List Int×AV):List (List Int×AV)->List (List Int×AV)
 |[]=>[x]
 |y::r=>bif lexB x.1 y.1 then x::y::r else y::ZvI x r
def ZvN:List (List Int×AV)->List (List Int×AV)
 |[]=>[]
 |x::r=>ZvI x<|ZvN r
def keysOf(a:AV->Option (List Int)):List AV->Option (List<|List Int×AV)
 |[]=>some []
 |e::r=>match a e,keysOf a r with
  |some k,some l=>some<|(k,e)::l
  |_,_=>none
def ZvJ:List (List Int×AV)->Bool
 |[]=>true
 |x::r=>r.all (λy=>!(x.1==y.1))&&ZvJ r
def Zwl:AV->Bool
 | .agg _=>true
 |_=>false
def ZvW(g sz:Nat)(a:List AV->AV->Option (List Int))(args:List AV)(h:Hp):Option (AV×Hp):=match args with
 |[.isl _ _ _ [],.clo _ _ _]=>some (.tup [],h)
 |[.sl b gg off len _,.clo (.func f) [] caps]=>match h[b]? with
  |some (.row sz' es)=>bif es.isEmpty then(bif gg==0&&(off==0&&len==0)then some (.tup [],h)else none)else match keysOf (a caps) es with
   |some l=>bif Nat.beq f g&&(sz'==sz&&(es.length==gg&&(off==0&&(len==gg&&(!es.isEmpty&&(Zi caps&&(Z4 es&&(es.all Zwl&&(es.all (fits sz)&&(ZvJ l&&Nat.ble es.length 1000000))))))))))then some (.tup [],setH h b (.row sz ((ZvN l).map (·.2))))else none
   |none=>none
  |_=>none
 |_=>none
def ZvX:AV->Bool
 | .int .i64 _=>true
 |_=>false
def ZvY(args:List AV)(h:Hp):Option (AV×Hp):=match args with
 |[.sl b g off len _]=>match h[b]? with
  |some (.row sz es)=>bif sz==1&&(es.length==g&&(off==0&&(len==g&&(es.all ZvX&&Nat.ble es.length 1000000))))then
   some (.sl b g 0 (Ys es).length false,setH h b<|.row 1<|Ys es++List.replicate (g-(Ys es).length) (.int .i64 0))else none
  |_=>none
 |_=>none
def ZEt(g:Nat)(a:List AV->Bool)(args:List AV)(h:Hp):Option (AV×Hp):=match args with
 |[.isl _ _ _ [],.clo _ _ _]=>some (.tup [],h)
 |[.sl b gg off len _,.clo (.func f) [] caps]=>match h[b]? with
  |some (.row sz es)=>bif Nat.beq f g&&(sz==1&&(es.length==gg&&(off==0&&(len==gg&&(a caps&&(Z4 caps&&(es.all WB&&Nat.ble es.length 1000000)))))))then some (.tup [],setH h b<|.row 1<|Yk es)else none
  |_=>none
 |_=>none
def ZE7(g:Nat):List AV->Nat->List AV->Option (List AV)
 |[.clo (.func k) [] []],sz,es=>bif Nat.beq k g&&(sz==1&&(es.all WB&&Nat.ble es.length 1000000))then some (Yk es)else none
 |_,_,_=>none
def ZEe(g sz:Nat)(a:AV->Option (List Int)):List AV->Nat->List AV->Option (List AV)
 |[.clo (.func k) [] []],sz',es=>match keysOf a es with
  |some l=>bif Nat.beq k g&&(sz'==sz&&(Z4 es&&(es.all Zwl&&(es.all (fits sz)&&(ZvJ l&&Nat.ble es.length 1000000)))))then some ((ZvN l).map (·.2))else none
  |none=>none
 |_,_,_=>none
def ZOi(sz:Nat)(args:List AV)(h:Hp):Option (AV×Hp):=match args with
 |[x]=>match Q2 h x with
  |some es=>bif Qq h sz x&&(es.all (fits sz)&&Nat.ble es.length 1000000)then some (.sl h.length es.length 0 es.length false,h++[.row sz es])else none
  |none=>none
 |_=>none
end Go.AM
namespace Go.Proofs
open Go
end Go.Proofs
namespace Go.AM
open Go Go.Proofs
def ZPJ:List AV->Option (List ByteArray)
 |[]=>some []
 | .str s::r=>(ZPJ r).map (s::·)
 |_=>none
def ZPl(args:List AV)(h:Hp):Option (AV×Hp):=match args with
 |[.int .i64 n]=>if -9223372036854775808<=n/\n<=9223372036854775807 then some (.str ⟨(Lib.itoa n).toArray⟩,h)else none
 |_=>none
def ZPm(args:List AV)(h:Hp):Option (AV×Hp):=match args with
 |[x,.str sep]=>match Q2 h x with
  |some es=>bif Qq h 1 x&&!es.isEmpty then(match ZPJ es with|some a=>bif Nat.ble (Lib.join (a.map (·.data.toList)) sep.data.toList).length 140737488355328&&Nat.ble a.length 140737488355328 then some (.str ⟨(Lib.join (a.map (·.data.toList)) sep.data.toList).toArray⟩,h)else none|none=>none)else none
  |none=>none
 |_=>none
def ZPn(args:List AV)(h:Hp):Option (AV×Hp):=match args with
 |[.str s,.str c]=>bif Nat.ble s.size 9223372036854775807&&(Nat.blt c.size 4294967281&&c.data.toList.all (λb=>Nat.blt b.toNat 128))then some (.str ⟨(Lib.trimS s.data.toList c.data.toList).toArray⟩,h)else none
 |_=>none
def ZPo(args:List AV)(h:Hp):Option (AV×Hp):=match args with
 |[.str s]=>bif s.data.toList.all W6&&(!s.data.toList.isEmpty&&Nat.ble s.size 18)then some (.tup [.int .i64<|J4 s.data.toList 0,.nilif],h)
  else bif Nat.ble s.size 281474976710656 then some (match Lib.atoiAll s.data.toList with| .ok v=>.tup [.int .i64 v,.nilif]|Go.Lib.NumEnd.syntax=>.tup [.int .i64 0,.bot]| .range=>.tup [.int .i64<|Lib.atoiSat s.data.toList,.bot],h)else none
 |_=>none
end Go.AM
namespace Go.AM
open Go
theorem Zwm:∀a,lexB a a=false
 |[]=>rfl
 |a::r=>by simp[lexB,Zwm r]
theorem ZvZ:∀a b c,lexB a b=true->lexB b c=true->lexB a c=true
 |[],[],_,h,_=>by grind
 |[],_::_,[],_,h=>by cases h
 |[],_::_,_::_,_,_=>rfl
 |_::_,[],_,h,_=>by cases h
 |_::_,_::_,[],_,h=>by cases h
 |a::r,b::s,c::t,h,k=>by
  simp[lexB,beq_iff_eq]at h k⊢;rcases h with h|⟨rfl,h⟩
  .grind
  .rcases k with k|⟨rfl,k⟩
   .grind
   .exact .inr ⟨rfl,ZvZ r s t h k⟩
theorem Zwn:∀a b,lexB a b=false->lexB b a=false->a=b
 |[],[],_,_=>rfl
 |[],_::_,h,_=>by cases h
 |_::_,[],_,h=>by cases h
 |a::r,b::s,h,k=>by
  simp only[lexB,Bool.or_eq_false_iff,decide_eq_false_iff_not,Bool.and_eq_false_iff,beq_eq_false_iff_ne]at h k;have c:a=b:=by omega
  subst c;rw[Zwn r s (h.2.resolve_left<|λd=>d rfl)<|k.2.resolve_left<|λd=>d rfl]
def Zzw(a b c:List Int)(h:lexB a b=false)(k:lexB b c=false):lexB a c=false:=by
 grind [ZvZ,Zwn]
def ZxW(a b:List Int):decide (cmpL a b<0)=lexB a b:=by
 grind [cmpL]
def ZwF(x:List Int×AV):∀l,(ZvI x l).Perm (x::l)
 |[]=>.refl _
 |y::r=>by
  unfold ZvI;cases lexB x.1 y.1 with
  |true=>exact .refl _
  |false=>exact((ZwF x r).cons y).trans (.swap ..)
theorem ZwG:∀l,(ZvN l).Perm l
 |[]=>.refl _
 |x::r=>(ZwF x _).trans ((ZwG r).cons x)
def ltK(x y:List Int×AV):Prop:=lexB x.1 y.1=true
def ZxX(x:List Int×AV):∀l:List<|List Int×AV,l.Pairwise ltK->(∀y∈l,x.1≠y.1)->(ZvI x l).Pairwise ltK
 |[],_,_=>by simp[ZvI]
 |y::r,h,hd=>by
  unfold ZvI;rw[ZY6]at h;cases c:lexB x.1 y.1 with
  |true=>
   rw[cond_true,ZY6,ZY6];refine⟨λz a=>?_,h⟩
   rcases ZXF.1 a with rfl|a
   .exact c
   .exact ZvZ _ _ _ c<|h.1 z a
  |false=>
   rw[cond_false,ZY6];refine⟨λz a=>?_,ZxX x r h.2<|λz a=>hd z<|ZY2 _ a⟩
   rcases ZXF.1 ((ZwF x r).mem_iff.1 a)with rfl|a
   .show lexB y.1 z.1=true
    grind [Zwn]
   grind
def ZwH:∀{l},ZvJ l=true↔l.Pairwise (λx y=>x.1≠y.1)
 |[]=>by simp[ZvJ]
 |x::r=>by
  rw[ZvJ,ZXf,ZY6,ZwH,ZXs];simp
def ZwI:∀l,ZvJ l=true->(ZvN l).Pairwise ltK
 |[],_=>.nil
 |x::r,h=>by
  rw[ZvJ,ZXf,ZXs]at h;refine ZxX x _ (ZwI r h.2)<|λy a=>?_
  grind [ZwG]
def Zzx:∀{a b:List (List Int×AV)},a.Perm b->a.Pairwise ltK->b.Pairwise ltK->a=b:=by
 grind [List.Perm.eq_of_pairwise,ltK,ZvZ,Zwm]
def ZxY{a:AV->Option (List Int)}:∀{es:List AV}{l},keysOf a es=some l->es=l.map (·.2)/\∀x∈l,a x.2=some x.1
 |[],l,h=>by
  cases h
  grind
 |e::r,l,h=>by
  unfold keysOf at h;cases h1:a e with
  |none=>grind
  |some k=>
   cases h2:keysOf a r with
   |none=>grind
   |some b=>
    rw[h1,h2]at h;have⟨c,d⟩:=ZxY h2
    grind
def ZPp(args:List AV)(h:Hp):Option (AV×Hp):=match args with
 |[.str s,.int .i64 c]=>bif decide (0<=c)&&(decide (c<=9223372036854775807)&&Nat.ble (s.size*c.toNat) 140737488355328)then some (.str ⟨(Lib.repeatL s.data.toList c.toNat).toArray⟩,h)else none
 |_=>none
end Go.AM
