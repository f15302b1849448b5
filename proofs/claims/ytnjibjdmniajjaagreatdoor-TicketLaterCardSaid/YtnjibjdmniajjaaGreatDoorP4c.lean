/- What the functions of the program compute, part 3, for TicketLater. No condition. -/
import Derived.Test.YtnjibjdmniajjaaGreatDoorP4b
import Derived.Lib.ItoaLen
set_option linter.unusedVariables false
set_option linter.defProp false
set_option linter.unusedSimpArgs false
set_option linter.unusedSectionVars false
namespace Go.AM
open Go
variable [REdz]
def ZGY(d:Ga)(h:Hp):fnV rE 41 [d.enc] h=some (d.After.enc 1 encS,h):=by
 rw[Q6 (f:=41) rfl rfl];simp only[go_sem,c41,Ga.enc,NL.enc,ZE5 (h:=h) rfl]
def grA(s:Sta):AV:=.iptr false<|(stA s).cells++[.clo (.func 41) [] []]
def wfr(s:Sta)(Lv:AV):Fr:=[(0,.yld 4),(2,grA s),(4,.mp 5),(5,Lv)]
def ZFT(n:Nat):decide (((n+1:Nat):Int)>0)=true:=decide_eq_true<|by omega
def ZEO:∀{n k:Nat}{l:List AObj},X4 n l=true->X4 n (l.take k)=true
 |_,0,_,_=>rfl
 |_,_+1,[],h=>h
 |n,k+1,x::r,h=>by
  simp only[X4,ZSq,ZUp]at h⊢;exact⟨h.1,ZEO h.2⟩
def ZGZ{Lv:AV}{L:List Str}{b:List AObj}{n:Nat}(h:ZDZ Lv L b)(c:bel (n+6) Lv=true):ZDZ Lv L (b.take n):=by
 obtain⟨a,g,off,ex,es,rfl,d,e⟩:=h;refine⟨a,g,off,ex,es,rfl,?_,e⟩;have:a+6<n+6:=by simpa[bel]using c
 rw[ZV9,if_pos<|by omega]
 exact d
def ZH0{Lv:AV}{L:List Str}{b:List AObj}(h:ZDZ Lv L b)(l:List AObj):ZDZ Lv L (b++l):=by
 obtain⟨c,g,off,ex,es,rfl,a,d⟩:=h;refine⟨c,g,off,ex,es,rfl,?_,d⟩;rw[ZT2 (ZSA.1 a).1];exact a
def ZEE{fr:Fr}{G Lv:AV}{L:List Str}(f h g i j d:AObj){b:List AObj}(n:Nat)(e:AExit)(r:get fr 0=.yld 4)(o:get fr 2=G)(p:get fr 4=.mp 5)(q:get fr 5=Lv)(l:ZDZ Lv L b)(k:TC' b):
 ∃a,kp [0,2,4,5] (n+6) (some (e,fr,f::h::g::i::j::d::b))=some (e,[(0,.yld 4),(2,G),(4,.mp 5),(5,Lv)],f::h::g::i::j::d::a)/\ZDZ Lv L a/\TC' a:=by
 have s:Z2 [0,2,4,5] fr=[(0,.yld 4),(2,G),(4,.mp 5),(5,Lv)]:=by
  show [(0,get fr 0),(2,get fr 2),(4,get fr 4),(5,get fr 5)]=_
  rw[r,o,p,q]
 rw[Sd,s,Z07];cases c:Zd (n+6) (frV [(0,.yld 4),(2,G),(4,.mp 5),(5,Lv)])&&X4 (n+6) ((f::h::g::i::j::d::b).take (n+6))with
 |false=>exact⟨b,rfl,l,k⟩
 |true=>
  refine⟨b.take n,rfl,ZGZ l ?_,λm=>ZEO<|k m⟩
  simp only[frV,List.map,Zd,ZSq,ZSW]at c;exact c.1.2.2.2
def c71L1m:ACode:=match c96L1b with| .keep _ (.seq _<|.seq (.keep _<|.block _ m) _)=>m|_=>.skip
def c71D:ACode:=match c71L1m with| .seq d _=>d|_=>.skip
def c71Y:ACode:=match c71L1m with| .seq _ (.seq y _)=>y|_=>.skip
def c71Z:ACode:=match c71L1m with| .seq _ (.seq _ z)=>z|_=>.skip
def ZEP(a L:List AObj)(x:AV)(sz:Nat):rowAt (a++.row sz [x]::L) a.length 1=some (sz,[x]):=by
 unfold rowAt;rw[ZTd<|ZSr _,Nat.sub_self];rfl
def ZH1(s:Sta)(P:AObj)(t:AV)(D E:List AV)(K:List Str)(Lv:AV)(id:Str)(r:List Str)(a:List AObj)(x:ZDZ Lv (id::r) a)(k:Nat)(d:Ga)(v:s.Bc[k]?=some d)
 (p:pfn rE 22 [stA s,.str id]=some (I k)):
 Zb rE c71D (wfr s Lv++[(16,.bool true)]) (fP P D E<|kM K::a)=some (.normal,[(0,.yld 4),(2,grA s),(4,.mp 5),(5,Lv),(6,.ptr (a.length+6) 0 0 1)],fP P D E<|kM K::(a++[.row 16 [d.enc]])):=by
 obtain⟨e,g,off,ex,es,rfl,m,i,y,j⟩:=x;have w:e<a.length:=(ZSA.1 m).1;have u:rowAt a e g=some (1,es):=by unfold rowAt;rw[m];simp only[i,beq_self_eq_true,cond_true]
 have c:es[off]?=some (.str id):=by
  have:=congrArg List.head? j;rw[List.head?_drop]at this;exact this
 have o:=Z6 (f:=Ga.enc) v;have A:(0<=(k:Int))=True:=by simp
 have q:((k:Int)).toNat=k:=ZVc k;have z:((0:Int)).toNat=0:=rfl;have n:(id::r).length=r.length+1:=rfl;have h:iaP (e+6) g off 1 0 (r.length+1) (some (1,es))=some (.ptr (e+6) off 0 g):=VT _ _ _ _ _ _ _ ⟨Int.le_refl _,by omega⟩
 have l:(a.length+1+1+1+1+1+1==e+6)=false:=by rw[beq_eq_false_iff_ne];omega
 have b:decide (a.length+1+1+1+1+1+1<a.length+1+1+1+1+1+1)=false:=by simp
 simp only[stA]at p;simp only[Ga.enc,NL.enc]at o;simp only[go_sem,c71D,c71L1m,c96L1b,wfr,fP,kM,grA,stA,l,b,Ga.enc,NL.enc,u,ZSG,Z04,ZU2,ZSO,p,o,h,c,ZEp,ZSv]
def ZH2(d f e g h c x y:AObj)(a:List AObj)(b:Bool):trimB (a.length+1+1+1+1+1+1+1) (d::f::e::g::h::c::(a++[x,y])) b=d::f::e::g::h::c::(a++x::bif b then []else [y]):=by
 unfold trimB;cases b with
 |false=>rfl
 |true=>
  simp only[cond_true,ZUp];rw[List.take_append,ZSR<|by omega]
  simp
def ZH3(s:Sta)(t:AV)(D E:List AV)(K:List Str)(Lv:AV)(tl:List AObj)(d:Ga)(h1:D.length<=1000)(h2:E.length<=1000):
 ∃b:Bool,Zb rE c71Y [(0,.yld 4),(2,grA s),(4,.mp 5),(5,Lv),(6,.ptr (tl.length+6) 0 0 1)] (fP (feL .ready t) D E<|kM K::(tl++[.row 16 [d.enc]])) =
  some (.normal,[(0,.yld 4),(2,grA s),(4,.mp 5),(5,Lv),(6,.ptr (tl.length+6) 0 0 1),(33,.bool false)],fP (feL .ready t) (faD d D) (faE d E)<|kM K::(tl++.row 16 [d.enc]::bif b then []else [.row 16 [d.enc]])):=by
 have hy:=ZGU t d D E (kM K::(tl++[.row 16 [d.enc]])) h1 h2;simp only[fP,ZSv,ZSz,ZSN]at hy;simp only[Ga.enc,NL.enc,kM]at hy;apply Exists.intro;simp only[go_sem,S3,c71Y,c71L1m,c96L1b,fP,kM,Ga.enc,NL.enc,ZSG,ZSJ,ZT1,ZEP,hy,ZSI,ZH2];rfl
def c71R:ACode:=match c71Z with| .seq r _=>r|_=>.skip
def ZH4(d f e g h c x:AObj)(a L:List AObj)(b:Bool):trimB (a.length+(L.length+1)+1+1+1+1+1+1) (d::f::e::g::h::c::(a++x::L)) b=d::f::e::g::h::c::(a++x::L):=ZEx<|by simp
def ZH5(s:Sta)(P:AObj)(D E:List AV)(K:List Str)(Lv:AV)(a L:List AObj)(d:Ga):
 Zb rE c71R [(0,.yld 4),(2,grA s),(4,.mp 5),(5,Lv),(6,.ptr (a.length+6) 0 0 1),(33,.bool false)] (fP P D E<|kM K::(a++.row 16 [d.enc]::L)) =
  some (.normal,[(0,.yld 4),(2,grA s),(4,.mp 5),(5,Lv),(37,.isl false d.After.ex 1<|d.After.l.map encS),(38,I d.After.l.length),(39,I 0)],fP P D E<|kM K::(a++.row 16 [d.enc]::L)):=by
 have b:=λh=>ZGY d h
 simp only[Ga.enc,NL.enc]at b;simp only[go_sem,c71R,c71Z,c71L1m,c96L1b,fP,kM,grA,stA,Ga.enc,NL.enc,ZSv,ZSz,ZSG,ZEP,b,ZH4,ZSs]
def ZH6(s:Sta)(t:AV)(D E:List AV)(K:List Str)(Lv:AV)(id:Str)(r:List Str)(tl:List AObj)(hL:ZDZ Lv (id::r) tl)(hc:TC' tl)(k:Nat)(d:Ga)(hd:s.Bc[k]?=some d)
 (hf:pfn rE 22 [stA s,.str id]=some (I k)) (h1:D.length<=1000) (h2:E.length<=1000) (h3:(id::r).length+d.After.l.length<=1000):
 ∃Lv' tl',Zb rE c71L1m (wfr s Lv++[(16,.bool true)]) (fP (feL .ready t) D E<|kM K::tl)=some (.normal,wfr s Lv',fP (feL .ready t) (faD d D) (faE d E)<|kM (d.After.l.foldl wkS (K,id::r)).1::tl')/\
  ZDZ Lv' (d.After.l.foldl wkS (K,id::r)).2 tl'/\TC' tl':=by
 have⟨b,hy⟩:=ZH3 s t D E K Lv tl d h1 h2;have hT:TC' (tl++.row 16 [d.enc]::bif b then []else [.row 16 [d.enc]]):=λn=>by
  have e:Zj n (.row 16 [d.enc])=true:=by simp only[Zj,Zd,Ga.enc,NL.enc,bel,ZTl]
  rw[ZEu,hc n];cases b<;>simp only[cond_true,cond_false,X4,e,ZTl]
 generalize(bif b then []else [AObj.row 16 [d.enc]])=X at hy hT;have⟨fr',Lv',tl',hin,q1,q2,q3,q4,q5,q6⟩:=ZGX (.row 2 [.agg [Iy 1 [],Iy 3 []]]) (.row 1<|faD d D) (.row 3<|faE d E) (.row 2 [.agg [.sl 1 (faD d D).length 0 (faD d D).length false,.sl 2 (faE d E).length 0 (faE d E).length false]]) (feL .ready t) (grA s) d.After.ex d.After.l (K,id::r) _ _ (ZH0 hL _) hT h3;have⟨tl2,hk,q7,q8⟩:=ZEE (.row 2 [.agg [Iy 1 [],Iy 3 []]]) (.row 1<|faD d D) (.row 3<|faE d E) (.row 2 [.agg [.sl 1 (faD d D).length 0 (faD d D).length false,.sl 2 (faE d E).length 0 (faE d E).length false]]) (feL .ready t) (kM (d.After.l.foldl wkS (K,id::r)).1) (tl++.row 16 [d.enc]::X).length .normal q3 q4 q5 q6 q1 q2;refine⟨Lv',tl2,?_,q7,q8⟩;show Zb rE (.seq c71D<|.seq c71Y<|.seq c71R<|.keep [0,2,4,5]<|.block 2 c96L0) _ _=_
 rw[SK,ZH1 s (feL .ready t) t D E K Lv id r tl hL k d hd hf,SH,SK,hy,SH,SK,ZH5 s (feL .ready t) (faD d D) (faE d E) K Lv tl X d,SH,Sm,Sl];show kp _ _ (blk 2<|Zg rE [0,2,4,5,37,38,39] c96L0b _ _)=_
 unfold fP;rw[hin];exact hk
def c71A:ACode:=match c96L1b with| .keep _ (.seq a _)=>a|_=>.skip
def c71C:ACode:=match c96L1b with| .keep _ (.seq _<|.seq _<|.keep _ c)=>c|_=>.skip
def ZH7(s:Sta)(P:AObj)(D E:List AV)(K:List Str)(Lv:AV)(id:Str)(r:List Str)(b:List AObj)(h:ZDZ Lv (id::r) b):
 Zb rE c71A (wfr s Lv) (fP P D E<|kM K::b)=some (.normal,wfr s Lv++[(16,.bool true)],fP P D E<|kM K::b):=by
 obtain⟨e,g,off,ex,es,rfl,d,c,j,f⟩:=h;have i:rowAt b e g=some (1,es):=by unfold rowAt;rw[d];simp only[c,beq_self_eq_true,cond_true]
 have a:(id::r).length=r.length+1:=rfl;simp only[go_sem,c71A,c96L1b,wfr,fP,kM,a,i,ZSG,ZFT,ZED,ZSv,ZSz]
def ZH8(s:Sta)(P:AObj)(D E:List AV)(K:List Str)(Lv:AV)(b:List AObj)(i:ZDZ Lv [] b):
 Zb rE c71A (wfr s Lv) (fP P D E<|kM K::b)=some (.exit 0,wfr s Lv++[(16,.bool false)],fP P D E<|kM K::b):=by
 obtain⟨e,g,off,ex,es,rfl,d,c,k,h⟩:=i;have j:rowAt b e g=some (1,es):=by unfold rowAt;rw[d];simp only[c,beq_self_eq_true,cond_true]
 have a:([]:List Str).length=0:=rfl;have f:decide (((0:Nat):Int)>0)=false:=rfl;simp only[go_sem,c71A,c96L1b,wfr,fP,kM,a,j,ZSG,f,ZED,ZSv,ZSz]
def ZFU(n:Nat):bounds (some<|.int .i64 1) none none (n+1)=some (1,n+1,none):=by
 have e:bounds (some<|.int .i64 1) none none (n+1)=bif Nat.ble 1 (n+1)&&Nat.ble (n+1) (n+1)&&VB (n+1) (n+1) none then some (1,n+1,none)else none:=rfl;rw[e,ZTn (show 1<=n+1 by omega),ZTn<|ZSr<|n+1]
 rfl
def ZFV{h:Hp}{b g off n:Nat}{ex:Bool}{es:List AV}(a:rowAt h b g=some (1,es)):slF h 1 (.sl b g off (n+1) ex) (some (1,n+1,none))=some (.sl b g (off+1) n ex):=by
 simp only[slF,a,beq_self_eq_true,cond_true,ZSW,Nat.add_sub_cancel]
def ZH9(s:Sta)(P:AObj)(D E:List AV)(K:List Str)(Lv:AV)(id:Str)(r:List Str)(c:List AObj)(m:ZDZ Lv (id::r) c):
 ∃fr f,Zb rE c71C (wfr s Lv) (fP P D E<|kM K::c)=some (.normal,fr,fP P D E<|kM K::c)/\get fr 0=.yld 4/\get fr 2=grA s/\get fr 4=.mp 5/\get fr 5=f/\ZDZ f r c:=by
 obtain⟨a,g,off,ex,es,rfl,k,e,j,i⟩:=m;have d:(id::r).length=r.length+1:=rfl;have o:rowAt c a g=some (1,es):=by unfold rowAt;rw[k];simp only[e,beq_self_eq_true,cond_true]
 refine⟨[(5,.sl (a+6) g (off+1) r.length ex),(18,.sl (a+6) g (off+1) r.length ex),(17,.sl (a+6) g off (r.length+1) ex)]++wfr s (.sl (a+6) g off (r.length+1) ex),.sl (a+6) g (off+1) r.length ex,?_,rfl,rfl,rfl,rfl,?_⟩
 .have l:=ZFV (h:=.row 2 [.agg [Iy 1 [],Iy 3 []]]::.row 1 D::.row 3 E::.row 2 [.agg [.sl 1 D.length 0 D.length false,.sl 2 E.length 0 E.length false]]::P::.map (K.map encS) (ZO K.length)::c) (b:=a+6) (off:=off) (n:=r.length) (ex:=ex) o;simp only[go_sem,c71C,c96L1b,wfr,fP,kM,d,ZFU,l,ZSv,ZSz]
 .refine⟨a,g,off+1,ex,es,rfl,k,e,by simp at j;omega,?_⟩
  have:=congrArg List.tail i
  rwa[List.tail_drop]at this
def ZEQ:∀(l:List Str)(K L:List Str)(id:Str)(r:List Str),L=id::r->∃a,(l.foldl wkS (K,L)).2=id::a
 |[],_,_,id,r,h=>⟨r,h⟩
 |x::l,K,L,id,r,h=>by
  rw[ZTe];unfold wkS;cases(K,L).1.any (Z3 x)with
  |true=>exact ZEQ l K L id r h
  |false=>exact ZEQ l (K++[x]) (L++[x]) id (r++[x])<|by rw[h];rfl
def ZHa(s:Sta)(t:AV)(D E:List AV)(K:List Str)(Lv:AV)(id:Str)(r:List Str)(b:List AObj)(x:ZDZ Lv (id::r) b)(F:TC' b)(k:Nat)(d:Ga)(M:s.Bc[k]?=some d)
 (U:pfn rE 22 [stA s,.str id]=some (I k)) (Q:D.length<=1000) (y:E.length<=1000) (z:(id::r).length+d.After.l.length<=1000):
 ∃n i,Zb rE c96L1b (wfr s Lv) (fP (feL .ready t) D E<|kM K::b)=some (.normal,wfr s n,fP (feL .ready t) (faD d D) (faE d E)<|kM (d.After.l.foldl wkS (K,id::r)).1::i)/\
  ZDZ n (d.After.l.foldl wkS (K,id::r)).2.tail i/\TC' i:=by
 have⟨p,e⟩:=ZEQ d.After.l K (id::r) id r rfl;have⟨a,m,w,o,X⟩:=ZH6 s t D E K Lv id r b x F k d M U Q y z;generalize d.After.l.foldl wkS (K,id::r)=q at e w o⊢;have⟨j,C⟩:=q;have e:C=id::p:=e;subst e;have o:ZDZ a (id::p) m:=o;have⟨g,B,l2,V⟩:=ZEE (G:=grA s) (Lv:=a) (fr:=wfr s a) (.row 2 [.agg [Iy 1 [],Iy 3 []]]) (.row 1<|faD d D) (.row 3<|faE d E) (.row 2 [.agg [.sl 1 (faD d D).length 0 (faD d D).length false,.sl 2 (faE d E).length 0 (faE d E).length false]]) (feL .ready t) (kM j) b.length .normal rfl rfl rfl rfl o X;have⟨v,c,T,O,H,N,P,J⟩:=ZH9 s (feL .ready t) (faD d D) (faE d E) j a id p g l2;have⟨L,R,W,f⟩:=ZEE (G:=grA s) (Lv:=c) (fr:=v) (.row 2 [.agg [Iy 1 [],Iy 3 []]]) (.row 1<|faD d D) (.row 3<|faE d E) (.row 2 [.agg [.sl 1 (faD d D).length 0 (faD d D).length false,.sl 2 (faE d E).length 0 (faE d E).length false]]) (feL .ready t) (kM j) g.length .normal O H N P J V;have⟨u,A,S,h⟩:=ZEE (G:=grA s) (Lv:=c) (fr:=wfr s c) (.row 2 [.agg [Iy 1 [],Iy 3 []]]) (.row 1<|faD d D) (.row 3<|faE d E) (.row 2 [.agg [.sl 1 (faD d D).length 0 (faD d D).length false,.sl 2 (faE d E).length 0 (faE d E).length false]]) (feL .ready t) (kM j) b.length .normal rfl rfl rfl rfl W f;refine⟨c,u,?_,S,h⟩;show Zb rE (.keep [0,2,4,5]<|.seq c71A<|.seq (.keep [0,2,4,5]<|.block 1 c71L1m)<|.keep [0,2,4,5] c71C) _ _=_
 rw[Sm,SK,ZH7 s (feL .ready t) D E K Lv id r b x,SH,SK,Sm,Sl,w];show kp _ _ (sq rE _<|kp _ _<|some (.normal,wfr s a,_))=_
 rw[show kp [0,2,4,5] (fP (feL .ready t) D E<|kM K::b).length (some (.normal,wfr s a,fP (feL .ready t) (faD d D) (faE d E)<|kM j::m))=_ from B,SH,Sm]
 rw[show Zb rE c71C [(0,.yld 4),(2,grA s),(4,.mp 5),(5,a)] (.row 2 [.agg [Iy 1 [],Iy 3 []]]::.row 1 (faD d D)::.row 3 (faE d E)::.row 2 [.agg [.sl 1 (faD d D).length 0 (faD d D).length false,.sl 2 (faE d E).length 0 (faE d E).length false]]::feL .ready t::kM j::g)=_ from T]
 exact(congrArg (kp [0,2,4,5]<|b.length+6) R).trans A
inductive Runs(s:Sta):List Str->List Str->List AV->List AV->List AV->List AV->Prop
 |stop (K:List Str) (D E:List AV):Runs s K [] D E D E
 |step (K:List Str) (id:Str) (r:List Str) (D E D' E':List AV) (k:Nat) (d:Ga) (hd:s.Bc[k]?=some d) (hf:pfn rE 22 [stA s,.str id]=some (I k)) (h1:D.length<=1000) (h2:E.length<=1000)
  (h3:(id::r).length+d.After.l.length<=1000) (h:Runs s (d.After.l.foldl wkS (K,id::r)).1 (d.After.l.foldl wkS (K,id::r)).2.tail (faD d D) (faE d E) D' E'):Runs s K (id::r) D E D' E'
def ZHb(s:Sta)(t:AV){K L:List Str}{D E g j:List AV}(H:Runs s K L D E g j):∀(Lv:AV)(a:List AObj),ZDZ Lv L a->TC' a->
 ∃m c b,Zg rE [0,2,4,5] c96L1b (wfr s Lv) (fP (feL .ready t) D E<|kM K::a)=some (.exit 0,wfr s c,fP (feL .ready t) g j<|kM m::b):=by
 induction H with
 |stop K D E=>
  intro Lv a f i;have⟨n,u,l2,C⟩:=ZEE (G:=grA s) (Lv:=Lv) (fr:=wfr s Lv++[(16,.bool false)]) (.row 2 [.agg [Iy 1 [],Iy 3 []]]) (.row 1 D) (.row 3 E) (.row 2 [.agg [.sl 1 D.length 0 D.length false,.sl 2 E.length 0 E.length false]]) (feL .ready t) (kM K) a.length (.exit 0) rfl rfl rfl rfl f i;refine⟨K,Lv,n,Q7 rfl ?_ (λh=>by cases h)⟩
  show Zb rE (.keep [0,2,4,5]<|.seq c71A<|.seq (.keep [0,2,4,5]<|.block 1 c71L1m)<|.keep [0,2,4,5] c71C) _ _=_
  rw[Sm,SK,ZH8 s (feL .ready t) D E K Lv a f,SI];exact u
 |step K id r D E g j k d x z y p q h v=>
  intro Lv a f i;have⟨l,o,B,w,A⟩:=ZHa s t D E K Lv id r a f i k d x z y p q;have⟨m,c,b,e⟩:=v l o w A;refine⟨m,c,b,?_⟩;rw[Yt rfl B];exact e
def h5(t:AV)(D E:List AV):List AObj:=[.row 2 [.agg [Iy 1 [],Iy 3 []]],.row 1 D,.row 3 E,.row 2 [.agg [.sl 1 D.length 0 D.length false,.sl 2 E.length 0 E.length false]],feL .ready t]
def ZHc(e:AExit)(fr:Fr)(d g f h i:AObj)(c:List AObj){b:Bool}{n:Nat}:∃fr' a,some (e,fr,trimB (n+5) (d::g::f::h::i::c) b)=some (e,fr',d::g::f::h::i::a):=by
 cases b with
 |true=>exact⟨fr,c.take n,rfl⟩
 |false=>exact⟨fr,c,rfl⟩
def ZHd(s:Sta)(t:AV)(id:Str)(f e:List AV)(H:Runs s [id] [id] [] [] f e):
 ∃fr l,Zb rE c96 (QP 0<|[]++[.yld 4]++[.iptr false [.str id],grA s]) (h5 t [] [])=some (.normal,fr,h5 t f e++l):=by
 have⟨m,j,k,g⟩:=ZHb s t H (.sl 6 1 0 1 true) [.row 1 [.str id]] ⟨0,1,0,true,[.str id],rfl,rfl,rfl,rfl,rfl⟩<|λn=>rfl
 have c:=Ur (enc:=encS) (eq:=Z3) Z1Y [] id (h:=h5 t [] []++[.map [] []]) (b:=5) rfl;have i:Qi Z3 [] id=[id]:=rfl;rw[i]at c;have a:List.replicate 1 (AV.bool true)=[.bool true]:=rfl;have d:List.replicate 0 (AV.bool true)=[]:=rfl;simp only[h5,ZSv,ZSz,encS,List.map,ZO,ZSG,ZT1,ZSE,a]at c;simp only[wfr,fP,kM,encS,List.map,ZO,ZSG,ZT1,ZSE,a]at g;simp only[go_sem,c96,c96L1,h5,g,c];exact ZHc _ _ _ _ _ _ _ _ (n:=2)
def wkT(s:Sta)(id:Str):AV:=.clo (.func 96) [] [.iptr false [.str id],grA s]
def h4(D E:List AV):List AObj:=[.row 2 [.agg [Iy 1 [],Iy 3 []]],.row 1 D,.row 3 E,.row 2 [.agg [.sl 1 D.length 0 D.length false,.sl 2 E.length 0 E.length false]]]
def ZHe(s:Sta)(id:Str)(D E:List AV)(H:Runs s [id] [id] [] [] D E):
 ∃a,rf rE (wkT s id) [20] c17R0a c17R0b (ffr<|wkT s id) (h4 [] [])=some (.normal,ffr<|wkT s id,h4 D E++a):=by
 have⟨fr,a,h⟩:=ZHd s (wkT s id) id D E H;refine⟨.loop .exhausted .normal (ffr<|wkT s id) [20] c17R0a c17R0b::a,?_⟩;unfold wkT;rw[Z1k (c:=c96) (rs:=[]) rfl];have h':Zb rE c96 (QP 0<|[]++[.yld (h4 [] []).length]++[.iptr false [.str id],grA s]) (h4 [] []++[.loop .ready .normal (ffr<|wkT s id) [20] c17R0a c17R0b])=_:=h;unfold wkT at h';rw[h'];rfl
def grC(s:Sta):List AV:=[Iy 6<|s.Fa.map Gk.enc,Iy 5<|s.Gm.map By.enc,Iy 4<|s.Bt.map Ev.enc,Iy 16<|s.Bc.map Ga.enc,Iy 6<|s.Nk.map be.enc,Iy 2<|s.Gc.map bf.enc,Iy 2<|s.ba.map bf.enc]
def ZHf(s:Sta)(id:Str)(h:Hp):fnV rE 42 [.agg<|grC s++[.clo (.func 41) [] []],.str id] h=some (.clo (.func 96) [] [.iptr false [.str id],.iptr false<|grC s++[.clo (.func 41) [] []]],h):=by
 rw[Q6 (f:=42) rfl rfl];unfold grC;simp only[go_sem,c42,ZSv,ZSz,ZE5 (h:=h) rfl]
def ZHg(a d c e:AObj)(f:List AObj)(b:Bool):trimB 4 (a::d::c::e::f) b=a::d::c::e::bif b then []else f:=by cases b<;>rfl
def ZHh{D a:List AV}(d:ZE7 44 [ZEa 44] 1 D=some a)(c e f:AObj)(g:List AObj):
 rsD (rE.rs 43) (c::.row 1 D::e::f::g) [.sl 1 D.length 0 D.length false,.clo (.func 44) [] []]=some (.sl 1 D.length 0 D.length false,⟨false,[1],some 1,none⟩,some (1,.row 1 a)):=by
 show ZEn (ZE7 44) _ _=_
 unfold ZEn ZE8;simp only[ZTp,ZT6,beq_self_eq_true];have b:ZE7 44 [.clo (.func 44) [] []] 1 D=some a:=d;rw[b];rfl
def ZHi{E b:List AV}(g:ZEe 46 3 ZEf [ZEa 46] 3 E=some b)(c d e:AObj)(f:List AObj):
 fnV rE 45 [.sl 2 E.length 0 E.length false,.clo (.func 46) [] []] (c::d::.row 3 E::e::f)=some (.sl 2 E.length 0 E.length false,c::d::.row 3 b::e::f):=by
 rw[V8 (s:=ZEo<|ZEe 46 3 ZEf) rfl];unfold ZEo ZE8;simp only[ZTp,ZT6,beq_self_eq_true];have a:ZEe 46 3 ZEf [.clo (.func 46) [] []] 3 E=some b:=g;rw[a];rfl
def ZHk{f:Type}{a:List DRec}{b c o:AObj}{e:List AObj}{d:DRec}{k:Option f}:okd a [] (b::c::e) d (some (1,o)) k=k:=Z9E rfl (ZTn (show 1<=(b::c::e).length by simp))
def ZHl(c e d f:AObj)(a:List AObj)(b:Bool):trimB (a.length+1+1+1+1) (c::e::d::f::a) b=c::e::d::f::a:=ZEx<|by simp
def ZFW(s:Sta)(id:Str)(D E a b:List AV)(l:pfn rE 40 [stA s,.str id]=some (I 0))(H:Runs s [id] [id] [] [] D E)(p:ZE7 44 [ZEa 44] 1 D=some a)(q:ZEe 46 3 ZEf [ZEa 46] 3 E=some b)(c:a.length=D.length)(d:b.length=E.length)(i:Z4 a=true)(j:Z4 b=true):
 pfn rE 17 [stA s,.str id]=some (.tup [.agg [Iy 1 a,Iy 3 b],I 0]):=by
 have⟨w,o⟩:=ZHe s id D E H;simp only[stA]at l;simp only[wkT,grA,ffr,h4,AV.cells,ZSv,ZSz,ZT1]at o;have m:=ZHf s id;simp only[grC,ZSv,ZSz]at m;have v:(a.length==D.length)=true:=by rw[c];exact beq_self_eq_true _
 have t:(b.length==E.length)=true:=by rw[d];exact beq_self_eq_true _
 have u:a.take D.length=a:=by rw[<-c];exact ZSZ
 have r:b.take E.length=b:=by rw[<-d];exact ZSZ
 have g:∀h n,ZC false h (n+1) a=some a:=λh n=>by simp only[ZC,i,cond_true]
 have e:∀h n,ZC false h (n+1) b=some b:=λh n=>by simp only[ZC,j,cond_true]
 have g:=λh=>g h 34
 have e:=λh=>e h 33
 simp only[Nat.reduceAdd]at g e;have k:((0:Int) != 0)=false:=rfl;rw[Z5 (f:=17) rfl rfl];simp only[go_sem,c17,stA,l,k,m,put,Sr,o,ZHg,ZL4,ZHj,ZHk,ZHl,ZH,ZHh p,ZHi q,v,t,u,r,g,e]
def ZbD{a:Type}{Q:a->Prop}{f:a->a}{l:List a}{k:Nat}(h:∀x∈l,Q x)(c:∀x,Q x->Q (f x)):∀x∈ZK l k f,Q x:=by
 unfold ZK;split
 .rename_i x d;intro y b;rcases ZUD b with h1|rfl
  .exact h y h1
  .exact c x<|h x<|ZSy d
 .exact h
def Zd9{a:Type}{Q:a->Prop}{l m:List a}(h:∀x∈l,Q x)(b:∀x∈m,Q x):∀x∈l++m,Q x:=λx c=>by
 rcases ZSQ.1 c with h1|h1
 .exact h x h1
 .exact b x h1
def Zdi{a:Type}{Q:a->Prop}{y:a}(h:Q y):∀x∈[y],Q x:=λx b=>by rw[ZSL]at b;subst b;exact h
structure SizeOk(s:Sta):Prop where
 rg:∀x∈s.Fa,x.bm.l.length<=100/\x.Ring.l.length<=100/\x.Id.size<=1000
 st:∀x∈s.Gm,x.bm.l.length<=100/\x.Line.l.length<=100/\x.Id.size<=1000
 bu:∀x∈s.Bt,x.Ring.l.length<=100/\x.Id.size<=1000
 dr:∀x∈s.Bc,DoS x
 un:∀x∈s.Nk,x.Id.size<=1000/\x.Ga.size<=1000/\x.Text.size<=1000
def Zdr{w:Wk}{k:Nat}{a:NL Str}(h:SizeOk w.s)(g:a.l.length<=100)(e:∀id∈a.l,id.size<=1000):SizeOk (Qf w k a).s:=by
 unfold Qf;split
 .rename_i x m;refine⟨h.rg,h.st,h.bu,ZbD h.dr<|λd c=>⟨g,c.id,c.building,c.street,c.veil⟩,λu f=>?_⟩
  obtain⟨v,i,rfl⟩:=ZSM.1 f;have b:=h.un v i;unfold XO;cases Z3P x.Id v with
  |false=>exact b
  |true=>
   rw[cond_true];unfold UG;split
   .rename_i id r j;exact⟨b.1,e id (by rw[j];exact ZSV ..),b.2.2⟩
   .exact b
 .exact h
def ZdB{w:Wk}{d:Ga}(h:SizeOk w.s)(a:DoS d):SizeOk (Qw w d).s:=
 ⟨h.rg,h.st,h.bu,Zd9 h.dr<|Zdi ⟨a.after,a.id,a.building,a.street,a.veil⟩,h.un⟩
def Ze1{a:NL Str}(c:a.l.length<=100)(b:∀id∈a.l,id.size<=1000):∀(l:List Int)(w:Wk),SizeOk w.s->SizeOk (Yg w l a).s
 |[],_,h=>h
 |k::r,w,h=>Ze1 c b r (Qf w k.toNat a)<|Zdr h c b
def Ze2{w:Wk}{l:List Ga}(h:SizeOk w.s):∀i,SizeOk (Y6 w l i).s
 |0=>h
 |i+1=>by
  have a:=Ze2 (w:=w) (l:=l) h i;unfold Y6;split
  .rename_i x c;cases NV w.e.Id x with
   |false=>exact a
   |true=>exact Zdr a (ZSt _)<|λid b=>by cases b
  .exact a
def Ze3{D:List Ga}{l:List Ent}(h:∀x∈D,DoS x):∀i,∀x∈Yn D l i,DoS x
 |0=>h
 |i+1=>by
  have b:=Ze3 (l:=l) h i;unfold Yn;split
  .exact ZbD b<|λd a=>⟨a.after,a.id,a.building,a.street,a.veil⟩
  .exact b
def Ze4{s:Sta}(h:SizeOk s)(k:Nat):(JF s k).l.length<=100:=by
 unfold JF;split
 .rename_i x a;exact(h.st x<|ZSy a).1
 .exact ZSt _
def Zdj:emp.size<=1000:=ZSt _
def ZeG{w:Wk}(h:SizeOk w.s)(c:EvS w.e)(k:∀x∈w.e.Lst.l,x.Id.size<=1000):SizeOk (stepW w).s:=by
 unfold stepW;split
 .refine⟨?_,h.st,h.bu,h.dr,h.un⟩;unfold Hj;cases decide (Qo w.s w.e.Id<0)with
  |true=>exact Zd9 h.rg<|Zdi ⟨ZSt _,c.path,c.id⟩
  |false=>exact ZbD h.rg<|λx b=>⟨b.1,c.path,b.2.2⟩
 .exact⟨h.rg,Zd9 h.st<|Zdi ⟨ZSt _,c.path,c.id⟩,h.bu,h.dr,h.un⟩
 .unfold Hl;cases decide (Qo w.s w.e.Id>=0)with
  |true=>exact⟨ZbD h.rg<|λx b=>⟨c.names,b.2⟩,h.st,h.bu,h.dr,h.un⟩
  |false=>exact⟨h.rg,ZbD h.st<|λx b=>⟨c.names,b.2⟩,h.bu,h.dr,h.un⟩
 .exact⟨h.rg,ZbD (ZbD h.st<|λx b=>⟨Ze4 h _,b.2⟩)<|λx b=>⟨Ze4 h _,b.2⟩,h.bu,h.dr,h.un⟩
 .exact⟨h.rg,h.st,Zd9 h.bu<|Zdi ⟨c.path,c.id⟩,h.dr,h.un⟩
 .exact ZdB h ⟨ZSt _,c.id,c.other,c.text,Zdj⟩
 .exact⟨h.rg,h.st,h.bu,h.dr,Zd9 h.un<|Zdi ⟨c.id,c.other,c.text⟩⟩
 .exact⟨h.rg,h.st,h.bu,Ze3 h.dr _,h.un⟩
 .unfold Kb;split
  .rename_i d j;have g:=h.dr d<|ZSy j;refine Zdr (w:=Y5 w d w.e.Lst.l) ⟨h.rg,h.st,h.bu,Zd9 h.dr<|λy m=>?_,h.un⟩ ?_ (λid i=>?_)
   .obtain⟨x,b,rfl⟩:=ZSM.1 m;exact⟨ZSt _,k x b,g.building,g.street,Zdj⟩
   .rw[ZSs];exact ZTa c.lst<|by decide
   .obtain⟨x,b,rfl⟩:=ZSM.1 i;exact k x b
  .exact h
 .unfold Kd;split
  .rename_i d j;have g:=h.dr d<|ZSy j;exact Ze1 (a:=⟨false,[w.e.Id]⟩) (by simp) (λid i=>by rw[ZSL]at i;subst i;exact c.id) _ _<|ZdB h ⟨ZSt _,c.id,g.building,g.street,Zdj⟩
  .exact h
 .unfold Ht;exact Ze2 (w:=JH w<|ZK w.s.Bt (Y1 w.s w.e.Id).toNat<|Ke w.e) ⟨h.rg,h.st,ZbD (f:=Ke w.e) h.bu<|λx b=>b,h.dr,h.un⟩ _
 .unfold Hy;cases Kg w.s w.e.Id with
  |true=>exact⟨ZbD h.rg<|λx b=>b,h.st,h.bu,h.dr,h.un⟩
  |false=>
  cases Kh w.s w.e.Id with
  |true=>exact⟨h.rg,ZbD h.st<|λx b=>b,h.bu,h.dr,h.un⟩
  |false=>
  cases Ki w.s w.e.Id with
  |true=>exact Zdr h (ZSt _)<|λid n=>by cases n
  |false=>exact⟨h.rg,h.st,h.bu,h.dr,ZbD h.un<|λx b=>b⟩
 .exact⟨h.rg,h.st,h.bu,h.dr,h.un⟩
 .exact⟨h.rg,h.st,h.bu,h.dr,h.un⟩
 .exact ZdB h ⟨ZSt _,c.id,Zdj,Zdj,c.text⟩
def ZeH(s:Sta)(b:StF s)(a:Int)(e:Gt)(c:EvS e)(d:∀x∈e.Lst.l,x.Id.size<=1000):StE (ZP s a e):=by
 unfold ZP;cases okB s a e&&(Q1 (wk0 s a e)==0&&Wh (stepW<|wk0 s a e).s.Bc)with
 |true=>
  have h:=ZeG (w:=wk0 s a e) ⟨b.e.regions,b.e.streets,b.e.buildings,b.e.doors,b.e.units⟩ c d;exact⟨FN s b a e c,h.rg,h.st,h.bu,h.dr,h.un⟩
 |false=>
  refine⟨⟨ZSt _,ZSt _,ZSt _,ZSt _,ZSt _,ZSt _,ZSt _⟩,?_,?_,?_,?_,?_⟩
  all_goals (intro x f;cases f)
def ZU(s:Str):Bool:=!decide ((s.size:Int)>100)
def Vv(bw ex:Bool)(l:List Str)(r:l.length<9223372036854775807):pfn rE 119 [.isl bw ex 1<|l.map encS]=some (.bool<|l.all ZU):=by
 have L:=Uf (E:=rE) (live:=[0,3]) (b:=c119L0b) (h:=[]) l (λ_ x=>ZU x) (λi=>[(0,.isl bw ex 1<|l.map encS),(3,I i)]) 0 (λfr=>get fr 2=.bool false) (λi=>rfl)
  (λi x d e=>by
   have k:=Z6 (f:=encS) d;have j:=Zh<|Z7 d;have q:=Zx (n:=i) (by have:=Z7 d;omega)
   have c:decide ((x.size:Int)>100)=false:=by simpa[ZU]using e
   refine⟨_,by simp only[go_sem,c119L0b,k,j,q,c,encS];rfl,?_⟩
   simp only[go_sem])
  (λi x d e=>by
   have k:=Z6 (f:=encS) d;have j:=Zh<|Z7 d;have c:decide ((x.size:Int)>100)=true:=by simpa[ZU]using e
   refine⟨_,by simp only[go_sem,c119L0b,k,j,c,encS];rfl,?_⟩
   simp only[go_sem])
  (⟨_,by simp only[go_sem,c119L0b,ZG];rfl⟩)
 rw[Z5 (f:=119) rfl rfl];rw[QE]at L;have⟨fr',p,o⟩:=L;have a:Zg rE [0,3] c119L0b [(0,.isl bw ex 1<|l.map encS),(3,.int .i64 0)] []=_:=p;cases m:l.all ZU with
 |true=>rw[m]at a;simp only[go_sem,c119,c119L0,a]
 |false=>
  rw[m]at a;have g:=o m;simp only[go_sem,c119,c119L0,a,g,ZSH]
def HG(a b:Str):pfn rE 119 [Iy 1 [.str a,.str b]]=some (.bool<|[a,b].all ZU):=Vv false false [a,b]<|by simp
def Z4y(a b c d:Str):pfn rE 119 [Iy 1 [.str a,.str b,.str c,.str d]]=some (.bool<|[a,b,c,d].all ZU):=Vv false false [a,b,c,d]<|by simp
def HH{a:Type}{l:List a}{n i:Nat}{x:a}(h:(l.take n)[i]?=some x):l[i]?=some x/\i<n:=by
 have b:=Z7 h;rw[ZTk]at b;rw[ZTK<|by omega]at h
 exact⟨h,by omega⟩
def FR{a:Type}(l:List a):(decide ((((l.take 10).length:Nat):Int)<(l.length:Int))=true->decide ((((l.take 10).length:Nat):Int)<10)=false):=by
 intro h;have:=of_decide_eq_true h;rw[ZTk]at*;exact decide_eq_false<|by omega
def M1(x:Nm):Bool:=[x.Lang,x.Text].all ZU
def XQ(l:List Nm):Bool:=(l.take 10).all M1&&decide ((l.length:Int)<=10)
def UQ(ex:Bool)(l:List Nm):pfn rE 120 [.isl false ex 3<|l.map Nm.enc]=some (.bool<|XQ l):=by
 have L:=QT (E:=rE) (live:=[0,3]) (b:=c120L0b) (h:=[]) (l.take 10) (λ_ x=>M1 x) (λi=>[(0,.isl false ex 3<|l.map Nm.enc),(3,I i)]) 0 (λfr=>get fr 0=.isl false ex 3 (l.map Nm.enc)/\get fr 2=.bot) (λfr=>get fr 2=.bool false) (λi=>rfl)
  (λi x o s=>by
   have⟨d,j⟩:=HH o;have r:=Z6 (f:=Nm.enc) d;have q:=Zh<|Z7 d;have v:=Zx (n:=i)<|by omega
   have a:decide ((i:Int)<10)=true:=decide_eq_true<|by omega
   have k:=HG x.Lang x.Text;have g:[x.Lang,x.Text].all ZU=true:=s;rw[g]at k;refine⟨_,by simp only[go_sem,c120L0b,r,q,v,a,Nm.enc,k];rfl,?_⟩
   simp only[go_sem])
  (λi x o s=>by
   have⟨d,j⟩:=HH o;have r:=Z6 (f:=Nm.enc) d;have q:=Zh<|Z7 d;have a:decide ((i:Int)<10)=true:=decide_eq_true<|by omega
   have k:=HG x.Lang x.Text;have g:[x.Lang,x.Text].all ZU=false:=s;rw[g]at k;refine⟨_,by simp only[go_sem,c120L0b,r,q,a,Nm.enc,k];rfl,?_⟩
   simp only[go_sem])
  (by
   cases c:decide ((((l.take 10).length:Nat):Int)<(l.length:Int))with
   |true=>
    have a:=FR l c;exact⟨_,by simp only[go_sem,c120L0b,c,a];rfl,by simp only[go_sem],by simp only[go_sem]⟩
   |false=>exact⟨_,by simp only[go_sem,c120L0b,c];rfl,by simp only[go_sem],by simp only[go_sem]⟩)
 rw[Z5 (f:=120) rfl rfl];rw[QE]at L;have⟨fr',z,u,t⟩:=L;have e:Zg rE [0,3] c120L0b [(0,.isl false ex 3<|l.map Nm.enc),(3,.int .i64 0)] []=_:=z;unfold XQ;cases m:(l.take 10).all M1 with
 |true=>
  rw[m]at e;have⟨y,w⟩:=u m;simp only[go_sem,c120,c120L0,e,y,w]
 |false=>
  rw[m]at e;have p:=t m;simp only[go_sem,c120,c120L0,e,p,ZSH]
def M2(x:Ent):Bool:=[x.Id,x.An.bn].all ZU
def FT(l:List Ent):Bool:=(l.take 10).all M2
abbrev evI(e:Gt):AV:=.iptr false [I e.br,I e.Day,I e.A,I e.B,I e.bz,.str e.Id,.str e.bv,.str e.Text,.isl false e.Ids.ex 1<|e.Ids.l.map encS,.isl false e.bm.ex 3<|e.bm.l.map Nm.enc,
 I e.An.N,.str e.An.bn,I e.An.Num,I e.An.Den,I e.bg.X,I e.bg.Y,.isl false e.Path.ex 2<|e.Path.l.map Pt.enc,.isl false e.Lst.ex 7<|e.Lst.l.map Ent.enc]
def Xn(e:Gt):Bool:=
 FT e.Lst.l&&([e.Id,e.bv,e.Text,e.An.bn].all ZU&&(decide ((e.Ids.l.length:Int)<=10)&&(e.Ids.l.all ZU&&(XQ e.bm.l&&(decide ((e.Path.l.length:Int)<=12)&&decide ((e.Lst.l.length:Int)<=10))))))
def Z4z(e:Gt):pfn rE 63 [evA e]=some (.bool<|Xn e):=by
 have L:=QT (E:=rE) (live:=[1,3]) (b:=c63L0b) (h:=[]) (e.Lst.l.take 10) (λ_ x=>M2 x) (λi=>[(1,evI e),(3,I i)]) 0 (λfr=>get fr 1=evI e/\get fr 2=.bot) (λfr=>get fr 2=.bool false) (λi=>rfl)
  (λi x y C=>by
   have⟨m,v⟩:=HH y;have B:=Z6 (f:=Ent.enc) m;have A:=Zh<|Z7 m;have H:=Zx (n:=i)<|by omega
   have j:decide ((i:Int)<10)=true:=decide_eq_true<|by omega
   have d:=HG x.Id x.An.bn;have q:[x.Id,x.An.bn].all ZU=true:=C;rw[q]at d;refine⟨_,by simp only[go_sem,c63L0b,B,A,H,j,Ent.enc,d];rfl,?_⟩
   simp only[go_sem])
  (λi x y C=>by
   have⟨m,v⟩:=HH y;have B:=Z6 (f:=Ent.enc) m;have A:=Zh<|Z7 m;have j:decide ((i:Int)<10)=true:=decide_eq_true<|by omega
   have d:=HG x.Id x.An.bn;have q:[x.Id,x.An.bn].all ZU=false:=C;rw[q]at d;refine⟨_,by simp only[go_sem,c63L0b,B,A,j,Ent.enc,d];rfl,?_⟩
   simp only[go_sem])
  (by
   cases c:decide ((((e.Lst.l.take 10).length:Nat):Int)<(e.Lst.l.length:Int))with
   |true=>
    have j:=FR e.Lst.l c;exact⟨_,by simp only[go_sem,c63L0b,c,j];rfl,by simp only[go_sem],by simp only[go_sem]⟩
   |false=>exact⟨_,by simp only[go_sem,c63L0b,c];rfl,by simp only[go_sem],by simp only[go_sem]⟩)
 rw[Z5 (f:=63) rfl rfl];rw[QE]at L;have⟨fr',J,G,F⟩:=L;have a:Zg rE [1,3] c63L0b [(1,evI e),(3,.int .i64 0)] []=_:=J;have d:=Z4y e.Id e.bv e.Text e.An.bn;have u:=UQ e.bm.ex e.bm.l;unfold Xn FT;cases w:(e.Lst.l.take 10).all M2 with
 |false=>
  rw[w]at a;have z:=F w;simp only[evI]at a;simp only[go_sem,c63,c63L0,a,z,ZSH]
 |true=>
  rw[w]at a;have⟨p,r⟩:=G w;simp only[evI]at a p;cases D:[e.Id,e.bv,e.Text,e.An.bn].all ZU with
  |false=>rw[D]at d;simp only[go_sem,c63,c63L0,a,p,r,d]
  |true=>
  rw[D]at d;cases t:decide ((e.Ids.l.length:Int)<=10)with
  |false=>simp only[go_sem,c63,c63L0,a,p,r,d,t]
  |true=>
  have s:=Vv false e.Ids.ex e.Ids.l (by have:=of_decide_eq_true t;omega)
  cases g:e.Ids.l.all ZU with
  |false=>rw[g]at s;simp only[go_sem,c63,c63L0,a,p,r,d,t,s]
  |true=>
  rw[g]at s;cases k:XQ e.bm.l with
  |false=>rw[k]at u;simp only[go_sem,c63,c63L0,a,p,r,d,t,s,u]
  |true=>
  rw[k]at u;cases o:decide ((e.Path.l.length:Int)<=12)with
  |false=>simp only[go_sem,c63,c63L0,a,p,r,d,t,s,u,o]
  |true=>simp only[go_sem,c63,c63L0,a,p,r,d,t,s,u,o]
def JL(e:Gt)(h:Xn e=true):EvS e:=by
 simp only[Xn,ZSq]at h;have⟨_,d,b,j,a,c,f⟩:=h;have k:=of_decide_eq_true b;have m:=of_decide_eq_true c;have g:=of_decide_eq_true f;have i:(e.bm.l.length:Int)<=10:=by
  simp only[XQ,ZSq]at a;exact of_decide_eq_true a.2
 simp[ZU]at d;exact⟨by omega,by omega,by omega,by omega,by omega,by omega,by omega⟩
def hasB(l:List Str)(v:Str):Bool:=!Zu (λ_ x=>!Z3 x v) 0 l
structure Endz where
 Id:Str
 br:Int
 Day:Int
def Endz.enc(e:Endz):AV:=.agg [.str e.Id,I e.br,I e.Day]
def ZEq(a b:Endz):Bool:=Z3 a.Id b.Id&&(a.br==b.br&&a.Day==b.Day)
def ZIL(l:List Endz)(v:Endz):Bool:=!Zu (λ_ x=>!ZEq x v) 0 l
def ZEb(s:Sta)(id:Str):Int:=bif Jx s then(bif decide (Zn s id<0)then 10 else 0)else 1
def ZPY(s:Sta)(b:StE s)(id:Str):pfn rE 40 [stA s,.str id]=some (I<|ZEb s id):=by
 have a:=Z3i s b;have e:=find_ok s b.sizes id;rw[Z5 (f:=40) rfl rfl];unfold ZEb;cases c:Jx s with
 |false=>rw[c]at a;simp only[go_sem,c40,a,ZSK]
 |true=>
  rw[c]at a;cases d:decide (Zn s id<0)with
  |true=>simp only[go_sem,c40,a,e,d,ZSI]
  |false=>simp only[go_sem,c40,a,e,d,ZSI]
def ftA(a b:Bool)(D:List Str)(E:List Endz):AV:=.agg [.isl false a 1<|D.map encS,.isl false b 3<|E.map Endz.enc]
def ZF6:∀(l m:List Str),l.Nodup->(∀x∈l,x∈m)->l.length<=m.length
 |[],m,_,_=>ZSt _
 |a::r,m,h,hs=>by
  rw[ZT8]at h;obtain⟨p,q,rfl⟩:=List.append_of_mem<|hs a ZSV;have:=ZF6 r (p++q) h.2 (λx c=>by
   have d:=hs x<|ZT4 _ c;have b:x≠a:=λe=>h.1<|e▸c
   simp only[ZSQ,ZST,b,false_or]at d⊢;exact d)
  simp only[ZSJ,ZSG]at this⊢;omega
def ZFX{s:Sta}(g:(s.Bc.map (·.Id)).Nodup){d e:Ga}(m:d∈s.Bc)(k:e∈s.Bc)(h:d.Id=e.Id):d=e:=by
 have⟨i,a⟩:=ZTR m;have⟨j,b⟩:=ZTR k;have c:=Zi1 (f:=λx:Ga=>x.Id) g a
 have l:=Zi1 (f:=λx:Ga=>x.Id) g b
 rw[h]at c;have:i=j:=by rw[c]at l;omega
 rw[this,b]at a;exact(Option.some.inj a).symm
inductive Reach(s:Sta):Str->Str->Prop
 |refl (x:Str):Reach s x x
 |step (x y z:Str) (d:Ga) (h:Reach s x y) (hd:d∈s.Bc) (hi:d.Id=y) (hz:z∈d.After.l):Reach s x z
def ZF7:∀(l K L:List Str),∃b,l.foldl wkS (K,L)=(K++b,L++b)/\(∀x∈b,x∈l)/\(∀x∈l,x∈K++b)/\(K.Nodup->(K++b).Nodup)
 |[],K,L=>⟨[],by simp⟩
 |a::l,K,L=>by
  rw[ZTe];cases c:K.any (Z3 a)with
  |true=>
   have⟨b,j,f,g,i⟩:=ZF7 l K L;refine⟨b,?_,λx d=>ZT4 _<|f x d,λx d=>?_,i⟩
   .rw[show wkS (K,L) a=(K,L)by unfold wkS;simp only[c,cond_true],j]
   .rcases ZST.1 d with rfl|d
    .exact ZTM _<|ZdP.1 c
    .exact g x d
  |false=>
   have⟨b,j,f,g,i⟩:=ZF7 l (K++[a])<|L++[a];have m:a ∉ K:=λh=>by rw[ZdP.2 h]at c;cases c
   refine⟨a::b,?_,λx d=>?_,λx d=>?_,λn=>?_⟩
   .have e:∀M:List Str,M++a::b=M++[a]++b:=λM=>by simp
    rw[e,e,show wkS (K,L) a=(K++[a],L++[a])by unfold wkS;simp only[c,cond_false],j]
   .rcases ZST.1 d with rfl|d
    .exact ZSV
    .exact ZT4 _<|f x d
   .rcases ZST.1 d with rfl|d
    .simp
    .have:=g x d;simpa using this
   .have e:K++a::b=K++[a]++b:=by simp
    rw[e];refine i ?_;rw[ZU5];exact⟨n,by simp,λx d y k=>by simp only[ZSL]at k;rw[k];exact λh=>m<|h▸d⟩
def ZEc(Q:List Ga):List AV:=(Q.filter λd=>decide (d.Ld<0)).map λd=>.str d.Id
def ZEd(Q:List Ga):List AV:=(Q.filter λd=>!decide (d.Ld<0)&&d.After.l.isEmpty).map ZEB
def ZFY(d:Ga)(Q:List Ga):faD d (ZEc Q)=ZEc (Q++[d]):=by
 unfold faD ZEc;rw[ZUO,ZSF];cases c:decide (d.Ld<0)<;>simp[List.filter,c]
def ZFZ(d:Ga)(Q:List Ga):faE d (ZEd Q)=ZEd (Q++[d]):=by
 unfold faE ZEd;rw[ZUO,ZSF];cases c:(!decide (d.Ld<0)&&d.After.l.isEmpty)<;>simp only[List.filter,c,cond_true,cond_false,List.map,ZSC]
def ZHn{s:Sta}(k:Prop' s){d:Ga}(m:d∈s.Bc){x:Str}(b:x∈d.After.l):∃e∈s.Bc,e.Id=x:=by
 have⟨i,c⟩:=ZTR m;have h:=((Zd0 s i d).1 (k.dr i d c)).2.1 x b;have a:decide (Zn s x<0)=false:=decide_eq_false (by have:=of_decide_eq_false h;omega)
 rw[ZEz]at a;have⟨j,e,_,f,g⟩:=ZcU a;exact⟨e,ZSy f,g⟩
def ZEF{s:Sta}(c:Prop' s):(s.Bc.map (·.Id)).Nodup:=by
 have h:=c.ids;unfold Qp at h;have a:=(ZU5.1 h).2.1;have d:=(ZU5.1 a).2.1;have b:=(ZU5.1 d).2.1;exact(ZU5.1 b).1
def ZG0(s:Sta)(o:Prop' s)(q:StE s)(z:s.Bc.length<=500)(c:Str):∀(n:Nat)(P:List Ga)(L:List Str),s.Bc.length<=P.length+n->(∀d∈P,d∈s.Bc)->(P.map (·.Id)++L).Nodup->(∀x∈L,∃d∈s.Bc,d.Id=x)->
 (∀x∈P.map (·.Id)++L,Reach s c x)->(∀d∈P,∀y∈d.After.l,y∈P.map (·.Id)++L)->
 ∃Q,Runs s (P.map (·.Id)++L) L (ZEc P) (ZEd P) (ZEc Q) (ZEd Q)/\(Q.map (·.Id)).Nodup/\(∀d∈Q,d∈s.Bc)/\(∀d∈Q,Reach s c d.Id)/\(∀d∈Q,∀y∈d.After.l,y∈Q.map (·.Id))/\(∀x∈P.map (·.Id)++L,x∈Q.map (·.Id))
 |n,P,[],_,hP,hn,_,hR,hA=>by
  rw[ZSC]at hn hR hA⊢;exact⟨P,Runs.stop _ _ _,hn,hP,λd b=>hR _<|ZTv b,hA,λx v=>v⟩
 |n,P,x::r,hle,hP,hn,hL,hR,hA=>by
  have i:∀y∈P.map (·.Id)++x::r,y∈s.Bc.map (·.Id):=λy a=>by
   rcases ZSQ.1 a with h|h
   .obtain⟨d,b,rfl⟩:=ZSM.1 h;exact ZTv<|hP d b
   .obtain⟨d,b,rfl⟩:=hL y h;exact ZTv b
  have j:=ZF6 _ _ hn i;simp only[ZSJ,ZSs,ZSG]at j;have⟨d,b,f⟩:=hL x ZSV;have⟨k,t⟩:=ZTR b;have G:pfn rE 22 [stA s,.str x]=some (I k):=by
   rw[find_ok s q.sizes x,ZEz,<-f,Zi1 (ZEF o) t]
  cases n with
  |zero=>omega
  |succ n=>
   have⟨g,J,u,B,F⟩:=ZF7 d.After.l (P.map (·.Id)++x::r)<|x::r;have m:(P++[d]).map (·.Id)++(r++g)=P.map (·.Id)++x::r++g:=by simp[f]
   have⟨Q,D,A,E,C,w,H⟩:=ZG0 s o q z c n (P++[d]) (r++g) (by simp;omega)
    (λe p=>by
     rcases ZSQ.1 p with h|h
     .exact hP e h
     .rw[ZSL.1 h];exact b)
    (by rw[m];exact F hn)
    (λy a=>by
     rcases ZSQ.1 a with h|h
     .exact hL y<|ZT4 _ h
     .exact ZHn o b<|u y h)
    (λy a=>by
     rw[m]at a;rcases ZSQ.1 a with h|h
     .exact hR y h
     .exact Reach.step c x y d (hR x<|by simp) b f<|u y h)
    (λe p y a=>by
     rw[m];rcases ZSQ.1 p with h|h
     .exact ZTM _<|hA e h y a
     .rw[ZSL.1 h]at a;exact B y a)
   refine⟨Q,?_,A,E,C,w,λy a=>H y<|by rw[m];exact ZTM _ a⟩
   refine Runs.step _ x r _ _ _ _ k d t G ?_ ?_ ?_ ?_
   .unfold ZEc;rw[ZSs];have:=ZTS (λd:Ga=>decide (d.Ld<0)) P;omega
   .unfold ZEd;rw[ZSs];have:=ZTS (λd:Ga=>!decide (d.Ld<0)&&d.After.l.isEmpty) P;omega
   .have:=(q.doors d b).after;simp only[ZSG];omega
   .rw[J,ZFY,ZFZ,<-m];exact D
def ZHo(s:Sta)(i:Prop' s)(w:StE s)(o:s.Bc.length<=500)(id:Str)(a:decide (Zn s id<0)=false):
 ∃Q,Runs s [id] [id] [] [] (ZEc Q) (ZEd Q)/\(Q.map (·.Id)).Nodup/\(∀d∈Q,d∈s.Bc)/\(∀d∈Q,Reach s id d.Id)/\(∀x,Reach s id x->x∈Q.map (·.Id)):=by
 rw[ZEz]at a;have⟨j,e,_,n,A⟩:=ZcU a;have⟨Q,u,q,l,r,m,B⟩:=ZG0 s i w o id s.Bc.length [] [id] (by simp) (λd c=>by cases c) (by simp) (λx b=>⟨e,ZSy n,by rw[ZSL.1 b];exact A⟩)
  (λx b=>by rw[ZSL.1 b];exact Reach.refl id) (λd c=>by cases c)
 refine⟨Q,u,q,l,r,λx b=>?_⟩
 clear a;induction b with
 |refl=>exact B id<|by simp
 |step y z d h c v g p=>
  have⟨k,f,t⟩:=ZSM.1 p;rw[<-ZFX (ZEF i) (l k f) c (t.trans v.symm)]at g;exact m k f z g
def toL(x:Str):List UInt8:=x.data.toList
def ofL(l:List UInt8):Str:=⟨l.toArray⟩
def ZER(x:Str):ofL (toL x)=x:=by unfold ofL toL;simp
def ZG1(l:List UInt8):toL (ofL l)=l:=by unfold ofL toL;simp
def ZHp{x y:Str}(h:toL x=toL y):x=y:=by rw[<-ZER x,h,ZER]
def ZEi(l:List Str):List Str:=(WD<|l.map toL).map ofL
def ZHq(l:List Str):Yk (l.map encS)=(ZEi l).map encS:=by
 have e:l.map encS=(l.map toL).map Qd:=by
  rw[ZTm];exact ZTZ λx _=>congrArg AV.str (ZER x).symm
 rw[e,D4];unfold ZEi;rw[ZTm];rfl
def ZES(l:List Str):(ZEi l).Perm l:=by
 have h:=(RS<|l.map toL).map ofL;rw[ZTm]at h;have e:l.map (ofL ∘ toL)=l:=by
  conv=>rhs;rw[<-List.map_id l]
  exact ZTZ λx _=>ZER x
 rwa[e]at h
def ltS(a b:Str):Prop:=toL a<toL b
def ZHr(l:List Str)(f:l.Nodup):(ZEi l).Pairwise ltS:=by
 have e:=D8<|l.map toL;have d:(ZEi l).Nodup:=(ZES l).nodup_iff.2 f;unfold ZEi at d⊢;rw[ZTN];rw[ZUM,ZTN]at d;refine(e.and d).imp ?_;intro a b c;unfold ltS;rw[ZG1,ZG1];refine Decidable.byContradiction λh=>c.2 ?_
 rw[List.le_antisymm (of_decide_eq_true c.1)<|List.not_lt.1 h]
def ZHs(a b:Str):lexB (ZE4 a) (ZE4 b)=true↔ltS a b:=by
 unfold ZE4 ltS toL;rw[ZEM,decide_eq_true_iff]
def ZHt{a b:Str}(h:ZE4 a=ZE4 b):a=b:=by
 unfold ZE4 at h;apply ZHp;unfold toL;have:∀x y:List UInt8,(x.map λb=>(b.toNat:Int))=(y.map λb=>(b.toNat:Int))->x=y:=by
  intro x;induction x with
  |nil=>intro y h;cases y with
   |nil=>rfl
   |cons=>simp at h
  |cons a r d=>intro y h;cases y with
   |nil=>simp at h
   |cons c t=>
    simp only[ZSx,List.cons.injEq]at h;have e:a=c:=UInt8.toNat_inj.1<|by omega
    rw[d t h.2,e]
 exact this _ _ h
def gK(e:Endz):List Int×AV:=(ZE4 e.Id,e.enc)
def ZEy(x:Endz):List Endz->List Endz
 |[]=>[x]
 |y::r=>bif lexB (ZE4 x.Id) (ZE4 y.Id)then x::y::r else y::ZEy x r
def ZEj:List Endz->List Endz
 |[]=>[]
 |x::r=>ZEy x<|ZEj r
def ZG2(x:Endz):∀l:List Endz,ZvI (gK x) (l.map gK)=(ZEy x l).map gK
 |[]=>rfl
 |y::r=>by
  rw[ZSx];unfold ZvI ZEy;rw[show lexB (gK x).1 (gK y).1=lexB (ZE4 x.Id) (ZE4 y.Id)from rfl]
  cases lexB (ZE4 x.Id) (ZE4 y.Id)with
  |true=>rfl
  |false=>simp only[cond_false,ZG2 x r,ZSx]
def ZF8:∀l:List Endz,ZvN (l.map gK)=(ZEj l).map gK
 |[]=>rfl
 |x::r=>by
  rw[ZSx];unfold ZvN ZEj;rw[ZF8 r,ZG2]
def ZG3(x:Endz):∀l,(ZEy x l).Perm (x::l)
 |[]=>.refl _
 |y::r=>by
  unfold ZEy;cases lexB (ZE4 x.Id) (ZE4 y.Id)with
  |true=>exact .refl _
  |false=>exact((ZG3 x r).cons y).trans (.swap x y r)
def ZF9:∀l,(ZEj l).Perm l
 |[]=>.refl _
 |x::r=>(ZG3 x<|ZEj r).trans ((ZF9 r).cons x)
def ZG4:∀l:List Endz,keysOf ZEf (l.map Endz.enc)=some (l.map gK)
 |[]=>rfl
 |x::r=>by
  rw[ZSx,ZSx];unfold keysOf;rw[ZG4 r];rfl
def ZFa:∀l:List Endz,(l.map (·.Id)).Nodup->ZvJ (l.map gK)=true
 |[],_=>rfl
 |x::r,h=>by
  rw[ZSx,ZT8]at h;rw[ZSx];unfold ZvJ;rw[ZFa r h.2,ZSW,ZSw];intro y a;obtain⟨z,b,rfl⟩:=ZSM.1 a;have:((gK x).1==(gK z).1)=false:=by
   rw[beq_eq_false_iff_ne];intro e;exact h.1<|ZSM.2 ⟨z,b,(ZHt e).symm⟩
  rw[this];rfl
def ZHu(l:List Endz)(h:(l.map (·.Id)).Nodup):(ZEj l).Pairwise λa b=>ltS a.Id b.Id:=by
 have c:=ZwI (l.map gK)<|ZFa l h;rw[ZF8,ZTN]at c;exact c.imp λ{a b}hab=>(ZHs a.Id b.Id).1 hab
def ZET:∀l:List Str,Z4 (l.map encS)=true
 |[]=>rfl
 |x::r=>by rw[ZSx];unfold Z4;rw[ZET r];rfl
def ZEU:∀l:List Endz,Z4 (l.map Endz.enc)=true
 |[]=>rfl
 |x::r=>by rw[ZSx];unfold Z4;rw[ZEU r];rfl
def ZFb(l:List Str)(d:l.length<=1000):ZE7 44 [ZEa 44] 1 (l.map encS)=some ((ZEi l).map encS):=by
 unfold ZE7 ZEa;have a:(l.map encS).all WB=true:=by rw[ZSw];intro x b;obtain⟨y,_,rfl⟩:=ZSM.1 b;rfl
 have c:Nat.ble (l.map encS).length 1000000=true:=ZTn<|by rw[ZSs];omega
 simp only[a,c,ZHq];rfl
def ZG5(l:List Endz)(f:l.length<=1000)(e:(l.map (·.Id)).Nodup):ZEe 46 3 ZEf [ZEa 46] 3 (l.map Endz.enc)=some ((ZEj l).map Endz.enc):=by
 unfold ZEe ZEa;have d:(l.map Endz.enc).all Zwl=true:=by rw[ZSw];intro x a;obtain⟨y,_,rfl⟩:=ZSM.1 a;rfl
 have b:Nat.ble (l.map Endz.enc).length 1000000=true:=ZTn<|by rw[ZSs];omega
 have c:(l.map Endz.enc).all (fits 3)=true:=by rw[ZSw];intro x a;obtain⟨y,_,rfl⟩:=ZSM.1 a;rfl
 simp only[ZG4,d,b,c,ZEU,ZFa l e,ZF8,ZTm];rfl
def ZEk(d:Ga):Endz:=⟨d.Id,d.Why,d.Ld⟩
structure IsFate(s:Sta)(id:Str)(D:List Str)(E:List Endz):Prop where
 dn:D.Nodup
 ds:D.Pairwise ltS
 es:E.Pairwise λa b=>ltS a.Id b.Id
 dm:∀x,x∈D↔∃d∈s.Bc,d.Id=x/\d.Ld<0/\Reach s id d.Id
 em:∀e,e∈E↔∃d∈s.Bc,e=ZEk d/\¬d.Ld<0/\d.After.l=[]/\Reach s id d.Id
 dl:D.length<=500
 el:E.length<=500
def ZHv(s:Sta)(r:Jx s=true)(w:StE s)(B:s.Bc.length<=500)(id:Str)(k:decide (Zn s id<0)=false):∃D E,pfn rE 17 [stA s,.str id]=some (.tup [ftA false false D E,I 0])/\IsFate s id D E:=by
 have m:=((Zdb s).1 r).1;have⟨Q,u,o,i,p,A⟩:=ZHo s m w B id k;have N:Q.length<=500:=by
  have:=ZF6 (Q.map (·.Id)) (s.Bc.map (·.Id)) o (λx z=>by obtain⟨d,a,rfl⟩:=ZSM.1 z;exact ZTv<|i d a)
  simp only[ZSs]at this;omega
 have g:∀d,d∈Q↔d∈s.Bc/\Reach s id d.Id:=λd=>⟨λh=>⟨i d h,p d h⟩,λ⟨j,b⟩=>by
  have⟨J,c,f⟩:=ZSM.1<|A _ b
  rwa[<-ZFX (ZEF m) (i J c) j f]⟩
 have H:ZEc Q=((Q.filter λd=>decide (d.Ld<0)).map (·.Id)).map encS:=by unfold ZEc;rw[ZTm];rfl
 have G:ZEd Q=((Q.filter λd=>!decide (d.Ld<0)&&d.After.l.isEmpty).map ZEk).map Endz.enc:=by unfold ZEd;rw[ZTm];rfl
 have v:((Q.filter λd=>decide (d.Ld<0)).map (·.Id)).Nodup:=o.sublist<|(List.filter_sublist).map _
 have t:(((Q.filter λd=>!decide (d.Ld<0)&&d.After.l.isEmpty).map ZEk).map (·.Id)).Nodup:=by
  rw[ZTm];exact o.sublist<|(List.filter_sublist).map _
 have F:((Q.filter λd=>decide (d.Ld<0)).map (·.Id)).length<=500:=by rw[ZSs];have:=ZTS (λd:Ga=>decide (d.Ld<0)) Q;omega
 have K:((Q.filter λd=>!decide (d.Ld<0)&&d.After.l.isEmpty).map ZEk).length<=500:=by rw[ZSs];have:=ZTS (λd:Ga=>!decide (d.Ld<0)&&d.After.l.isEmpty) Q;omega
 have y:∀x,x∈((Q.filter λd=>decide (d.Ld<0)).map (·.Id))↔∃d∈s.Bc,d.Id=x/\d.Ld<0/\Reach s id d.Id:=λx=>by
  rw[ZSM];constructor
  .rintro⟨d,a,rfl⟩;rw[ZTJ]at a;exact⟨d,i d a.1,rfl,of_decide_eq_true a.2,p d a.1⟩
  .rintro⟨d,j,b,c,f⟩;exact⟨d,ZTJ.2 ⟨(g d).2 ⟨j,f⟩,decide_eq_true c⟩,b⟩
 have L:∀e,e∈((Q.filter λd=>!decide (d.Ld<0)&&d.After.l.isEmpty).map ZEk)↔∃d∈s.Bc,e=ZEk d/\¬d.Ld<0/\d.After.l=[]/\Reach s id d.Id:=λe=>by
  rw[ZSM];constructor
  .rintro⟨d,a,rfl⟩;simp only[ZTJ,ZSq,ZSP,decide_eq_false_iff_not,ZTY]at a;exact⟨d,i d a.1,rfl,a.2.1,a.2.2,p d a.1⟩
  .rintro⟨d,j,b,c,f,M⟩;refine⟨d,?_,b.symm⟩;simp only[ZTJ,ZSq,ZSP,decide_eq_false_iff_not,ZTY];exact⟨(g d).2 ⟨j,M⟩,c,f⟩
 rw[H,G]at u;generalize(Q.filter λd=>decide (d.Ld<0)).map (·.Id)=D0 at*
 generalize(Q.filter λd=>!decide (d.Ld<0)&&d.After.l.isEmpty).map ZEk=E0 at*
 have C:pfn rE 40 [stA s,.str id]=some (I 0):=by
  rw[ZPY s w id];unfold ZEb;rw[r,k];rfl
 have n:=ZES D0;have q:=ZF9 E0;refine⟨ZEi D0,ZEj E0,?_,n.nodup_iff.2 v,ZHr D0 v,ZHu E0 t,λx=>by rw[n.mem_iff,y],λe=>by rw[q.mem_iff,L],by rw[n.length_eq];exact F,by rw[q.length_eq];exact K⟩
 exact ZFW s id _ _ _ _ C u (ZFb D0<|by omega) (ZG5 E0 (by omega) t) (by simp[n.length_eq]) (by simp[q.length_eq]) (ZET _)<|ZEU _
def ZFi(s:Sta)(c:StE s)(id:Str)(h:ZEb s id≠0):pfn rE 17 [stA s,.str id]=some (.tup [ftA false false [] [],I<|ZEb s id]):=by
 have a:=ZPY s c id;simp only[stA]at a;have b:(ZEb s id != 0)=true:=by rw[bne_iff_ne];exact h
 rw[Z5 (f:=17) rfl rfl];generalize ZEb s id=e at a b⊢;simp only[go_sem,c17,stA,a,b,ftA,List.map]
def Zn6{l:List Str}{v:Str}:hasB l v=true↔v∈l:=by
 unfold hasB;rw[ZSP,<-ZTX,Zda];constructor
 .intro h;refine Classical.byContradiction λa=>h λj x b=>?_
  cases c:Z3 x v with
  |false=>rfl
  |true=>exact absurd ((Ky _ _).1 c▸ZSy b) a
 .intro h e;have⟨j,d⟩:=ZTR h;have:=e j v d;rw[(Ky v v).2 rfl]at this;cases this
def ZGg{a b:Endz}:ZEq a b=true↔a=b:=by
 unfold ZEq;rw[ZSq,ZSq,Ky,beq_iff_eq,beq_iff_eq];constructor
 .rintro⟨c,e,d⟩;cases a;cases b;simp_all
 .rintro rfl;exact⟨rfl,rfl,rfl⟩
def ZJ2{l:List Endz}{v:Endz}:ZIL l v=true↔v∈l:=by
 unfold ZIL;rw[ZSP,<-ZTX,Zda];constructor
 .intro h;refine Classical.byContradiction λa=>h λj x b=>?_
  cases c:ZEq x v with
  |false=>rfl
  |true=>exact absurd (ZGg.1 c▸ZSy b) a
 .intro h e;have⟨j,d⟩:=ZTR h;have:=e j v d;rw[ZGg.2 rfl]at this;cases this
end Go.AM
namespace Go.AM
open Go
def Zwa(a b:Int):Int:=bif decide (a<b)then -1 else bif decide (a>b)then 1 else 0
def orL:List Int->Int
 |[]=>0
 |a::r=>bif a != 0 then a else orL r
def Zyp:∀a b:List Int,a.length=b.length->orL (List.zipWith Zwa a b)=cmpL a b
 |[],[],_=>rfl
 |[],_::_,h=>by cases h
 |_::_,[],h=>by cases h
 |a::r,b::s,h=>by
  have g:=Zyp r s<|by simpa using h
  have i:lexB (a::r) (b::s)=(decide (a<b)||(a==b&&lexB r s)):=rfl;have f:lexB (b::s) (a::r)=(decide (b<a)||(b==a&&lexB s r)):=rfl;rw[List.zipWith_cons_cons,orL,g];unfold cmpL Zwa;rw[i,f];by_cases d:a<b
  .simp[d]
  .by_cases e:b<a
   .have c:(a==b)=false:=by simpa using(by omega:¬a=b)
    simp[d,e,c]
   .have c:a=b:=by omega
    subst c;simp
def Zyq(a:Int):pfn e0 124 [I a]=some (.bool false):=by
 have b:(a != a)=false:=by simp
 rw[Z5 (f:=124) rfl rfl];simp only[go_sem,c124,b]
def Zwb(a b:Int):pfn e0 68 [I a,I b]=some (I<|Zwa a b):=by
 have d:=Zyq a;have e:=Zyq b;unfold Zwa;rw[Z5 (f:=68) rfl rfl];cases c:decide (a<b)with
 |true=>simp only[go_sem,c68,d,e,c]
 |false=>cases g:decide (a>b)<;>simp only[go_sem,c68,d,e,c,g]
def ZA7(l:List Int)(t:l.length<=1000):pfn e0 67 [Iy 1<|l.map I]=some (I<|orL l):=by
 have⟨e,fr',h',L,p,r⟩:=Z9Y (E:=e0) (live:=[3,6,7,8]) (b:=c67L0b) l.length
  (λi fr h=>fr=[(3,I 0),(6,Iy 1<|l.map I),(7,I l.length),(8,I i)]/\h=[]/\orL l=orL (l.drop i))
  (λe fr h=>h=[]/\((e=.exit 0/\get fr 3=I 0/\orL l=0)\/(e=.ret/\get fr 2=I (orL l))))
  (λi fr h m=>by obtain⟨rfl,_,_⟩:=m;rfl)
  (λi fr h j m=>by
   obtain⟨rfl,rfl,a⟩:=m;obtain⟨x,k⟩:∃x,l[i]?=some x:=⟨_,ZSu j⟩;have o:=Z6 (f:=I) k;have d:=Zh j;have g:=Zx (n:=i)<|by omega
   have s:l.drop i=x::l.drop (i+1):=by
    rw[ZTD j,(ZSA.1 k).2]
   rw[s,orL]at a;cases c:x != 0 with
   |true=>
    rw[c,cond_true]at a;refine Or.inr ⟨.ret,_,[],by simp only[go_sem,c67L0b,o,d,c];rfl,by simp,rfl,Or.inr ⟨rfl,?_⟩⟩
    rw[a];simp only[go_sem]
   |false=>
    rw[c,cond_false]at a;refine Or.inl ⟨_,[],by simp only[go_sem,c67L0b,o,d,g,c];rfl,?_,rfl,a⟩
    simp only[go_sem])
  (λfr h m=>by
   obtain⟨rfl,rfl,a⟩:=m;rw[List.drop_length]at a;refine⟨.exit 0,_,[],by simp only[go_sem,c67L0b,ZG];rfl,by simp,rfl,Or.inl ⟨rfl,?_,a⟩⟩
   simp only[go_sem])
  l.length 0 [(3,I 0),(6,Iy 1<|l.map I),(7,I l.length),(8,.int .i64 0)] [] (by omega) ⟨rfl,rfl,rfl⟩
 subst p;rw[Z5 (f:=67) rfl rfl];rcases r with⟨rfl,q,a⟩|⟨rfl,h2⟩
 .simp only[go_sem,c67,c67L0,L,q,a]
 .simp only[go_sem,c67,c67L0,L,h2]
def Zyr{a:List AV}{x:AV}{k:List Int}(h:ZvF a x=some k):∃bw j ex vs,a=[.iptr bw [.isl j ex 8 vs]]/\∃(i kk:Nat)(l o b w c:Int)(z:Str)(B f q e v d:Bool)(r u:Nat)(es s p cs:List AV)(A:AV),
 x=.agg [I i,I kk]/\vs[i]?=some (.agg [I l,I o,I b,.str z,.isl B f 18 es,I w,.isl q e r s,.isl v d u p])/\es[kk]?=some (.agg<|A::I c::cs)/\k=[c,b,l,o,(kk:Int)]:=by
 unfold ZvF at h;split at h
 .rename_i bw j ex vs i kk;cases g:decide (0<=i)&&decide (0<=kk)with
  |false=>rw[g]at h;cases h
  |true=>
  rw[g,cond_true]at h;simp only[ZSq,decide_eq_true_eq]at g;obtain⟨n,rfl⟩:∃n:Nat,i=n:=⟨i.toNat,by omega⟩
  obtain⟨m,rfl⟩:∃m:Nat,kk=m:=⟨kk.toNat,by omega⟩
  simp only[ZVc]at h;split at h
  .rename_i y;split at h
   .rename_i t;cases h;exact⟨_,_,_,_,rfl,n,m,_,_,_,_,_,_,_,_,_,_,_,_,_,_,_,_,_,_,_,rfl,y,t,rfl⟩
   .cases h
  .cases h
 .cases h
def ZA8(a:List AV)(x y:AV)(t w:List Int)(A:ZvF a x=some t)(hy:ZvF a y=some w):∃h',fnV e0 66 ([x,y]++a) []=some (.int .i64<|cmpL t w,h'):=by
 obtain⟨bw,b2,ex,vs,rfl,i,k,n,o,g,n5,h,s3,b3,ab,b6,R,b7,N,z6,z7,es,l6,l7,cs,e1,rfl,X,G,rfl⟩:=Zyr A;obtain⟨O,H,ex',W,l,i',j,c,e,d,C,b,ad,Q,u,aa,s,J,v,ac,T,es',S,K,L,Z,rfl,m,p,rfl⟩:=Zyr hy;cases l;have P:=Zwb h b;have E:=Zwb g d;have U:=Zwb n c;have F:=Zwb o e;have B:=Zwb (k:Int) (j:Int);have q:=ZA7 (List.zipWith Zwa [h,g,n,o,(k:Int)] [b,d,c,e,(j:Int)])<|by simp
 have z:=Zyp [h,g,n,o,(k:Int)] [b,d,c,e,(j:Int)] rfl;rw[z]at q;clear z;simp only[List.zipWith_cons_cons,List.zipWith_nil_right,ZSx,ZSS]at q;generalize cmpL _ _=r at*;have D:((0:Int)<=0/\(0:Int)<((2:Nat):Int))=True:=by simp
 have Y:((0:Int)<=1/\(1:Int)<((2:Nat):Int))=True:=by simp
 have M:Int.toNat 0*1=0:=rfl;have V:Int.toNat 1*1=1:=rfl;rw[Q6 (f:=66) rfl rfl];refine⟨_,by simp only[go_sem,c66,ZSv,ZSz,X,G,m,p,P,E,U,F,B,q,D,Y,M,V,if_true];rfl⟩
variable [REdz]
structure Ver where
 Mv:Int
 An:Int
 At:Int
 Prev:Str
 bc:NL Gt
 Index:Int
 Sig:NL Str
 Path:NL Str
def Ver.enc(v:Ver):AV:=.agg [I v.Mv,I v.An,I v.At,.str v.Prev,.isl false v.bc.ex 18<|v.bc.l.map evA,I v.Index,.isl false v.Sig.ex 1<|v.Sig.l.map encS,.isl false v.Path.ex 1<|v.Path.l.map encS]
abbrev vsA(l:NL Ver):AV:=.isl false l.ex 8<|l.l.map Ver.enc
def plA(p:Int×Int):AV:=.agg [I p.1,I p.2]
def Zvh(p q:Int×Int):Bool:=p.1==q.1&&(p.2==q.2&&true)
def Zys(x y:Int×Int):Zz true [1,1] (plA x) (plA y)=some (Zvh x y):=by
 unfold plA Zvh;simp only[go_sem]
def prA(p:Nat×Nat):AV:=.agg [I p.1,I p.2]
def ZvS(v:Ver)(a:Int)(k:Nat):Bool:=match v.bc.l[k]? with|some e=>decide (e.Day<=a)|none=>false
def Zr4(v:Ver)(a:Int)(i n:Nat):List (Nat×Nat):=((List.range n).filter (ZvS v a)).map (λk=>(i,k))
def Zvn(l:List Ver)(i:Nat):List (Int×Int):=(l.take i).foldl (λK v=>Qi Zvh K (v.Mv,v.An)) []
def Zvl(l:List Ver)(a:Int)(i:Nat)(v:Ver):Bool:=!((Zvn l i).any (Zvh (v.Mv,v.An)))&&!decide (v.At>a)
def Zr7(l:List Ver)(a b:Int):Nat->List (Nat×Nat)
 |0=>[]
 |i+1=>Zr7 l a b i++(match l[i]? with|some v=>bif Zvl l b i v then Zr4 v a i v.bc.l.length else []|none=>[])
abbrev Zvq(V:NL Ver)(bq bp:Int):Fr:=[(3,.iptr false [vsA V]),(6,Iy 2 []),(7,.ptr 1 0 0 1),(12,.clo (.func 121) [] [.iptr false [vsA V],.iptr false [I bp],.iptr false [I bq]])]
abbrev hiH(V:NL Ver)(bq bp:Int)(es:List AV)(K:List<|Int×Int):Hp:=[.row 2 es,.row 1 [.sl 0 es.length 0 es.length false],.loop .ready .normal (Zvq V bq bp) [13] c37R0a c37R0b,.map (K.map plA)<|ZO K.length]
def ZA9(es:List AV)(x:AV)(a:fits 2 x=true)(c:es.length<=100000)(r:List AObj):appW (.row 2 es::r) false 2 16 (.sl 0 es.length 0 es.length false) (Iy 2 [x])=some (.sl 0 (es.length+1) 0 (es.length+1) false,.row 2 (es++[x])::r):=by
 have:=XC (h:=.row 2 es::r) (fz:=false) (b:=0) (g:=es.length) (sz:=2) (bytes:=16) (es:=es) (bw:=false) (ex:=false) (ys:=[x]) (by simp[rowAt]) rfl (by simp[a]) (by decide) (by decide) (by simp;omega)
 rw[this];rfl
def ZAa(V:NL Ver)(d c:Int)(es:List AV)(K:List<|Int×Int)(i k:Nat)(l j f:AObj)(w:∀n,Zj n l=true)(A:∀n,Zj n j=true)(x:∀n,Zj n f=true)(y:Z4 es=true)(z:es.length<=100000):
 U4 rE 2 [.agg [I i,I k]] (hiH V d c es K++[l,j,f])=some (.bool true,hiH V d c (es++[prA (i,k)]) K++[l,j,f,.row 2 [.agg [I i,I k]]]):=by
 have v:=λr=>ZA9 es (.agg [I i,I k]) rfl z r
 have u:∀n,Zd n es=true:=λn=>ZN _ y
 have m:∀n,Zd n (es++[.agg [I i,I k]])=true:=λn=>by rw[Z0T,u];rfl
 have p:∀n,Zd n (K.map plA)=true/\Zd n (ZO K.length)=true:=λn=>⟨ZN _<|Zw (λt=>rfl) K,ZN _<|Ut _⟩
 have o:∀n,2<=n->Zd n (frV<|Zvq V d c)=true:=λn C=>by
  have:Nat.blt 1 n=true:=by simp;omega
  simp only[go_sem,this]
 have B:=o 8<|by decide
 have q:∀n,Zj n (.row 2 [.agg [I i,I k]])=true:=λn=>rfl
 have h:=Ss (E:=rE) (b:=2) (a:=[.agg [I i,I k]]) (h:=hiH V d c es K++[l,j,f]) (fr:=Zvq V d c) (ps:=[13]) (assign:=c37R0a) (body:=c37R0b)
  (g:=(13,.agg [I i,I k])::Zvq V d c) rfl rfl (by simp only[go_sem,c37R0a,hiH,Zvq];rfl) (by rfl)
  (e:=.normal) (t:=[]) (s:=[.row 2<|es++[.agg [I i,I k]],.row 1 [.sl 0 (es.length+1) 0 (es.length+1) false],.loop .busy .normal (Zvq V d c) [13] c37R0a c37R0b,.map (K.map plA)<|ZO K.length,l,j,f,.row 2 [.agg [I i,I k]]])
  (by
   show Zb rE c37R0b [(8,.ptr 7 0 0 1),(13,.agg [I i,I k]),(3,.iptr false [vsA V]),(6,Iy 2 []),(7,.ptr 1 0 0 1),(12,.clo (.func 121) [] [.iptr false [vsA V],.iptr false [I c],.iptr false [I d]])]
    [.row 2 es,.row 1 [.sl 0 es.length 0 es.length false],.loop .busy .normal (Zvq V d c) [13] c37R0a c37R0b,.map (K.map plA)<|ZO K.length,l,j,f,.row 2 [.agg [I i,I k]]]=_
   simp only[go_sem,c37R0b,v,m,p,w,A,x,q]) (by rfl)
 rw[h];simp only[hiH,ZSJ,ZTT];rfl
abbrev hiF(V:NL Ver)(bq bp:Int)(v:Ver)(i k:Nat):Fr:=[(0,.yld 2),(2,.iptr false [I bp]),(3,.iptr false [I bq]),(5,.mp 3),(6,I i),(13,vsA V),(14,I V.l.length),(15,I i),(40,.isl false v.bc.ex 18<|v.bc.l.map evA),(41,I v.bc.l.length),(42,I k)]
def ZAb(v:Ver)(a:Int)(i k:Nat){e:Gt}(b:v.bc.l[k]?=some e):Zr4 v a i (k+1)=Zr4 v a i k++(bif decide (e.Day<=a)then [(i,k)]else []):=by
 unfold Zr4;rw[List.range_succ,ZUO,ZSF];congr 1;have h:ZvS v a k=decide (e.Day<=a):=by unfold ZvS;rw[b]
 rw[List.filter_cons,h];cases decide (e.Day<=a)<;>rfl
def ZwW(e:Gt):Z4 [evA e]=true:=by
 have b:Z4 (e.Ids.l.map encS)=true:=Zw (λt=>rfl) _
 have d:Z4 (e.bm.l.map Nm.enc)=true:=Zw (λt=>rfl) _
 have c:Z4 (e.Path.l.map Pt.enc)=true:=Zw (λt=>rfl) _
 have a:Z4 (e.Lst.l.map Ent.enc)=true:=Zw (λt=>rfl) _
 simp only[go_sem]
def ZAc(V:NL Ver)(a d:Int)(v:Ver)(i:Nat)(R:V.l[i]?=some v)(L:List<|Nat×Nat)(K:List<|Int×Int)(o j:AObj)(y:∀n,Zj n o=true)(z:∀n,Zj n j=true)(S:L.length+v.bc.l.length<=10000):
 Zg rE [0,2,3,5,6,13,14,15,40,41,42] c121L0b (hiF V a d v i 0) (hiH V a d (L.map prA) K++[o,j]) =
  some (.exit 2,hiF V a d v i v.bc.l.length,hiH V a d ((L++Zr4 v a i v.bc.l.length).map prA) K++[o,j]):=by
 have u:∀k,(Zr4 v a i k).length<=k:=λk=>by
  unfold Zr4;rw[ZSs];exact ZTa (ZTS _ _)<|by simp
 have q:∀n,Zd n (K.map plA)=true/\Zd n (ZO K.length)=true:=λn=>⟨ZN _<|Zw (λt=>rfl) K,ZN _<|Ut _⟩
 have g:∀n,2<=n->Zd n (frV<|Zvq V a d)=true:=λn T=>by
  have:Nat.blt 1 n=true:=by simp;omega
  simp only[go_sem,this]
 have w:∀(M:List<|Nat×Nat)n,Zd n (M.map prA)=true:=λM n=>ZN _<|Zw (λt=>rfl) M
 have F:=Y8 (E:=rE) (live:=[0,2,3,5,6,13,14,15,40,41,42]) (b:=c121L0b) v.bc.l.length (λk=>hiF V a d v i k) (λk=>hiH V a d ((L++Zr4 v a i k).map prA) K++[o,j]) (λk=>rfl)
  (λk H=>by
   obtain⟨e,D⟩:∃e,v.bc.l[k]?=some e:=⟨_,ZSu H⟩;have G:=Z6 (f:=λe=>evA e) D
   have r:=Zh H;have s:=Zx (n:=k)<|by omega
   have p:∀n,Zj n (.row 18 [evA e])=true:=λn=>ZN (n:=n) [evA e]<|ZwW e
   have O:∀n,Zj n (.row 2 [.agg [I i,I k]])=true:=λn=>rfl
   have Q:=λm=>g m
   rw[ZAb v a i k D];have J:=ZAa V a d ((L++Zr4 v a i k).map prA) K i k o j (.row 18 [evA e]) y z p (Zw (λt=>rfl) _) (by rw[ZSs,ZSJ];have:=u k;omega)
   have P:=g 6<|by decide
   have U:=g 7<|by decide
   have x:=w<|L++Zr4 v a i k;refine⟨hiF V a d v i<|k+1,?_,rfl⟩;show Zb rE c121L0b (hiF V a d v i k) (hiH V a d ((L++Zr4 v a i k).map prA) K++[o,j])=some (.normal,hiF V a d v i<|k+1,hiH V a d ((L++(Zr4 v a i k++(bif decide (e.Day<=a)then [(i,k)]else []))).map prA) K++[o,j])
   have A:(L++(Zr4 v a i k++[(i,k)])).map prA=(L++Zr4 v a i k).map prA++[prA (i,k)]:=by simp
   have B:∀n,Zd n ((L++Zr4 v a i k).map prA++[prA (i,k)])=true:=λn=>by rw[Z0T,x];rfl
   generalize C:(L++Zr4 v a i k).map prA=es at*;simp only[hiH,ZSv,ZSz]at J;cases c:decide (e.Day<=a)with
   |false=>
    rw[cond_false,ZSC,C];simp only[go_sem,c121L0b,hiF,hiH,ZSv,ZSz,G,r,s,c,x,q,y,z,p]
   |true=>
    rw[cond_true,A];simp only[go_sem,c121L0b,hiF,hiH,ZSv,ZSz,S3,G,r,s,c,J,x,B,q,y,z,p])
  (e:=.exit 2) (fr:=hiF V a d v i v.bc.l.length) (h:=hiH V a d ((L++Zr4 v a i v.bc.l.length).map prA) K++[o,j]) (by
   have x:=w<|L++Zr4 v a i v.bc.l.length;have P:=g 6<|by decide
   simp only[go_sem,c121L0b,hiF,hiH,ZSv,ZSz,ZG,x,q,y,z]) (by simp)
 have N:L++Zr4 v a i 0=L:=by simp[Zr4]
 rw[N]at F;exact F
def Zyt(v:Ver):Z4 [v.enc]=true:=by
 have a:Z4 (v.bc.l.map<|λe=>evA e)=true:=Zw (λt=>by have:=ZwW t;unfold Z4 at this;rw[ZSq]at this;exact this.1) _
 have c:Z4 (v.Sig.l.map encS)=true:=Zw (λt=>rfl) _
 have b:Z4 (v.Path.l.map encS)=true:=Zw (λt=>rfl) _
 unfold Ver.enc;simp only[go_sem]
structure VsS(V:NL Ver):Prop where
 len:V.l.length<=100
 evs:∀v∈V.l,v.bc.l.length<=50
def Zyu(v:Ver)(a:Int)(i n:Nat):(Zr4 v a i n).length<=n:=by
 unfold Zr4;rw[ZSs];exact ZTa (ZTS _ _)<|by simp
def ZwX{V:NL Ver}(c:VsS V)(a b:Int):∀i,(Zr7 V.l a b i).length<=i*50
 |0=>ZSr _
 |i+1=>by
  have g:=ZwX c a b i;unfold Zr7;rw[ZSJ,ZTo];have:(match V.l[i]? with|some v=>bif Zvl V.l b i v then Zr4 v a i v.bc.l.length else []|none=>[]).length<=50:=by
   cases d:V.l[i]? with
   |none=>exact ZSt _
   |some v=>
    have f:=Zyu v a i v.bc.l.length;have e:=c.evs v<|ZSy d;show(bif Zvl V.l b i v then Zr4 v a i v.bc.l.length else []).length<=50
    cases Zvl V.l b i v with
    |true=>rw[cond_true];omega
    |false=>exact ZSt _
  omega
abbrev hoF(V:NL Ver)(bq bp:Int)(i:Nat):Fr:=[(0,.yld 2),(2,.iptr false [I bp]),(3,.iptr false [I bq]),(5,.mp 3),(13,vsA V),(14,I V.l.length),(15,I i)]
def ZAd(V:NL Ver)(c a:Int)(B:VsS V):
 Zg rE [0,2,3,5,13,14,15] c121L1b (hoF V c a 0) (hiH V c a [] []) =
  some (.exit 0,hoF V c a V.l.length,hiH V c a ((Zr7 V.l c a V.l.length).map prA)<|Zvn V.l V.l.length):=by
 have F:=B.len;have j:∀n,2<=n->Zd n (frV<|Zvq V c a)=true:=λn W=>by
  have:Nat.blt 1 n=true:=by simp;omega
  simp only[go_sem,this]
 have r:∀(M:List<|Nat×Nat)n,Zd n (M.map prA)=true:=λM n=>ZN _<|Zw (λt=>rfl) M
 have q:∀(K:List<|Int×Int)n,Zd n (K.map plA)=true/\Zd n (ZO K.length)=true:=λK n=>⟨ZN _<|Zw (λt=>rfl) K,ZN _<|Ut _⟩
 have U:=j 4<|by decide
 have T:=j 5<|by decide
 have X:=j 6<|by decide
 have S:=Y8 (E:=rE) (live:=[0,2,3,5,13,14,15]) (b:=c121L1b) V.l.length (λi=>hoF V c a i) (λi=>hiH V c a ((Zr7 V.l c a i).map prA)<|Zvn V.l i) (λi=>rfl)
  (λi D=>by
   obtain⟨v,w⟩:∃v,V.l[i]?=some v:=⟨_,ZSu D⟩;have N:=ZSy w;have A:=Z6 (f:=Ver.enc) w;have k:=Zh D;have m:=Zx (n:=i)<|by omega
   have d:∀n,Zj n (.row 8 [v.enc])=true:=λn=>ZN (n:=n) [v.enc]<|Zyt v
   have g:∀n,Zj n (.row 2 [.agg [I v.Mv,I v.An]])=true:=λn=>rfl
   have Q:Zvn V.l (i+1)=Qi Zvh (Zvn V.l i) (v.Mv,v.An):=by
    unfold Zvn;exact Us _ _ w
   have R:=ZwX B c a i;have P:=B.evs v N;have J:Zr7 V.l c a (i+1)=Zr7 V.l c a i++(bif Zvl V.l a i v then Zr4 v c i v.bc.l.length else []):=by
    conv=>lhs;unfold Zr7
    rw[w]
   have C:i*50<=5000:=by omega
   have p:=ZAc V c a v i w (Zr7 V.l c a i) (Qi Zvh (Zvn V.l i) (v.Mv,v.An)) (.row 8 [v.enc]) (.row 2 [.agg [I v.Mv,I v.An]]) d g<|by omega
   refine⟨hoF V c a<|i+1,?_,rfl⟩;show Zb rE c121L1b (hoF V c a i) (hiH V c a ((Zr7 V.l c a i).map prA)<|Zvn V.l i)=some (.normal,hoF V c a<|i+1,hiH V c a ((Zr7 V.l c a<|i+1).map prA)<|Zvn V.l<|i+1)
   rw[Q,J];unfold Zvl;have x:=r<|Zr7 V.l c a i;have z:=r<|Zr7 V.l c a i++Zr4 v c i v.bc.l.length;have u:=q<|Qi Zvh (Zvn V.l i) (v.Mv,v.An);have o:=q<|Zvn V.l i;generalize Zr7 V.l c a i=L at*;generalize Zvn V.l i=K at*;have s:=H5 (ag:=true) (kk:=[1,1]) (enc:=plA) (eq:=Zvh) Zys K (v.Mv,v.An) (h:=[.row 2<|L.map prA,.row 1 [.sl 0 (L.map prA).length 0 (L.map prA).length false],.loop .ready .normal (Zvq V c a) [13] c37R0a c37R0b,.map (K.map plA)<|ZO K.length,.row 8 [v.enc],.row 2 [.agg [I v.Mv,I v.An]]]) (b:=3) rfl;have y:=Ur (ag:=true) (kk:=[1,1]) (enc:=plA) (eq:=Zvh) Zys K (v.Mv,v.An) (h:=[.row 2<|L.map prA,.row 1 [.sl 0 (L.map prA).length 0 (L.map prA).length false],.loop .ready .normal (Zvq V c a) [13] c37R0a c37R0b,.map (K.map plA)<|ZO K.length,.row 8 [v.enc],.row 2 [.agg [I v.Mv,I v.An]]]) (b:=3) rfl;simp only[hiF,hiH,ZSv,ZSz,Ver.enc,plA,ZSs]at p s y d;have O:((0:Nat):Int)=0:=rfl;rw[O]at p;cases H:K.any (Zvh (v.Mv,v.An))with
   |true=>
    rw[H]at s;rw[ZSI,ZSO,cond_false,ZSC];simp only[go_sem,c121L1b,hoF,hiH,Ver.enc,A,k,m,s,y,x,u,o,d,g]
   |false=>
    rw[H]at s;rw[ZSK,ZSB];cases G:decide (v.At>a)with
    |true=>
     rw[ZSI,cond_false,ZSC];simp only[go_sem,c121L1b,hoF,hiH,Ver.enc,A,k,m,s,y,x,u,o,d,g,G]
    |false=>
     rw[ZSK,cond_true];simp only[go_sem,c121L1b,c121L0,hoF,hiH,Ver.enc,A,k,m,s,y,x,z,u,o,d,g,G,p])
  (e:=.exit 0) (fr:=hoF V c a V.l.length) (h:=hiH V c a ((Zr7 V.l c a V.l.length).map prA)<|Zvn V.l V.l.length) (by
   have x:=r<|Zr7 V.l c a V.l.length;have u:=q<|Zvn V.l V.l.length;simp only[go_sem,c121L1b,hoF,hiH,ZG,x,u]) (by simp)
 exact S
def Zwt{p q:Int×Int}:Zvh p q=true↔p=q:=by
 unfold Zvh;simp[Prod.ext_iff]
def ZAe(K:List<|Int×Int)(x y:Int×Int):(Qi Zvh K x).any (Zvh y)=(K.any (Zvh y)||Zvh y x):=by
 unfold Qi;cases c:K.any (Zvh x)with
 |true=>
  rw[cond_true];cases d:Zvh y x with
  |false=>rw[ZTU]
  |true=>
   have:=Zwt.1 d;subst this;rw[c];rfl
 |false=>
  rw[cond_false,ZUN];simp
def Zyv(l:List Ver)(p:Int×Int):∀(m:List Ver)(K:List<|Int×Int),(m.foldl (λK v=>Qi Zvh K (v.Mv,v.An)) K).any (Zvh p)=(K.any (Zvh p)||m.any (λw=>Zvh p (w.Mv,w.An)))
 |[],K=>by simp
 |w::m,K=>by
  rw[ZTe,Zyv l p m,ZAe,List.any_cons,Bool.or_assoc]
def Zyw(l:List Ver)(i:Nat)(p:Int×Int):(Zvn l i).any (Zvh p)=(l.take i).any (λw=>Zvh p (w.Mv,w.An)):=by
 unfold Zvn;rw[Zyv l];rfl
def evK(l:List Ver)(p:Nat×Nat):List Int:=match l[p.1]? with
 |some v=>(match v.bc.l[p.2]? with|some e=>[e.Day,v.At,v.Mv,v.An,(p.2:Int)]|none=>[])
 |none=>[]
def InL(l:List Ver)(p:Nat×Nat):Prop:=∃v e,l[p.1]?=some v/\v.bc.l[p.2]?=some e
def Zw4{l:List Ver}{p:Nat×Nat}{v:Ver}{e:Gt}(a:l[p.1]?=some v)(b:v.bc.l[p.2]?=some e):evK l p=[e.Day,v.At,v.Mv,v.An,(p.2:Int)]:=by
 unfold evK;rw[a];simp only[b]
def Zw5(l:List Ver)(x:Nat×Nat):List (Nat×Nat)->List (Nat×Nat)
 |[]=>[x]
 |y::r=>bif lexB (evK l x) (evK l y)then x::y::r else y::Zw5 l x r
def ZvG(l:List Ver):List (Nat×Nat)->List (Nat×Nat)
 |[]=>[]
 |x::r=>Zw5 l x<|ZvG l r
def kp2(l:List Ver)(p:Nat×Nat):List Int×AV:=(evK l p,prA p)
def Zyx(l:List Ver)(x:Nat×Nat):∀L:List<|Nat×Nat,ZvI (kp2 l x) (L.map<|kp2 l)=(Zw5 l x L).map (kp2 l)
 |[]=>rfl
 |y::r=>by
  rw[ZSx,ZvI,Zw5];show(bif lexB (evK l x) (evK l y)then _ else _)=_
  cases lexB (evK l x) (evK l y)with
  |true=>rfl
  |false=>rw[cond_false,cond_false,ZSx,Zyx l x r]
def ZwY(l:List Ver):∀L:List<|Nat×Nat,ZvN (L.map<|kp2 l)=(ZvG l L).map (kp2 l)
 |[]=>rfl
 |x::r=>by
  rw[ZSx,ZvN,ZwY l r,Zyx];rfl
def Zyy(l:List Ver)(x:Nat×Nat):∀L,(Zw5 l x L).Perm (x::L)
 |[]=>.refl _
 |y::r=>by
  unfold Zw5;cases lexB (evK l x) (evK l y)with
  |true=>exact .refl _
  |false=>exact((Zyy l x r).cons y).trans (.swap ..)
def Zwc(l:List Ver):∀L,(ZvG l L).Perm L
 |[]=>.refl _
 |x::r=>(Zyy l x _).trans ((Zwc l r).cons x)
def ZAf(V:NL Ver){p:Nat×Nat}(h:InL V.l p):ZvF [.iptr false [vsA V]] (prA p)=some (evK V.l p):=by
 have⟨v,e,b,a⟩:=h;rw[Zw4 b a];have d:=Z6 (f:=Ver.enc) b;have i:=Z6 (f:=λe=>evA e) a
 unfold ZvF prA;have g:decide (0<=((p.1:Nat):Int))=true:=decide_eq_true<|by omega
 have c:decide (0<=((p.2:Nat):Int))=true:=decide_eq_true<|by omega
 simp only[g,c,ZTl,cond_true,ZVc,d,Ver.enc,i]
def Zyz(V:NL Ver):∀L:List<|Nat×Nat,(∀p∈L,InL V.l p)->keysOf (ZvF [.iptr false [vsA V]]) (L.map prA)=some (L.map<|kp2 V.l)
 |[],_=>rfl
 |p::r,h=>by
  rw[ZSx,keysOf,ZAf V<|h p<|ZSV ..,Zyz V r<|λq a=>h q<|ZT4 _ a]
  rfl
def Zwu(l:List Ver)(L:List<|Nat×Nat):Prop:=L.Pairwise<|λp q=>evK l p≠evK l q
def ZyA{l:List Ver}{L:List (Nat×Nat)}(h:Zwu l L):ZvJ (L.map<|kp2 l)=true:=by
 rw[ZwH,ZTN];exact h
def ZAg(V:NL Ver)(L:List<|Nat×Nat)(j:∀p∈L,InL V.l p)(f:Zwu V.l L)(i:L.length<=1000000)(r:AObj):
 fnV rE 65 [.sl 0 L.length 0 L.length false,.clo (.func 66) [] [.iptr false [vsA V]]] [.row 2<|L.map prA,r]=some (.tup [],[.row 2<|(ZvG V.l L).map prA,r]):=by
 have k:=Zyz V L j;have n:=ZyA f;have g:=ZwY V.l L;rw[V8 (s:=ZvW 66 2 ZvF) rfl];unfold ZvW;cases L with
 |nil=>rfl
 |cons p t=>
  have d:((p::t).map prA).isEmpty=false:=rfl;have a:((p::t).map prA).all Zwl=true:=by rw[ZU3,ZSw];intro x _;rfl
  have c:((p::t).map prA).all (fits 2)=true:=by rw[ZU3,ZSw];intro x _;rfl
  have b:Z4 ((p::t).map prA)=true:=Zw (λt=>rfl) _
  have h:Z4 [.iptr false [vsA V]]=true:=rfl;have e:Nat.ble (p::t).length 1000000=true:=ZTn i;have m:((ZvG V.l<|p::t).map (kp2 V.l)).map (·.2)=(ZvG V.l<|p::t).map prA:=by rw[ZTm];rfl
  simp only[ZT6,d,cond_false,k,n,a,c,b,e,g,m,ZSs,beq_self_eq_true,ZTl,ZSK];rfl
def ZwZ(l:List Ver)(f d:Int):∀i,∀p∈Zr7 l f d i,p.1<i/\∃v e,l[p.1]?=some v/\v.bc.l[p.2]?=some e/\e.Day<=f/\v.At<=d
 |0,p,hp=>by cases hp
 |i+1,p,hp=>by
  unfold Zr7 at hp;rcases ZSQ.1 hp with hp|hp
  .have⟨o,j⟩:=ZwZ l f d i p hp;exact⟨by omega,j⟩
  .cases g:l[i]? with
   |none=>rw[g]at hp;cases hp
   |some v=>
    rw[g]at hp;have a:p∈(bif Zvl l d i v then Zr4 v f i v.bc.l.length else []):=hp;cases c:Zvl l d i v with
    |false=>rw[c]at a;cases a
    |true=>
     rw[c,cond_true]at a;unfold Zr4 at a;obtain⟨k,n,rfl⟩:=ZSM.1 a;have⟨m,h⟩:=ZTJ.1 n;have b:k<v.bc.l.length:=by simpa using m
     refine⟨Nat.lt_succ_self i,v,v.bc.l[k],g,ZSu b,?_,?_⟩
     .unfold ZvS at h;rw[ZSu b]at h;exact of_decide_eq_true h
     .unfold Zvl at c;simp only[ZSq,ZSP]at c;have:=of_decide_eq_false c.2;omega
def ZyB(l:List Ver)(a b:Int)(i:Nat):∀p∈Zr7 l a b i,InL l p:=λp f=>by
 have⟨_,v,e,d,c,_⟩:=ZwZ l a b i p f;exact⟨v,e,d,c⟩
def Zx0(l:List Ver)(j f:Int):∀i,Zwu l (Zr7 l j f i)
 |0=>.nil
 |i+1=>by
  unfold Zr7;refine List.pairwise_append.2 ⟨Zx0 l j f i,?_,λp y q m d=>?_⟩
  .cases h:l[i]? with
   |none=>exact .nil
   |some v=>
    show List.Pairwise _ (bif Zvl l f i v then Zr4 v j i v.bc.l.length else [])
    cases Zvl l f i v with
    |false=>exact .nil
    |true=>
     rw[cond_true];unfold Zr4;rw[ZTN];have A:(List.range v.bc.l.length).Pairwise (λa b=>a<b):=List.pairwise_lt_range
     refine List.Pairwise.imp_of_mem ?_<|A.filter _;intro a b x t C d;have o:a<v.bc.l.length:=by simpa using(ZTJ.1 x).1
     have r:b<v.bc.l.length:=by simpa using(ZTJ.1 t).1
     rw[Zw4 (p:=(i,a)) h<|ZSu o,Zw4 (p:=(i,b)) h<|ZSu r]at d;simp only[List.cons.injEq]at d;have F:((a:Nat):Int)=((b:Nat):Int):=d.2.2.2.2.1;omega
  .have⟨D,w,e,s,u,_,_⟩:=ZwZ l j f i p y;cases h:l[i]? with
   |none=>rw[h]at m;cases m
   |some v=>
    rw[h]at m;have c:q∈(bif Zvl l f i v then Zr4 v j i v.bc.l.length else []):=m;cases g:Zvl l f i v with
    |false=>rw[g]at c;cases c
    |true=>
     rw[g,cond_true]at c;unfold Zr4 at c;obtain⟨k,E,rfl⟩:=ZSM.1 c;have n:k<v.bc.l.length:=by simpa using(ZTJ.1 E).1
     rw[Zw4 s u,Zw4 (p:=(i,k)) h<|ZSu n]at d;simp only[List.cons.injEq]at d;unfold Zvl at g;rw[Zyw]at g;simp only[ZSq,ZSP,ZTB]at g;have z:w∈l.take i:=by
      rw[ZTs];exact⟨p.1,by rw[ZTK D];exact s⟩
     have:=g.1 w z;rw[ZTX]at this;have B:Zvh (v.Mv,v.An) (w.Mv,w.An)=true:=by
      rw[Zwt,d.2.2.1,d.2.2.2.1]
     rw[B]at this;cases this
def Zr3(l:List Ver)(a b:Int):List (Nat×Nat):=ZvG l<|Zr7 l a b l.length
def Zx1(V:NL Ver)(hV:VsS V)(bq bp:Int):pfn rE 37 [vsA V,I bq,I bp]=some (Iy 2<|(Zr3 V.l bq bp).map prA):=by
 have L:=ZAd V bq bp hV;have h1:=ZyB V.l bq bp V.l.length;have h2:=Zx0 V.l bq bp V.l.length;have h3:=ZwX hV bq bp V.l.length;have hlen:=hV.len;have hS:=λr=>ZAg V (Zr7 V.l bq bp V.l.length) h1 h2 (by omega) r
 have hp:=(Zwc V.l<|Zr7 V.l bq bp V.l.length).length_eq;have hfr:∀n,2<=n->Zd n (frV<|Zvq V bq bp)=true:=λn hn=>by
  have:Nat.blt 1 n=true:=by simp;omega
  simp only[go_sem,this]
 have hP:∀(M:List<|Nat×Nat)n,Zd n (M.map prA)=true:=λM n=>ZN _<|Zw (λt=>rfl) M
 have hC:∀(M:List<|Nat×Nat),Z4 (M.map prA)=true:=λM=>Zw (λt=>rfl) M
 have hK:∀(K:List<|Int×Int)n,Zd n (K.map plA)=true/\Zd n (ZO K.length)=true:=λK n=>⟨ZN _<|Zw (λt=>rfl) K,ZN _<|Ut _⟩
 have q2:=hfr 2<|by decide
 have q3:=hfr 3<|by decide
 have q4:=hfr 4<|by decide
 have c64:fnV rE 64 [vsA V,I bq,I bp] [.row 2 [],.row 1 [.sl 0 0 0 0 false]]=some (.clo (.func 121) [] [.iptr false [vsA V],.iptr false [I bp],.iptr false [I bq]],[.row 2 [],.row 1 [.sl 0 0 0 0 false]]):=by
  rw[Q6 (f:=64) rfl rfl];simp only[go_sem,c64]
 unfold Zr3;have hrf:rf rE (.clo (.func 121) [] [.iptr false [vsA V],.iptr false [I bp],.iptr false [I bq]]) [13] c37R0a c37R0b (Zvq V bq bp) [.row 2 [],.row 1 [.sl 0 0 0 0 false]] =
  some (.normal,Zvq V bq bp,[.row 2<|(Zr7 V.l bq bp V.l.length).map prA,.row 1 [.sl 0 (Zr7 V.l bq bp V.l.length).length 0 (Zr7 V.l bq bp V.l.length).length false],.loop .exhausted .normal (Zvq V bq bp) [13] c37R0a c37R0b,.map ((Zvn V.l V.l.length).map plA)<|ZO (Zvn V.l V.l.length).length]):=by
  have L':Zg rE [0,2,3,5,13,14,15] c121L1b [(0,.yld 2),(2,.iptr false [I bp]),(3,.iptr false [I bq]),(5,.mp 3),(13,vsA V),(14,I V.l.length),(15,.int .i64 0)] [.row 2 [],.row 1 [.sl 0 0 0 0 false],.loop .ready .normal (Zvq V bq bp) [13] c37R0a c37R0b,.map [] []]=_:=L;simp only[hiH,ZSs]at L';rw[Z1k (c:=c121) rfl];generalize Zr7 V.l bq bp V.l.length=M at*;generalize Zvn V.l V.l.length=K at*;simp only[go_sem,c121,c121L1,L',hP,hK];rfl
 generalize Zr7 V.l bq bp V.l.length=M at*;generalize Zvn V.l V.l.length=K at*;rw[Z5 (f:=37) rfl rfl];have htk:List.take M.length ((ZvG V.l M).map prA)=(ZvG V.l M).map prA:=ZSR<|Nat.le_of_eq<|by rw[ZSs,hp]
 simp only[go_sem,put,c37,c64,Sr,hrf,hP,hC,hS,hp,ZSs,htk,ZTq,beq_self_eq_true]
def ZoO(m:List<|Int×Int)(k v:Int):List (Int×Int):=match m.findIdx? (λp=>k==p.1)with|some i=>m.set i (k,v)|none=>m++[(k,v)]
def Zos(l:List bf):List (Int×Int):=l.foldl (λm p=>ZoO m p.b p.a) []
def ZoB(m:List<|Int×Int)(k:Int):Option Int:=(m.find?<|λp=>k==p.1).map (·.2)
def ZoL(m:List<|Int×Int):Nat->Int->Option Int
 |0,_=>none
 |n+1,a=>match ZoB m a with|some b=>ZoL m n b|none=>some a
def Zpn(k:Int):∀(m:List<|Int×Int)(i:Nat),ZW false [1] (I k) (m.map<|λp=>I p.1) i=some ((m.findIdx?<|λp=>k==p.1).map (· + i))
 |[],i=>rfl
 |p::r,i=>by
  have b:=Zpn k r<|i+1;have a:Zz false [1] (I k) (I p.1)=some (k==p.1):=by simp only[go_sem,ZSW,if_true]
  rw[ZSx];unfold ZW;rw[a];dsimp only;rw[b,List.findIdx?_cons];cases k==p.1 with
  |true=>simp
  |false=>
   simp only[cond_false,ZSH,if_false];congr 1;cases List.findIdx? (λp=>k==p.1) r with
   |none=>rfl
   |some j=>simp;omega
def ZpA(k:Int):Zz false [1] (I k) (I k)=some true:=by simp only[go_sem,ZSW,beq_self_eq_true,if_true]
def Zq7(m:List<|Int×Int)(k v:Int){h:Hp}{b:Nat}(e:h[b]?=some (.map (m.map<|λp=>I p.1)<|m.map<|λp=>I p.2)):
 YK h false [1] (.mp b) (I k) (I v)=some (.bot,setH h b<|.map ((ZoO m k v).map (λp=>I p.1))<|(ZoO m k v).map (λp=>I p.2)):=by
 simp only[YK,e,Yo,ZpA];rw[Zpn k m 0];unfold ZoO;cases f:m.findIdx? (λp=>k==p.1)with
 |none=>
  simp only[Option.map_none,ZM,ZH,ZSF,ZSx,ZSS]
 |some i=>
  simp only[ZT3,ZTc,ZM,ZH,ZSX];have⟨c,g,_⟩:=ZVd.1 f;have l:(m.map<|λp=>I p.1).set i (I k)=m.map (λp=>I p.1):=by
   have a:k=m[i].1:=by simpa using g
   apply ZTO;intro j;rw[List.getElem?_set];by_cases d:i=j
   .subst d;rw[if_pos rfl,if_pos (by rw[ZSs];exact c),ZT7,ZSu c,a]
    rfl
   .rw[if_neg d]
  rw[l]
def lkV:Option Int->AV
 |some v=>I v
 |none=>I 0
def look_ok(m:List<|Int×Int)(k:Int)(bw:Bool)(h:Hp):
 W5 h false [1] true (I 0) (.imap bw (m.map<|λp=>I p.1)<|m.map<|λp=>I p.2) (I k)=some (.tup [lkV<|ZoB m k,.bool (ZoB m k).isSome]):=by
 simp only[W5,QW,ZpA];rw[Zpn k m 0];unfold ZoB;cases c:m.findIdx? (λp=>k==p.1)with
 |none=>
  have e:m.find? (λp=>k==p.1)=none:=by
   rw[ZU4];intro x d;have:=List.findIdx?_eq_none_iff.1 c x d;simpa using this
  rw[e];rfl
 |some i=>
  have⟨b,g,a⟩:=ZVd.1 c;have f:m.find? (λp=>k==p.1)=some m[i]:=by
   rw[List.find?_eq_some_iff_getElem];exact⟨g,i,b,rfl,λj l=>by have:=a j l;simpa using this⟩
  rw[f];simp only[ZT3,ZTc,ZT7,ZSu b,Option.isSome_some];rfl
def Zq8(m:List<|Int×Int)(k v x:Int):ZoB (ZoO m k v) x=if x=k then some v else ZoB m x:=by
 unfold ZoO;cases l:m.findIdx? (λp=>k==p.1)with
 |none=>
  have s:∀p∈m,p.1≠k:=by
   intro p b e;have:=List.findIdx?_eq_none_iff.1 l p b;rw[e]at this;simp at this
  unfold ZoB;dsimp only;rw[List.find?_append];by_cases a:x=k
  .subst a;have:m.find? (λp=>x==p.1)=none:=by
    rw[ZU4];intro p b e;exact s p b (by simpa using e:x=p.1).symm
   rw[this,if_pos rfl];simp
  .rw[if_neg a];cases m.find? (λp=>x==p.1)with
   |some p=>rfl
   |none=>
    have:(x==k)=false:=by simpa using a
    simp[this]
 |some i=>
  have⟨o,b,f⟩:=ZVd.1 l;have c:k=m[i].1:=by simpa using b
  dsimp only;clear l;induction m generalizing i with
  |nil=>exact absurd o<|Nat.not_lt_zero _
  |cons p r y=>
   cases i with
   |zero=>
    have n:k=p.1:=c;unfold ZoB;rw[List.set_cons_zero,ZUy,ZUy];by_cases a:x=k
    .subst a;rw[if_pos rfl];simp
    .rw[if_neg a];have q:(x==k)=false:=by simpa using a
     have t:(x==p.1)=false:=by rw[<-n];exact q
     simp only[q,t]
   |succ i=>
    have w:=f 0<|Nat.succ_pos i;have g:(k==p.1)=false:=by simpa using w
    have d:=y i (by simpa using o) (by simpa using b) (λj z=>by have:=f (j+1) (by omega);simpa using this)<|by simpa using c
    unfold ZoB at d⊢;rw[List.set_cons_succ,ZUy,ZUy];cases a:x==p.1 with
    |true=>
     have u:x=p.1:=by simpa using a
     have h:x≠k:=by
      intro e;rw[<-e,a]at g;cases g
     rw[if_neg h]
    |false=>exact d
def Zq9(l:List bf)(h:(l.map (·.b)).Nodup)(x:Int):ZoB (Zos l) x=(l.find?<|λp=>p.b==x).map (·.a):=by
 have G:∀(l:List bf)(m:List<|Int×Int),(l.map (·.b)).Nodup->ZoB (l.foldl (λm p=>ZoO m p.b p.a) m) x=match(l.find?<|λp=>p.b==x).map (·.a)with|some v=>some v|none=>ZoB m x:=by
  intro l;induction l with
  |nil=>intro m _;rfl
  |cons p r j=>
   intro m g;rw[ZSx,ZT8]at g;rw[ZTe,j _ g.2,Zq8,ZUy];cases d:p.b==x with
   |true=>
    have c:p.b=x:=by simpa using d
    have k:r.find? (λp=>p.b==x)=none:=by
     rw[ZU4];intro q i e;have:q.b=x:=by simpa using e
     exact g.1 (by rw[c,<-this];exact ZTv (f:=(·.b)) i)
    rw[k,if_pos c.symm];rfl
   |false=>
    have c:¬x=p.b:=λe=>by rw[e]at d;simp at d
    rw[if_neg c]
 have:=G l [] h;unfold Zos;rw[this];cases(l.find?<|λp=>p.b==x).map (·.a)<;>rfl
def ZpB:∀(l:List bf)(K:List Int)(b:Int),(K.any (Vm b)=true\/∃p∈l,p.b=b)->(l.foldl (λK p=>Qi Vm K p.b) K).any (Vm b)=true
 |[],K,b,h=>h.elim id<|λ⟨p,a,_⟩=>by cases a
 |p::r,K,b,h=>by
  rw[ZTe];refine ZpB r _ b ?_;rcases h with h|⟨q,hq,hb⟩
  .left;unfold Qi;cases K.any (Vm p.b)with
   |true=>exact h
   |false=>rw[cond_false,ZUN,h,ZSU]
  .rcases ZST.1 hq with rfl|hq
   .left;unfold Qi;cases c:K.any (Vm q.b)with
    |true=>rw[cond_true,<-hb];exact c
    |false=>
     rw[cond_false,ZUN,hb];unfold Vm;simp
   .exact Or.inr ⟨q,hq,hb⟩
def ZpC{s:Sta}(d:WK s=true):(s.Gc.map (·.b)).Nodup/\∀q∈s.Gc,Y2 q=true:=by
 unfold WK at d;simp only[ZSq]at d;have⟨a,_,_⟩:=d;unfold UB at a;rw[Zda]at a;refine⟨?_,λq h=>?_⟩
 .rw[ZUM,ZTN,ZV8];intro i j g f e k;have:=a j s.Gc[j]<|ZSu f;rw[ZSE,ZSq,ZSP]at this;have c:=this.2;unfold QV at c;rw[ZpB (s.Gc.take j) [] s.Gc[j].b<|Or.inr ⟨s.Gc[i],?_,k⟩]at c
  .cases c
  .rw[ZTs];exact⟨i,by rw[ZV9,if_pos e];exact ZSu g⟩
 .have⟨j,f⟩:=ZTs.1 h;have:=a j q f;rw[ZSq]at this;exact this.1
def Zoz(a:Int):Bool:=decide (0<=a)&&decide (a<=63)
def Zpo{q:bf}(h:Y2 q=true):(0<=q.a/\q.a<=63)/\(0<=q.b/\q.b<=63):=by
 unfold Y2 QM ZD at h;simp only[ZSq,decide_eq_true_eq]at h;exact⟨⟨h.1.1.1,h.1.1.2⟩,⟨h.2.1.1.1,h.2.1.1.2⟩⟩
def ZpD{s:Sta}(f:WK s=true)(x:Int):ZoB (Zos s.Gc) x=bif decide (XJ s x<0)then none else some (XJ s x):=by
 have⟨e,c⟩:=ZpC f;rw[Zq9 _ e];unfold XJ;cases d:s.Gc.find? (λp=>p.b==x)with
 |none=>rfl
 |some p=>
  have:=(Zpo<|c p<|ZUm d).1;have g:decide (p.a<0)=false:=decide_eq_false<|by omega
  simp only[ZT3,g,cond_false]
def ZpE{s:Sta}(a:WK s=true):∀(n:Nat)(x:Int),0<=x->chN s n x=true->∃b,ZoL (Zos s.Gc) n x=some b
 |0,x,hx,h=>by
  unfold chN at h;rw[show decide (x>=0)=true from decide_eq_true hx]at h
  cases h
 |n+1,x,hx,h=>by
  unfold chN at h;rw[show decide (x>=0)=true from decide_eq_true hx,cond_true]at h
  unfold ZoL;rw[ZpD a];cases c:decide (XJ s x<0)with
  |true=>exact⟨x,rfl⟩
  |false=>
   have:=of_decide_eq_false c;exact ZpE a n (XJ s x) (by omega) h
def Zoq(s:Sta)(a:Int):Int:=(ZoL (Zos s.Gc) (s.Gc.length+1) a).getD a
def ZpF{s:Sta}(c:WK s=true){a:Int}(d:0<=a):ZoL (Zos s.Gc) (s.Gc.length+1) a=some (Zoq s a):=by
 have⟨b,e⟩:=ZpE c _ a d<|Z3L s c a;unfold Zoq;rw[e];rfl
def ZpG{s:Sta}(d:WK s=true):∀(n:Nat)(a b:Int),0<=a/\a<=63->ZoL (Zos s.Gc) n a=some b->0<=b/\b<=63
 |0,a,b,_,h=>by cases h
 |n+1,a,b,ha,h=>by
  unfold ZoL at h;rw[ZpD d]at h;cases e:decide (XJ s a<0)with
  |true=>rw[e]at h;cases h;exact ha
  |false=>
   rw[e]at h;refine ZpG d n (XJ s a) b ?_ h;have c:=of_decide_eq_false e;unfold XJ at c⊢;cases f:s.Gc.find? (λp=>p.b==a)with
   |none=>rw[f]at c;exact absurd (by decide) c
   |some p=>exact(Zpo<|(ZpC d).2 p (ZUm f)).1
def ZpH{s:Sta}(c:WK s=true){a:Int}(b:0<=a/\a<=63):0<=Zoq s a/\Zoq s a<=63:=ZpG c _ a _ b<|ZpF c b.1
def ibr(h:Hp)(a b c:Bool):DRec:=bif a&&(!b&&!c)then⟨false,[],some h.length,none⟩else⟨false,[],none,none⟩
def Zqa(h:Hp):ibr h true false false=⟨false,[],some h.length,none⟩:=rfl
def Zqd{E:Env}{sz:Nat}{x:Arg}{fr:Fr}{h:Hp}:Za E (.ibox sz x) fr h=ibr h (fits sz<|ev E (Z2 x.slots fr) x) (Z4 (ev E (Z2 x.slots fr) x).cells) (Zi (ev E (Z2 x.slots fr) x).cells):=by
 simp only[Za,Z8,AOp.slots];cases fits sz (ev E (Z2 x.slots fr) x)<;>cases Z4 (ev E (Z2 x.slots fr) x).cells<;>cases Zi (ev E (Z2 x.slots fr) x).cells<;>rfl
attribute [go_sem] Zqd Zqa
def Zqe(bw:Bool)(h:Hp)(n:Nat)(l:List AV)(a:Z4 l=true):ZC bw h (n+1) l=some l:=by
 unfold ZC;rw[a];rfl
def Zqf(bw:Bool)(h:Hp)(n b:Nat)(a vs:List AV)(e:h[b]?=some (.map a vs))(c:Z4 a=true)(d:Z4 vs=true):freeze bw h (n+2) (.mp b)=some (.imap bw a vs):=by
 unfold freeze;rw[show clean (.mp b)=false from rfl,cond_false]
 dsimp only;rw[e];dsimp only;rw[c,cond_true,Zqe bw h n vs d];rfl
abbrev tkV(s:Sta):AV:=.imap false ((Zos s.Gc).map (λp=>I p.1))<|(Zos s.Gc).map (λp=>I p.2)
abbrev ldA(s:Sta):List AV:=[Iy 6<|s.Fa.map Gk.enc,Iy 5<|s.Gm.map By.enc,Iy 4<|s.Bt.map Ev.enc,Iy 16<|s.Bc.map Ga.enc,Iy 6<|s.Nk.map be.enc,Iy 2<|s.Gc.map bf.enc,Iy 2<|s.ba.map bf.enc,tkV s]
abbrev ldI(s:Sta):AV:=.iptr false<|ldA s
def Zqg(s:Sta)(v:s.Gc.length<=1000):Zg rE [1,4,9,10,11] c69L0b [(1,stI s),(4,.mp 0),(9,Iy 2<|s.Gc.map bf.enc),(10,I s.Gc.length),(11,.int .i64 0)] [.map [] []] =
 some (.exit 0,[(1,stI s),(4,.mp 0),(9,Iy 2<|s.Gc.map bf.enc),(10,I s.Gc.length),(11,I s.Gc.length)],[.map ((Zos s.Gc).map (λp=>I p.1))<|(Zos s.Gc).map (λp=>I p.2)]):=by
 have k:∀(m:List<|Int×Int)n,Zd n (m.map<|λp=>I p.1)=true/\Zd n (m.map<|λp=>I p.2)=true:=λm n=>⟨ZN _<|Zw (λt=>rfl) m,ZN _<|Zw (λt=>rfl) m⟩
 have L:=Y8 (E:=rE) (live:=[1,4,9,10,11]) (b:=c69L0b) s.Gc.length (λi=>[(1,stI s),(4,.mp 0),(9,Iy 2<|s.Gc.map bf.enc),(10,I s.Gc.length),(11,I i)])
  (λi=>[.map ((Zos<|s.Gc.take i).map (λp=>I p.1))<|(Zos<|s.Gc.take i).map (λp=>I p.2)]) (λi=>rfl)
  (λi l=>by
   obtain⟨x,j⟩:∃x,s.Gc[i]?=some x:=⟨_,ZSu l⟩;have o:=Z6 (f:=bf.enc) j;have g:=Zh l;have c:=Zx (n:=i)<|by omega
   have d:Zos (s.Gc.take<|i+1)=ZoO (Zos<|s.Gc.take i) x.b x.a:=Us _ _ j;rw[d];have r:=λ(q:AObj)=>Zq7 (Zos<|s.Gc.take i) x.b x.a (h:=[.map ((Zos<|s.Gc.take i).map (λp=>I p.1))<|(Zos<|s.Gc.take i).map (λp=>I p.2),q]) (b:=0) rfl
   generalize Zos (s.Gc.take i)=m at*;have n0:((0:Int)).toNat=0:=rfl;have u:((1:Int)).toNat=1:=rfl;refine⟨[(1,stI s),(4,.mp 0),(9,Iy 2<|s.Gc.map bf.enc),(10,I s.Gc.length),(11,I (i+1:Nat))],?_,rfl⟩;simp only[go_sem,c69L0b,o,g,c,bf.enc,WJ,XL,n0,u,if_true,r,k])
  (e:=.exit 0) (fr:=[(1,stI s),(4,.mp 0),(9,Iy 2<|s.Gc.map bf.enc),(10,I s.Gc.length),(11,I s.Gc.length)]) (h:=[.map ((Zos s.Gc).map (λp=>I p.1))<|(Zos s.Gc).map (λp=>I p.2)]) (by
   rw[ZSZ];simp only[go_sem,c69L0b,ZG,k]) (by simp)
 exact L
def Zp7(s:Sta)(a:StE s):pfn rE 69 [stA s]=some (.tup [ldI s,.bool<|Jx s]):=by
 have c:=Z3i s a;have L:=Zqg s a.sizes.merged;have d:∀(m:List<|Int×Int)n,Zd n (m.map<|λp=>I p.1)=true/\Zd n (m.map<|λp=>I p.2)=true:=λm n=>⟨ZN _<|Zw (λt=>rfl) m,ZN _<|Zw (λt=>rfl) m⟩
 have b:Z4 ((Zos s.Gc).map (λp=>I p.1))=true/\Z4 ((Zos s.Gc).map (λp=>I p.2))=true:=⟨Zw (λt=>rfl) _,Zw (λt=>rfl) _⟩
 have e:=λq=>Zqf false [.map ((Zos s.Gc).map (λp=>I p.1))<|(Zos s.Gc).map (λp=>I p.2),q] 27 0 _ _ rfl b.1 b.2
 simp only[stI]at L;rw[Z5 (f:=69) rfl rfl];simp only[go_sem,c69,c69L0,L,c,d,e]
def Zp8(a:Int):pfn rE 70 [I a]=some (.bool<|Zoz a):=by
 rw[Z5 (f:=70) rfl rfl];unfold Zoz;have h:decide (a<64)=decide (a<=63):=by
  by_cases c:a<=63
  .rw[decide_eq_true c,decide_eq_true<|by omega]
  .rw[decide_eq_false c,decide_eq_false<|by omega]
 have b:decide (a>=0)=decide (0<=a):=rfl;cases c:decide (0<=a)<;>simp only[go_sem,c70,b,c,h]
def ZpI(s:Sta)(b:Int):∀(n:Nat)(a:Int),ZoL (Zos s.Gc) n a=some b->
 ∃fr',Zg rE [0,1,5,6] c72L0b [(0,ldI s),(1,I a),(5,lkV<|ZoB (Zos s.Gc) a),(6,.bool (ZoB (Zos s.Gc) a).isSome)] []=some (.exit 0,fr',[])/\get fr' 1=I b
 |0,a,h=>by cases h
 |n+1,a,h=>by
  unfold ZoL at h;have j:=λx=>look_ok (Zos s.Gc) x false []
  cases d:ZoB (Zos s.Gc) a with
  |none=>
   rw[d]at h;cases h;refine⟨_,Q7 rfl (e:=.exit 0) (fr':=[(0,ldI s),(1,I b),(5,I 0),(6,.bool false)]) (by simp only[go_sem,c72L0b,Option.isSome_none,lkV]) (by simp),by simp only[go_sem]⟩
  |some c=>
   rw[d]at h;dsimp only at h;have⟨fr',i,f⟩:=ZpI s b n c h;refine⟨fr',?_,f⟩;have g:=j c;rw[Yt rfl (fr':=[(0,ldI s),(1,I c),(5,lkV<|ZoB (Zos s.Gc) c),(6,.bool (ZoB (Zos s.Gc) c).isSome)]) (h':=[]) (by simp only[go_sem,c72L0b,Option.isSome_some,lkV,g])]
   exact i
def ZpJ(s:Sta)(e:WK s=true)(a:Int)(d:0<=a):pfn rE 72 [ldI s,I a]=some (I<|Zoq s a):=by
 have⟨fr',c,b⟩:=ZpI s _ _ a<|ZpF e d;have g:=look_ok (Zos s.Gc) a false [];rw[Z5 (f:=72) rfl rfl];simp only[go_sem,c72,c72L0,g,c,b]
def ZoE(m:Int->Int)(a b:Int):List bf->Option Bool
 |[]=>none
 |p::r=>bif m p.a==a&&m p.b==b then some (a != b)else bif m p.a==b&&m p.b==a then some false else ZoE m a b r
def ZoW(s:Sta)(a b:Int):Bool:=(ZoE (Zoq s) a b s.ba.reverse).getD false
abbrev ruV(s:Sta):AV:=.isl false false 2<|s.ba.map bf.enc
def Zov(s:Sta)(a b:Int):Fr:=[(3,.iptr false [ldI s]),(4,.iptr false [I a]),(5,.iptr false [I b]),(6,.ptr 0 0 0 1),(16,.clo (.func 339) [] [.iptr false [ruV s]])]
def prH(s:Sta)(a b:Int):Hp:=[.row 1 [.bool false],.loop .ready .normal (Zov s a b) [17,18] c138R0a c138R0b]
def prD(s:Sta)(a b:Int)(r:Bool):Hp:=[.row 1 [.bool r],.loop .done .ret (Zov s a b) [17,18] c138R0a c138R0b]
def Zot(s:Sta)(n:Nat):bel n (ldI s)=true:=by
 have a:Z4 [ldI s]=true:=by
  have b:Z4 ((Zos s.Gc).map (λp=>I p.1))=true/\Z4 ((Zos s.Gc).map (λp=>I p.2))=true:=⟨Zw (λt=>rfl) _,Zw (λt=>rfl) _⟩
  simp only[go_sem]
 have:=ZN (n:=n) [ldI s] a;unfold Zd at this;rw[ZSq]at this;exact this.1
def Zow(s:Sta):clean (ldI s)=true:=by
 have a:Z4 ((Zos s.Gc).map (λp=>I p.1))=true/\Z4 ((Zos s.Gc).map (λp=>I p.2))=true:=⟨Zw (λt=>rfl) _,Zw (λt=>rfl) _⟩
 simp only[go_sem]
def Zqh(s:Sta)(a b:Int)(i:Nat)(p:bf)(l:pfn rE 72 [ldI s,I p.a]=some (I<|Zoq s p.a))(k:pfn rE 72 [ldI s,I p.b]=some (I<|Zoq s p.b)):
 U4 rE 1 [I i,.agg [I p.a,I p.b]] (prH s a b)=some (match ZoE (Zoq s) a b [p]with
  |none=>(.bool true,prH s a b++[.row 2 [.agg [I p.a,I p.b]]])
  |some r=>(.bool false,prD s a b r++[.row 2 [.agg [I p.a,I p.b]]])):=by
 have n0:((0:Int)).toNat=0:=rfl;have m:((1:Int)).toNat=1:=rfl;have n:=Zot s;have o:=Zow s;unfold ZoE ZoE;generalize Zoq s p.a=x at*;generalize Zoq s p.b=y at*;cases j:x==a&&y==b with
 |true=>
  have h:=Ss (E:=rE) (b:=1) (a:=[I i,.agg [I p.a,I p.b]]) (h:=prH s a b) (fr:=Zov s a b) (ps:=[17,18]) (assign:=c138R0a) (body:=c138R0b)
   (g:=(18,.agg [I p.a,I p.b])::(17,I i)::Zov s a b) rfl rfl (by simp only[go_sem,c138R0a,prH,Zov]<;>rfl) (by rfl)
   (by
    cases c:x==a with
    |false=>rw[c]at j;cases j
    |true=>
    rw[c,ZSB]at j;simp only[go_sem,c138R0b,l,k,WJ,XL,n0,m,c,j]<;>rfl) (by rfl)
  exact h
 |false=>
  rw[cond_false];cases f:x==b&&y==a with
  |true=>
   have h:=Ss (E:=rE) (b:=1) (a:=[I i,.agg [I p.a,I p.b]]) (h:=prH s a b) (fr:=Zov s a b) (ps:=[17,18]) (assign:=c138R0a) (body:=c138R0b)
    (g:=(18,.agg [I p.a,I p.b])::(17,I i)::Zov s a b) rfl rfl (by simp only[go_sem,c138R0a,prH,Zov]<;>rfl) (by rfl)
    (by
     cases d:x==b with
     |false=>rw[d]at f;cases f
     |true=>
     rw[d,ZSB]at f;cases c:x==a with
     |false=>simp only[go_sem,c138R0b,l,k,WJ,XL,n0,m,c,d,f]<;>rfl
     |true=>
      rw[c,ZSB]at j;simp only[go_sem,c138R0b,l,k,WJ,XL,n0,m,c,j,d,f]<;>rfl) (by rfl)
   exact h
  |false=>
   have h:=Ss (E:=rE) (b:=1) (a:=[I i,.agg [I p.a,I p.b]]) (h:=prH s a b) (fr:=Zov s a b) (ps:=[17,18]) (assign:=c138R0a) (body:=c138R0b)
    (g:=(18,.agg [I p.a,I p.b])::(17,I i)::Zov s a b) rfl rfl (by simp only[go_sem,c138R0a,prH,Zov]<;>rfl) (by rfl)
    (e:=.normal) (t:=[]) (s:=[.row 1 [.bool false],.loop .busy .normal (Zov s a b) [17,18] c138R0a c138R0b,.row 2 [.agg [I p.a,I p.b]]])
    (by
     cases c:x==a with
     |false=>
      cases d:x==b with
      |false=>simp only[go_sem,c138R0b,Zov,l,k,WJ,XL,n0,m,c,d]<;>rfl
      |true=>
       rw[d,ZSB]at f;simp only[go_sem,c138R0b,Zov,l,k,WJ,XL,n0,m,c,d,f]<;>rfl
     |true=>
      rw[c,ZSB]at j;cases d:x==b with
      |false=>simp only[go_sem,c138R0b,Zov,l,k,WJ,XL,n0,m,c,j,d]<;>rfl
      |true=>
       rw[d,ZSB]at f;simp only[go_sem,c138R0b,Zov,l,k,WJ,XL,n0,m,c,j,d,f]<;>rfl) (by rfl)
   exact h
def ZpK(s:Sta)(a b:Int)(u:s.ba.length<=1000)(m:∀p∈s.ba,pfn rE 72 [ldI s,I p.a]=some (I<|Zoq s p.a)/\pfn rE 72 [ldI s,I p.b]=some (I<|Zoq s p.b)):
 ∀(k:Nat),k<=s.ba.length->∃fr',Zg rE [0,1,3] c339L0b [(0,.yld 1),(1,.iptr false [ruV s]),(3,I<|(k:Int)-1)] (prH s a b) =
  some (match ZoE (Zoq s) a b (s.ba.take k).reverse with|none=>(.exit 0,fr',prH s a b)|some r=>(.ret,fr',prD s a b r))
 |0,_=>⟨_,Q7 rfl (e:=.exit 0) (fr':=[(0,.yld 1),(1,.iptr false [ruV s]),(3,I<|-1)]) (by
  have w:decide (((0:Nat):Int)-1>=0)=false:=rfl;simp only[go_sem,c339L0b,w,prH];rfl) (by simp)⟩
 |k+1,hk=>by
  obtain⟨x,h⟩:∃x,s.ba[k]?=some x:=⟨_,ZSu<|by omega⟩
  have⟨q,t⟩:=m x<|ZSy h;have n:=Z6 (f:=bf.enc) h;have c:=Zqh s a b k x q t;have i:(((k+1:Nat):Int)-1)=(k:Int):=by omega
  have d:decide ((k:Int)>=0)=true:=decide_eq_true<|by omega
  have z:IntKind.i64.wrap ((k:Int)-1)=(k:Int)-1:=YM (by omega)<|by omega
  have j:(s.ba.take<|k+1).reverse=x::(s.ba.take k).reverse:=by
   rw[ZTA,h,List.reverse_append];rfl
  have v:=Zot s;have g:Zd 2 (frV<|Zov s a b)=true:=by simp only[go_sem,Zov]
  have l:ZoE (Zoq s) a b (x::(s.ba.take k).reverse)=match ZoE (Zoq s) a b [x]with|some r=>some r|none=>ZoE (Zoq s) a b (s.ba.take k).reverse:=by
   show(bif _ then _ else bif _ then _ else _)=_
   unfold ZoE;cases Zoq s x.a==a&&Zoq s x.b==b with
   |true=>rfl
   |false=>
    rw[cond_false,cond_false];cases Zoq s x.a==b&&Zoq s x.b==a with
    |true=>rfl
    |false=>rw[cond_false,cond_false];unfold ZoE;rfl
  rw[j,l,i];cases o:ZoE (Zoq s) a b [x]with
  |some r=>
   rw[o]at c;dsimp only at c;refine⟨_,Q7 rfl (e:=.ret) (fr':=[(0,.yld 1),(1,.iptr false [ruV s]),(3,I k)]) (by
    simp only[prH,prD,ZSv,ZSz]at c⊢;simp only[go_sem,c339L0b,S3,n,d,c,bf.enc,g]) (by simp)⟩
  |none=>
   rw[o]at c;dsimp only at c;have⟨fr',y⟩:=ZpK s a b u m k<|by omega
   refine⟨fr',?_⟩;rw[Yt rfl (fr':=[(0,.yld 1),(1,.iptr false [ruV s]),(3,I<|(k:Int)-1)]) (h':=prH s a b) (by
    simp only[prH,ZSv,ZSz]at c⊢;simp only[go_sem,c339L0b,S3,n,d,z,c,bf.enc,g])]
   exact y
def Zqi(ex:Bool)(es:List AV)(h:Hp)(a:Z4 es=true):fnV rE 256 [.isl false ex 2 es] h=some (.clo (.func 339) [] [.iptr false [.isl false ex 2 es]],h):=by
 rw[Q6 (f:=256) rfl rfl];simp only[go_sem,c256]
def Zqj(s:Sta)(a b:Int)(h:s.ba.length<=1000)(g:∀p∈s.ba,pfn rE 72 [ldI s,I p.a]=some (I<|Zoq s p.a)/\pfn rE 72 [ldI s,I p.b]=some (I<|Zoq s p.b)):
 rf rE (.clo (.func 339) [] [.iptr false [ruV s]]) [17,18] c138R0a c138R0b (Zov s a b) [.row 1 [.bool false]]=match ZoE (Zoq s) a b s.ba.reverse with
  |none=>some (.normal,Zov s a b,[.row 1 [.bool false],.loop .exhausted .normal (Zov s a b) [17,18] c138R0a c138R0b])
  |some r=>some (.ret,Zov s a b,[.row 1 [.bool r],.loop .exhausted .ret (Zov s a b) [17,18] c138R0a c138R0b]):=by
 have⟨fr',L⟩:=ZpK s a b h g s.ba.length<|ZSr _;rw[ZSZ]at L;have f:IntKind.i64.wrap ((s.ba.length:Int)-1)=(s.ba.length:Int)-1:=YM (by omega)<|by omega
 have i:=Zot s;have d:Zd 2 (frV<|Zov s a b)=true:=by simp only[go_sem,Zov]
 rw[Z1k (c:=c339) rfl];simp only[prH,prD]at L;cases e:ZoE (Zoq s) a b s.ba.reverse with
 |none=>
  rw[e]at L;dsimp only at L;simp only[go_sem,c339,c339L0,f,L,d];rfl
 |some r=>
  rw[e]at L;dsimp only at L;simp only[go_sem,c339,c339L0,f,L,d];rfl
def ZpL(s:Sta)(a b:Int)(j:s.ba.length<=1000)(i:∀p∈s.ba,pfn rE 72 [ldI s,I p.a]=some (I<|Zoq s p.a)/\pfn rE 72 [ldI s,I p.b]=some (I<|Zoq s p.b)):
 pfn rE 138 [ldI s,I a,I b]=some (.bool<|ZoW s a b):=by
 have c:=Zqj s a b j i;have d:=λh=>Zqi false (s.ba.map bf.enc) h<|Zw (λt=>rfl) _
 have g:=Zow s;have k:=Zot s;unfold ZoW;rw[Z5 (f:=138) rfl rfl];cases e:ZoE (Zoq s) a b s.ba.reverse with
 |none=>
  rw[e]at c;dsimp only at c;simp only[Zov]at c;simp only[go_sem,c138,d,Sr,c,g];rfl
 |some r=>
  rw[e]at c;dsimp only at c;simp only[Zov]at c;simp only[go_sem,c138,d,Sr,c,g];rfl
def hfX(q:Int)(p:Int):Int:=W<|W (2*q)-p
def ZoX(p a b:Pt):Int:=W<|W (hfX a.X p.X*hfX b.Y p.Y)-W (hfX a.Y p.Y*hfX b.X p.X)
def Zp9(p a b:Pt):Bool:=ZoX p a b==0&&decide (W (W (hfX a.X p.X*hfX b.X p.X)+W (hfX a.Y p.Y*hfX b.Y p.Y))<=0)
def Zp4(p a b:Pt)(w:Int):Int:=
 bif decide (hfX a.Y p.Y<=0)&&(decide (hfX b.Y p.Y>0)&&decide (ZoX p a b>0))then W<|w+1
 else bif decide (hfX a.Y p.Y>0)&&(decide (hfX b.Y p.Y<=0)&&decide (ZoX p a b<0))then W (w-1)else w
def ZoP(p:Pt)(l:List Pt)(a:Int×Bool)(i:Nat):Int×Bool:=
 (Zp4 p (pAt l i) (pAt l<|(i+1)%l.length) a.1,a.2||Zp9 p (pAt l i) (pAt l<|(i+1)%l.length))
def ZoC(l:List Pt)(p:Pt):Int×Bool:=(List.range l.length).foldl (ZoP p l) (0,false)
def ZoD(v:AV)(p:Pt):Fr:=[(14,.clo (.func 386) [] [.iptr false [v]]),(13,v),(0,v),(3,.iptr false [I p.X,I p.Y]),(4,.ptr 0 0 0 1),(5,.ptr 1 0 0 1)]
def hfH(v:AV)(p:Pt)(a:Int×Bool):Hp:=[.row 1 [I a.1],.row 1 [.bool a.2],.loop .ready .normal (ZoD v p) [15,16] c371R0a c371R0b]
def hfD:ACode:=
 .keep []<|.block 2<|
  .seq (.keep [4,9,11,12,63]<|.region [o 64<|.mv<|.t 9,
   o 65 (.bin .leq (.t 64)<|.c<|.int .i64 0),
   o 66 (.mv<|.t 65),
   og 67 (.mv<|.t 11) 66 true,
   og 68 (.bin .gtr (.t 67)<|.c<|.int .i64 0) 66 true,
   o 69 (.pick (.t 66) (.t 68)<|.c<|.bool false),
   o 70 (.mv<|.t 69),
   og 71 (.mv<|.t 12) 70 true,
   og 72 (.bin .gtr (.t 71)<|.c<|.int .i64 0) 70 true,
   o 73 (.pick (.t 70) (.t 72)<|.c<|.bool false),
   o 63 (.mv<|.t 73)])<|
  .cond (.t 63)
   (.keep []<|.region [o 74<|.load none<|.t 4,
    o 75 (.bin .add (.t 74)<|.c<|.int .i64 1),
    ⟨none,.store 1 (.t 4)<|.t 75,none⟩])
   (.seq (.keep [4,76]<|.region [o 77<|.mv<|.t 9,
     o 78 (.bin .gtr (.t 77)<|.c<|.int .i64 0),
     o 79 (.mv<|.t 78),
     og 80 (.mv<|.t 11) 79 true,
     og 81 (.bin .leq (.t 80)<|.c<|.int .i64 0) 79 true,
     o 82 (.pick (.t 79) (.t 81)<|.c<|.bool false),
     o 83 (.mv<|.t 82),
     og 84 (.mv<|.t 12) 83 true,
     og 85 (.bin .lss (.t 84)<|.c<|.int .i64 0) 83 true,
     o 86 (.pick (.t 83) (.t 85)<|.c<|.bool false),
     o 76 (.mv<|.t 86)])<|
    .cond (.t 76)
     (.keep []<|.region [o 87<|.load none<|.t 4,
      o 88 (.bin .sub (.t 87)<|.c<|.int .i64 1),
      ⟨none,.store 1 (.t 4)<|.t 88,none⟩])
     (.skip))
def hfB:ACode:=
 .keep []<|.block 1<|
  .seq (.keep [4,5,8,9,10,11]<|.draw [[],[],[],[],[],[],[],[],[],[],[],[],[],[],[],[],[],[],[],[],[],[],[],[],[],[],[]]
   [o 17<|.fadr 0<|.t 6,
   o 18 (.load none<|.t 17),
   o 19 (.bin .mul (.c<|.int .i64 2)<|.t 18),
   o 20 (.fadr 0<|.t 3),
   o 21 (.load none<|.t 20),
   o 22 (.bin .sub (.t 19)<|.t 21),
   o 23 (.fadr 1<|.t 6),
   o 24 (.load none<|.t 23),
   o 25 (.bin .mul (.c<|.int .i64 2)<|.t 24),
   o 26 (.fadr 1<|.t 3),
   o 27 (.load none<|.t 26),
   o 28 (.bin .sub (.t 25)<|.t 27),
   o 29 (.fadr 0<|.t 7),
   o 30 (.load none<|.t 29),
   o 31 (.bin .mul (.c<|.int .i64 2)<|.t 30),
   o 32 (.fadr 0<|.t 3),
   o 33 (.load none<|.t 32),
   o 34 (.bin .sub (.t 31)<|.t 33),
   o 35 (.fadr 1<|.t 7),
   o 36 (.load none<|.t 35),
   o 37 (.bin .mul (.c<|.int .i64 2)<|.t 36),
   o 38 (.fadr 1<|.t 3),
   o 39 (.load none<|.t 38),
   o 40 (.bin .sub (.t 37)<|.t 39),
   o 8 (.mv<|.t 22),
   o 9 (.mv<|.t 28),
   o 10 (.mv<|.t 34)]
   [o 11<|.mv<|.t 40])<|
  .seq (.keep [4,5,8,9,10,11,12]<|.region [o 41<|.mv<|.t 8,
   o 42 (.mv<|.t 11),
   o 43 (.bin .mul (.t 41)<|.t 42),
   o 44 (.mv<|.t 9),
   o 45 (.mv<|.t 10),
   o 46 (.bin .mul (.t 44)<|.t 45),
   o 47 (.bin .sub (.t 43)<|.t 46),
   o 12 (.mv<|.t 47)])<|
  .seq (.keep [4,9,11,12]<|.region [o 48<|.load none<|.t 5,
   o 49 (.mv<|.t 48),
   og 50 (.mv<|.t 12) 49 false,
   og 51 (.bin .eql (.t 50)<|.c<|.int .i64 0) 49 false,
   og 52 (.mv<|.t 51) 49 false,
   og 53 (.mv<|.t 8) 52 true,
   og 54 (.mv<|.t 10) 52 true,
   og 55 (.bin .mul (.t 53)<|.t 54) 52 true,
   og 56 (.mv<|.t 9) 52 true,
   og 57 (.mv<|.t 11) 52 true,
   og 58 (.bin .mul (.t 56)<|.t 57) 52 true,
   og 59 (.bin .add (.t 55)<|.t 58) 52 true,
   og 60 (.bin .leq (.t 59)<|.c<|.int .i64 0) 52 true,
   og 61 (.pick (.t 52) (.t 60)<|.c<|.bool false) 49 false,
   o 62 (.pick (.t 49) (.c<|.bool true)<|.t 61),
   ⟨none,.store 1 (.t 5)<|.t 62,none⟩])<|
  hfD
def Zqk(p a b:Pt)(w:Int)(F:Fr)(d:Zd 6 (frV F)=true)(x:Bool)(m o l:AObj)(s:∀n,2<=n->Zj n m=true)(t:∀n,2<=n->Zj n o=true)(u:∀n,2<=n->Zj n l=true):
 Zb rE hfD [(4,.ptr 0 0 0 1),(9,I<|hfX a.Y p.Y),(11,I<|hfX b.Y p.Y),(12,I<|ZoX p a b)] [.row 1 [I w],.row 1 [.bool x],.loop .busy .normal F [15,16] c371R0a c371R0b,m,o,l] =
  some (.normal,[],[.row 1 [I<|Zp4 p a b w],.row 1 [.bool x],.loop .busy .normal F [15,16] c371R0a c371R0b,m,o,l]):=by
 have e:decide (hfX a.Y p.Y>0) = !decide (hfX a.Y p.Y<=0):=by by_cases c:hfX a.Y p.Y<=0<;>simp[c]<;>omega
 have i:decide (hfX b.Y p.Y<=0) = !decide (hfX b.Y p.Y>0):=by by_cases c:hfX b.Y p.Y>0<;>simp[c]<;>omega
 have j:=s 6<|by decide
 have k:=t 6<|by decide
 have g:=u 6<|by decide
 unfold Zp4;rw[e,i];generalize hfX a.Y p.Y=ay at*;generalize hfX b.Y p.Y=by' at*
 generalize ZoX p a b=tn at*;cases f:decide (ay<=0)with
 |true=>
  cases h:decide (by'>0)with
  |true=>
   rw[f]at e;cases r:decide (tn>0)with
   |true=>simp only[go_sem,hfD,f,h,r,d,j,k,g]
   |false=>simp only[go_sem,hfD,f,h,r,e,d,j,k,g,ZSI,ZU2,ZSO,cond_false]
  |false=>
   rw[f]at e;simp only[go_sem,hfD,f,h,e,d,j,k,g,ZSI,ZU2,ZSO,cond_false]
 |false=>
  rw[f]at e;cases h:decide (by'>0)with
  |true=>
   rw[h]at i;simp only[go_sem,hfD,f,e,i,d,j,k,g,ZSI,ZSK,ZU2,ZSO,cond_false]
  |false=>
   rw[h]at i;cases q:decide (tn<0)with
   |true=>simp only[go_sem,hfD,f,e,i,q,d,j,k,g,ZSK,ZSO,cond_false,ZSW,cond_true]
   |false=>simp only[go_sem,hfD,f,e,i,q,d,j,k,g,ZSK,ZSO,cond_false,ZU2]
def Zql(v:AV)(k:∀n,bel n v=true)(p:Pt)(c:Int×Bool)(q a b:Pt):
 U4 rE 2 [.agg [I a.X,I a.Y],.agg [I b.X,I b.Y]] (hfH v p c++[.row 2 [.agg [I q.X,I q.Y]]]) =
  some (.bool true,hfH v p (Zp4 p a b c.1,c.2||Zp9 p a b)++[.row 2 [.agg [I q.X,I q.Y]],.row 2 [.agg [I a.X,I a.Y]],.row 2 [.agg [I b.X,I b.Y]]]):=by
 have h:=Ss (E:=rE) (b:=2) (a:=[.agg [I a.X,I a.Y],.agg [I b.X,I b.Y]]) (h:=hfH v p c++[.row 2 [.agg [I q.X,I q.Y]]]) (fr:=ZoD v p) (ps:=[15,16]) (assign:=c371R0a) (body:=c371R0b)
  (g:=(16,.agg [I b.X,I b.Y])::(15,.agg [I a.X,I a.Y])::ZoD v p) rfl rfl (by simp only[go_sem,c371R0a,hfH,ZoD]<;>rfl) (by rfl)
  (e:=.normal) (t:=[]) (s:=[.row 1 [I<|Zp4 p a b c.1],.row 1 [.bool<|c.2||Zp9 p a b],.loop .busy .normal (ZoD v p) [15,16] c371R0a c371R0b,.row 2 [.agg [I q.X,I q.Y]],.row 2 [.agg [I a.X,I a.Y]],.row 2 [.agg [I b.X,I b.Y]]])
  (by
   show Zb rE hfB [(7,.ptr 5 0 0 1),(6,.ptr 4 0 0 1),(16,.agg [I b.X,I b.Y]),(15,.agg [I a.X,I a.Y]),(14,.clo (.func 386) [] [.iptr false [v]]),(13,v),(0,v),(3,.iptr false [I p.X,I p.Y]),(4,.ptr 0 0 0 1),(5,.ptr 1 0 0 1)]
    [.row 1 [I c.1],.row 1 [.bool c.2],.loop .busy .normal (ZoD v p) [15,16] c371R0a c371R0b,.row 2 [.agg [I q.X,I q.Y]],.row 2 [.agg [I a.X,I a.Y]],.row 2 [.agg [I b.X,I b.Y]]]=_
   have d:Zd 6 (frV<|ZoD v p)=true:=by simp only[go_sem,ZoD,k]
   have i:∀(z:Pt)n,2<=n->Zj n (.row 2 [.agg [I z.X,I z.Y]])=true:=λz n _=>rfl
   have f:=λx=>Zqk p a b c.1 (ZoD v p) d x (.row 2 [.agg [I q.X,I q.Y]]) (.row 2 [.agg [I a.X,I a.Y]]) (.row 2 [.agg [I b.X,I b.Y]]) (i q) (i a)<|i b
   simp only[hfX,ZoX]at f;unfold Zp9 ZoX hfX;cases l:c.2 with
   |true=>
    rw[ZSU];simp only[go_sem,hfB,d,f]
   |false=>
    rw[ZT5];cases j:W (W (W (W (2*a.X)-p.X)*W (W (2*b.Y)-p.Y))-W (W (W (2*a.Y)-p.Y)*W (W (2*b.X)-p.X)))==0 with
    |true=>simp only[go_sem,hfB,d,f,j,ZSB]
    |false=>simp only[go_sem,hfB,d,f,j,ZSO]) (by rfl)
 exact h
def Zqm(l:List Pt)(ex:Bool)(w:l.length<=1000000)(p:Pt):pfn rE 371 [.isl false ex 2<|l.map Pt.enc,.agg [I p.X,I p.Y]]=some (.tup [I (ZoC l p).1,.bool (ZoC l p).2]):=by
 have g:∀n,bel n (.isl false ex 2<|l.map Pt.enc)=true:=λn=>by
  have:=ZN (n:=n) [.isl false ex 2<|l.map Pt.enc] (by have:=Zw (f:=Pt.enc) (λt=>rfl) l;simp only[go_sem])
  unfold Zd at this;rw[ZSq]at this;exact this.1
 have d:Zd 3 (frV<|ZoD (.isl false ex 2<|l.map Pt.enc) p)=true:=by simp only[go_sem,ZoD,g]
 have L:=Y8 (E:=rE) (live:=[0,1,5,6,7]) (b:=c386L0b) l.length (λi=>[(0,.yld 2),(1,.iptr false [.isl false ex 2<|l.map Pt.enc]),(5,.isl false ex 2<|l.map Pt.enc),(6,I l.length),(7,I i)])
  (λi=>hfH (.isl false ex 2<|l.map Pt.enc) p<|(List.range i).foldl (ZoP p l) (0,false)) (λi=>rfl)
  (λi m=>by
   have o:0<l.length:=by omega
   have s:=YN m;have h:=YN (l:=l)<|ZTH (i+1) o;have j:=Zh m;have u:=Zx (n:=i)<|by omega
   have v:=nat_ne o;have k:=Zql (.isl false ex 2<|l.map Pt.enc) g p ((List.range i).foldl (ZoP p l) (0,false)) (pAt l i) (pAt l i)<|pAt l<|(i+1)%l.length;have q:(List.range<|i+1).foldl (ZoP p l) (0,false)=ZoP p l ((List.range i).foldl (ZoP p l) (0,false)) i:=by
    rw[List.range_succ,ZUL];rfl
   rw[q];generalize(List.range i).foldl (ZoP p l) (0,false)=n at*;unfold ZoP;simp only[hfH,ZSv,ZSz]at k⊢;refine⟨_,by simp only[go_sem,c386L0b,S3,s,h,j,u,v,Jc,k,Pt.enc,d];rfl,?_⟩
   simp only[go_sem])
  (e:=.exit 0) (by simp only[go_sem,hfH,c386L0b,ZG];rfl) (by simp)
 have r:Zg rE [0,1,5,6,7] c386L0b [(0,.yld 2),(1,.iptr false [.isl false ex 2<|l.map Pt.enc]),(5,.isl false ex 2<|l.map Pt.enc),(6,I l.length),(7,.int .i64 0)] [.row 1 [.int .i64 0],.row 1 [.bool false],.loop .ready .normal (ZoD (.isl false ex 2<|l.map Pt.enc) p) [15,16] c371R0a c371R0b]=_:=L;rw[Z5 (f:=371) rfl rfl];have a:rf rE (.clo (.func 386) [] [.iptr false [.isl false ex 2<|l.map Pt.enc]]) [15,16] c371R0a c371R0b (ZoD (.isl false ex 2<|l.map Pt.enc) p) [.row 1 [.int .i64 0],.row 1 [.bool false]] =
  some (.normal,ZoD (.isl false ex 2<|l.map Pt.enc) p,[.row 1 [I (ZoC l p).1],.row 1 [.bool (ZoC l p).2],.loop .exhausted .normal (ZoD (.isl false ex 2<|l.map Pt.enc) p) [15,16] c371R0a c371R0b]):=by
  rw[Z1k (c:=c386) rfl];simp only[go_sem,c386,c386L0,r,d];rfl
 simp only[ZoD]at a;simp only[go_sem,c371,Z1l,Sr,a,g]
def ZoY(l:List Pt)(p:Pt):Int:=
 bif (!Vh l||Jf p)||((ZoC l ⟨W<|2*p.X,W<|2*p.Y⟩).1==0&&!(ZoC l ⟨W<|2*p.X,W<|2*p.Y⟩).2)then -1
 else bif (ZoC l ⟨W<|2*p.X,W<|2*p.Y⟩).1 != 0&&!(ZoC l ⟨W<|2*p.X,W<|2*p.Y⟩).2 then 1 else 0
def Zqn(l:List Pt)(ex:Bool)(i:l.length<=1000000)(p:Pt):pfn rE 251 [.isl false ex 2<|l.map Pt.enc,.agg [I p.X,I p.Y]]=some (I<|ZoY l p):=by
 have b:=Dz l ex i;have e:=Z1h p;have h:=Zqm l ex i ⟨W<|2*p.X,W<|2*p.Y⟩;have a:pfn rE 334 [.isl false ex 2<|l.map Pt.enc,.agg [I<|W<|2*p.X,I<|W<|2*p.Y]]=some (.bool<|(ZoC l ⟨W<|2*p.X,W<|2*p.Y⟩).1==0&&!(ZoC l ⟨W<|2*p.X,W<|2*p.Y⟩).2):=by
  rw[Z5 (f:=334) rfl rfl];cases c:(ZoC l ⟨W<|2*p.X,W<|2*p.Y⟩).1==0<;>simp only[go_sem,c334,h,c,ZSB,ZSO]
 have j:pfn rE 335 [.isl false ex 2<|l.map Pt.enc,.agg [I<|W<|2*p.X,I<|W<|2*p.Y]]=some (.bool<|(ZoC l ⟨W<|2*p.X,W<|2*p.Y⟩).1 != 0&&!(ZoC l ⟨W<|2*p.X,W<|2*p.Y⟩).2):=by
  rw[Z5 (f:=335) rfl rfl];cases c:(ZoC l ⟨W<|2*p.X,W<|2*p.Y⟩).1 != 0<;>simp only[go_sem,c335,h,c,ZSB,ZSO]
 rw[Z5 (f:=251) rfl rfl];unfold ZoY;generalize((ZoC l ⟨W<|2*p.X,W<|2*p.Y⟩).1==0&&!(ZoC l ⟨W<|2*p.X,W<|2*p.Y⟩).2)=b1 at*;generalize((ZoC l ⟨W<|2*p.X,W<|2*p.Y⟩).1 != 0&&!(ZoC l ⟨W<|2*p.X,W<|2*p.Y⟩).2)=b2 at*;cases d:Vh l with
 |false=>simp only[go_sem,c251,b,d,ZSK,ZSU,cond_true]
 |true=>
 cases g:Jf p with
 |true=>simp only[go_sem,c251,b,e,d,g,ZSI,ZT5,ZSU,cond_true]
 |false=>
 cases b1 with
 |true=>simp only[go_sem,c251,b,e,a,d,g,ZSI,ZT5,cond_true]
 |false=>
 cases b2<;>simp only[go_sem,c251,b,e,a,j,d,g,ZSI,ZT5,cond_true,cond_false]
def ZoG(x:Gk):Bool:=x.br==1&&x.Ld==-1
def ZpM(x:Gk):pfn rE 130 [x.enc]=some (.bool<|ZoG x):=by
 rw[Z5 (f:=130) rfl rfl];unfold ZoG;cases c:x.br==1<;>simp only[go_sem,c130,Gk.enc,NL.enc,c,ZSB,ZSO]
def ZoF(s:Sta)(p:Pt)(K:List Int)(x:Gk):List Int:=bif ZoG x&&decide (ZoY x.Ring.l p>=0)then Qi Vm K (Zoq s x.bh)else K
def Zoy(s:Sta)(p:Pt):List Int:=s.Fa.foldl (ZoF s p) []
def ZoH(s:Sta)(p:Pt):List Int:=Zox<|Zoy s p
structure ClS(s:Sta):Prop where
 E:StE s
 pr:Jx s=true
def ClS.prop{s:Sta}(h:ClS s):Prop' s:=((Zdb s).1 h.pr).1
def Zpa{a b c:Int}(h:QM a b c=true):0<=a/\a<=63:=by
 unfold QM ZD at h;simp only[ZSq,decide_eq_true_eq]at h;exact h.1
def ClS.reg{s:Sta}(h:ClS s){x:Gk}(a:x∈s.Fa):0<=x.bh/\x.bh<=63:=by
 have:=h.prop.rg x a;unfold Vo at this;simp only[ZSq]at this;exact Zpa this.1
def ClS.mst{s:Sta}(h:ClS s){a:Int}(b:0<=a):pfn rE 72 [ldI s,I a]=some (I<|Zoq s a):=ZpJ s h.prop.pa a b
def ZpN{s:Sta}(h:ClS s)(p:Pt):∀(l:List Gk)(K:List Int),(∀x∈l,x∈s.Fa)->(∀z∈K,0<=z/\z<=63)->∀z∈l.foldl (ZoF s p) K,0<=z/\z<=63
 |[],K,_,hK=>hK
 |x::r,K,hl,hK=>by
  rw[ZTe];refine ZpN h p r _ (λy b=>hl y<|ZT4 _ b)<|λz a=>?_
  unfold ZoF at a;cases c:ZoG x&&decide (ZoY x.Ring.l p>=0)with
  |false=>rw[c]at a;exact hK z a
  |true=>
   rw[c,cond_true]at a;unfold Qi at a;cases d:K.any (Vm<|Zoq s x.bh)with
   |true=>rw[d]at a;exact hK z a
   |false=>
    rw[d,cond_false,ZSQ,ZSL]at a;rcases a with a|rfl
    .exact hK z a
    .exact ZpH h.prop.pa<|h.reg<|hl x<|ZSV ..
def Zqo(s:Sta)(h:ClS s)(p:Pt):Zg rE [0,3,5,13,14,15] c134L0b [(0,ldI s),(3,.iptr false [I p.X,I p.Y]),(5,.mp 0),(13,Iy 6<|s.Fa.map Gk.enc),(14,I s.Fa.length),(15,.int .i64 0)] [.map [] []] =
 some (.exit 0,[(0,ldI s),(3,.iptr false [I p.X,I p.Y]),(5,.mp 0),(13,Iy 6<|s.Fa.map Gk.enc),(14,I s.Fa.length),(15,I s.Fa.length)],[.map ((Zoy s p).map I)<|ZO (Zoy s p).length]):=by
 have A:=h.E.sizes.regions;have a:=Zot s;have j:∀(K:List Int)n,Zd n (K.map I)=true/\Zd n (ZO K.length)=true:=λK n=>⟨ZN _<|Zw (λt=>rfl) K,ZN _<|Ut _⟩
 have L:=Y8 (E:=rE) (live:=[0,3,5,13,14,15]) (b:=c134L0b) s.Fa.length (λi=>[(0,ldI s),(3,.iptr false [I p.X,I p.Y]),(5,.mp 0),(13,Iy 6<|s.Fa.map Gk.enc),(14,I s.Fa.length),(15,I i)])
  (λi=>[.map (((s.Fa.take i).foldl (ZoF s p) []).map I)<|ZO ((s.Fa.take i).foldl (ZoF s p) []).length]) (λi=>rfl)
  (λi r=>by
   obtain⟨x,k⟩:∃x,s.Fa[i]?=some x:=⟨_,ZSu r⟩;have v:=ZSy k;have m:=Z6 (f:=Gk.enc) k;have d:=Zh r;have c:=Zx (n:=i)<|by omega
   have g:=ZpM x;have o:=Zqn x.Ring.l x.Ring.ex (ZTa (h.E.regions x v).2.1 (by omega)) p
   have y:=h.mst (h.reg v).1;rw[Us _ _ k];generalize List.foldl (ZoF s p) [] (s.Fa.take i)=K at*;unfold ZoF;have z:=λ(q:AObj)=>Ur (eq:=Vm) Wi K (Zoq s x.bh) (h:=[.map (K.map I)<|ZO K.length,q]) (b:=0) rfl
   refine⟨[(0,ldI s),(3,.iptr false [I p.X,I p.Y]),(5,.mp 0),(13,Iy 6<|s.Fa.map Gk.enc),(14,I s.Fa.length),(15,I (i+1:Nat))],?_,rfl⟩;simp only[Gk.enc,NL.enc]at g;cases w:ZoG x with
   |false=>
    rw[w]at g;simp only[go_sem,c134L0b,m,d,c,g,Gk.enc,NL.enc,j,a,ZSO,cond_false]
   |true=>
   rw[w]at g;cases u:decide (ZoY x.Ring.l p>=0)with
   |false=>simp only[go_sem,c134L0b,m,d,c,g,o,u,Gk.enc,NL.enc,j,a,ZSB,cond_false]
   |true=>simp only[go_sem,c134L0b,m,d,c,g,o,y,z,u,Gk.enc,NL.enc,j,a,ZSB,cond_true])
  (e:=.exit 0) (fr:=[(0,ldI s),(3,.iptr false [I p.X,I p.Y]),(5,.mp 0),(13,Iy 6<|s.Fa.map Gk.enc),(14,I s.Fa.length),(15,I s.Fa.length)]) (h:=[.map ((Zoy s p).map I)<|ZO (Zoy s p).length]) (by
   rw[ZSZ];show Zb rE _ _ [.map ((Zoy s p).map I)<|ZO (Zoy s p).length]=_
   simp only[go_sem,c134L0b,ZG,j,a]) (by simp)
 exact L
def Zqp(b:Nat)(h:Hp):fnV rE 253 [.mp b] h=some (.clo (.func 338) [] [.ptr h.length 0 0 1],h++[.row 1 [.mp b]]):=by
 rw[Q6 (f:=253) rfl rfl];simp only[go_sem,c253]
def Zqq(K:List Int)(vs:List AV)(d:∀z∈K,0<=z/\z<=63)(e:K.length<=1000000):fnV rE 252 [.clo (.func 338) [] [.ptr 1 0 0 1]] [.map (K.map I) vs,.row 1 [.mp 0]] =
 some (.sl 2 K.length 0 K.length false,[.map (K.map I) vs,.row 1 [.mp 0],.row 1<|(Zox K).map I]):=by
 have b:(K.map I).all Zp2=true:=by
  rw[ZU3,ZSw];intro z f;have⟨h,g⟩:=d z f;show(decide (-9223372036854775808<=z)&&decide (z<=9223372036854775807))=true
  rw[decide_eq_true (by omega),decide_eq_true<|by omega]
  rfl
 have a:Nat.ble K.length 1000000=true:=ZTn e;have c:Yk (K.map I)=(Zox K).map I:=Zpl K;rw[V8 (s:=ZoZ 338) rfl];unfold ZoZ;simp only[ZTp,ZT6,b,a,ZSW,c,ZSs];rfl
def ZpO(s:Sta)(h:ClS s)(p:Pt):pfn rE 134 [ldI s,.agg [I p.X,I p.Y]]=some (Iy 1<|(ZoH s p).map I):=by
 have L:=Zqo s h p;have o:∀z∈Zoy s p,0<=z/\z<=63:=ZpN h p s.Fa [] (λx g=>g)<|λz k=>by cases k
 have b:(Zoy s p).length<=1000000:=by
  have G:∀(l:List Gk)(K:List Int),(l.foldl (ZoF s p) K).length<=K.length+l.length:=by
   intro l;induction l with
   |nil=>intro K;exact ZSr _
   |cons x r q=>
    intro K;rw[ZTe,ZSG];refine ZTa (q _) ?_;have:(ZoF s p K x).length<=K.length+1:=by
     unfold ZoF Qi;cases ZoG x&&decide (ZoY x.Ring.l p>=0)with
     |false=>exact ZTu _
     |true=>
      rw[cond_true];cases K.any (Vm<|Zoq s x.bh)with
      |true=>exact ZTu _
      |false=>rw[cond_false,ZSJ];exact ZSr _
    omega
  have:=G s.Fa [];have v:=h.E.sizes.regions;unfold Zoy;simp only[ZT1]at this;omega
 have e:=Zqp 0 [.map ((Zoy s p).map I)<|ZO (Zoy s p).length];have j:=Zqq (Zoy s p) (ZO (Zoy s p).length) o b;have a:(Zox<|Zoy s p).length=(Zoy s p).length:=(Zp3 _).length_eq;have u:Z4 ((Zox<|Zoy s p).map I)=true:=Zw (λt=>rfl) _
 have d:List.take (Zoy s p).length ((Zox<|Zoy s p).map I)=(Zox<|Zoy s p).map I:=ZSR<|by simp[a]
 have i:∀(K:List Int)n,Zd n (K.map I)=true/\Zd n (ZO K.length)=true:=λK n=>⟨ZN _<|Zw (λt=>rfl) K,ZN _<|Ut _⟩
 have c:=Zot s;have m:=Zow s;unfold ZoH;rw[Z5 (f:=134) rfl rfl];simp only[ZSG,ZT1,ZSv,ZSz,ZSE]at e;simp only[go_sem,c134,c134L0,L,e,j,i,c,u,a,ZSs,d,ZTq,beq_self_eq_true]
def Zqr(l:List Str)(a:l.length<=100000)(id:Str)(bw ex:Bool):pfn rE 248 [.isl bw ex 1<|l.map encS,.str id]=some (.bool<|l.any<|λx=>Z3 id x):=by
 have h:=Nz (f:=333) (enc:=encS) (p:=λx=>Z3 id x) (v:=.str id) rfl rfl l (by omega) (λx _=>rfl) rfl (λx _=>rfl) bw ex
 rw[Z5 (f:=248) rfl rfl,<-Vg];unfold WG;cases bw<;>simp only[go_sem,c248,h]
def ZoM(e:Gt):List Pt:=
 bif !Q9 e then []else
 bif e.br==1||(e.br==2||e.br==5)then e.Path.l.take 1 else
 bif e.br==6||e.br==10 then [e.bg]else
 bif e.br==9 then e.Lst.l.map (·.bg)else []
def Zqs{e:Gt}(h:Q9 e=true)(d:(e.br==1||(e.br==2||e.br==5))=true):0<e.Path.l.length:=by
 have c:=ZcV h;have b:Vh e.Path.l=true\/Ul e.Path.l=true:=by
  rcases(by simpa using d:e.br=1\/e.br=2\/e.br=5)with k|k|k
  .rw[ZcW k]at c;have a:(ZZ e.Id&&(ZD e.A 1 3&&Vh e.Path.l))=true:=c;simp only[ZSq]at a;exact Or.inl a.2.2
  .rw[ZcW k]at c;have a:(ZZ e.Id&&Ul e.Path.l)=true:=c;simp only[ZSq]at a;exact Or.inr a.2
  .rw[ZcW k]at c;have a:(ZZ e.Id&&Vh e.Path.l)=true:=c;simp only[ZSq]at a;exact Or.inl a.2
 rcases b with b|b
 .unfold Vh at b;rw[ZSq]at b;have:=of_decide_eq_true b.1;omega
 .unfold Ul at b;simp only[ZSq]at b;have:=of_decide_eq_true b.2.1;omega
def Zqt(e:Gt)(v:e.Lst.l.length<=1000):Zg rE [3,28,29,30] c133L0b [(3,.sl 0 0 0 0 false),(28,.isl false e.Lst.ex 7<|e.Lst.l.map Ent.enc),(29,I e.Lst.l.length),(30,.int .i64 0)] [.row 2 []] =
 some (.exit 1,[(3,.sl 0 e.Lst.l.length 0 e.Lst.l.length false),(28,.isl false e.Lst.ex 7<|e.Lst.l.map Ent.enc),(29,I e.Lst.l.length),(30,I e.Lst.l.length)],[.row 2 ((e.Lst.l.map (·.bg)).map Pt.enc)]):=by
 have a:∀(D:List Pt)n,Zd n (D.map Pt.enc)=true:=λD n=>ZN _<|Zw (λt=>rfl) D
 have L:=Y8 (E:=rE) (live:=[3,28,29,30]) (b:=c133L0b) e.Lst.l.length (λi=>[(3,.sl 0 i 0 i false),(28,.isl false e.Lst.ex 7<|e.Lst.l.map Ent.enc),(29,I e.Lst.l.length),(30,I i)])
  (λi=>[.row 2 (((e.Lst.l.take i).map (·.bg)).map Pt.enc)]) (λi=>rfl)
  (λi r=>by
   obtain⟨x,p⟩:∃x,e.Lst.l[i]?=some x:=⟨_,ZSu r⟩;have c:(e.Lst.l.take i).length=i:=by rw[ZTk];omega
   have u:=Z6 (f:=Ent.enc) p;have o:=Zh r;have j:=Zx (n:=i)<|by omega
   have m:(e.Lst.l.take<|i+1).map (·.bg)=(e.Lst.l.take i).map (·.bg)++[x.bg]:=by
    rw[ZTA,p,ZSF];rfl
   have s:=λ(q:AObj)=>XC (h:=[.row 2 (((e.Lst.l.take i).map (·.bg)).map Pt.enc),q]) (fz:=false) (b:=0) (g:=i) (sz:=2) (bytes:=16) (es:=((e.Lst.l.take i).map (·.bg)).map Pt.enc) (bw:=false) (ex:=false) (ys:=[.agg [I x.bg.X,I x.bg.Y]]) (by show(bif (((e.Lst.l.take i).map (·.bg)).map Pt.enc).length==i then _ else none)=_;rw[ZSs,ZSs,c,beq_self_eq_true];rfl) rfl rfl (by decide) (by decide) (by simp;omega)
   have d:((e.Lst.l.take i).map (·.bg)++[x.bg]).map Pt.enc=((e.Lst.l.take i).map (·.bg)).map Pt.enc++[.agg [I x.bg.X,I x.bg.Y]]:=by rw[ZSF];rfl
   rw[m,d];have k:∀n,Zd n (((e.Lst.l.take i).map (·.bg)).map Pt.enc++[.agg [I x.bg.X,I x.bg.Y]])=true:=λn=>by rw[<-d];exact a _ n
   generalize((e.Lst.l.take i).map (·.bg)).map Pt.enc=es at*;refine⟨[(3,.sl 0 (i+1) 0 (i+1) false),(28,.isl false e.Lst.ex 7<|e.Lst.l.map Ent.enc),(29,I e.Lst.l.length),(30,I (i+1:Nat))],?_,rfl⟩;simp only[go_sem,c133L0b,u,o,j,s,k,Ent.enc])
  (e:=.exit 1) (fr:=[(3,.sl 0 e.Lst.l.length 0 e.Lst.l.length false),(28,.isl false e.Lst.ex 7<|e.Lst.l.map Ent.enc),(29,I e.Lst.l.length),(30,I e.Lst.l.length)]) (h:=[.row 2 ((e.Lst.l.map (·.bg)).map Pt.enc)]) (by
   rw[ZSZ];simp only[go_sem,c133L0b,ZG,a]) (by simp)
 exact L
def Zqu(l:List Pt)(ex:Bool)(f:0<l.length)(e:l.length<=1000000):pfn rE 250 [.isl false ex 2<|l.map Pt.enc]=some (Iy 2<|l.map Pt.enc):=by
 have b:(l.map Pt.enc).all (fits 2)=true:=by
  rw[ZU3,ZSw];intro x _;rfl
 have d:(l.map Pt.enc).isEmpty=false:=by
  cases l with
  |nil=>exact absurd f<|Nat.not_lt_zero _
  |cons x r=>rfl
 have a:Nat.ble l.length 1000000=true:=ZTn e;have h:Z4 (l.map Pt.enc)=true:=Zw (λt=>rfl) _
 have c:List.take l.length (l.map Pt.enc)=l.map Pt.enc:=ZSR<|by simp
 have g:fnV rE 250 [.isl false ex 2<|l.map Pt.enc] []=some (.sl 0 l.length 0 l.length false,[.row 2<|l.map Pt.enc]):=by
  rw[V8 (s:=ZO3 2) rfl];simp only[ZO3,Q2,Qq,b,d,ZSs,a,beq_self_eq_true,ZSU,ZSW,ZSK,cond_true,ZSz,ZT1]
 unfold pfn;rw[g,ZM];simp only[go_sem,h,c,ZSs,ZTq,beq_self_eq_true]
def Zqv(e:Gt)(r:EvS e):pfn rE 133 [evA e]=some (Iy 2<|(ZoM e).map Pt.enc):=by
 have c:=NH e r;have w:=Zqt e (by have:=r.lst;omega)
 have q:∀D:List Pt,Z4 (D.map Pt.enc)=true:=λD=>Zw (λt=>rfl) _
 have o:List.take e.Lst.l.length ((e.Lst.l.map (·.bg)).map Pt.enc)=(e.Lst.l.map (·.bg)).map Pt.enc:=ZSR<|by simp
 have h:=Zqs (e:=e);rw[Z5 (f:=133) rfl rfl];unfold ZoM;simp only[evA]at c;cases m:Q9 e with
 |false=>
  rw[m]at c;simp only[go_sem,c133,c,ZSK,cond_true,ZSS]
 |true=>
 rw[m]at c;have b:(e.br==1||(e.br==2||e.br==5))=true->∀x,pfn rE 250 [.isl false x 2<|(e.Path.l.take 1).map Pt.enc]=some (Iy 2<|(e.Path.l.take 1).map Pt.enc):=λp x=>Zqu _ _ (by have:=h m p;rw[ZTk];omega)<|by rw[ZTk];omega
 have a:(e.br==1||(e.br==2||e.br==5))=true->bounds none (some<|I 1) none e.Path.l.length=some (0,1,none):=λp=>by
  have v:=h m p;have u:Nat.ble 1 e.Path.l.length=true:=ZTn v;simp[bounds,Vz,Wl,VA,numOf,VB,u];rfl
 have n:List.take 1 (e.Path.l.map Pt.enc)=(e.Path.l.take 1).map Pt.enc:=List.map_take.symm;cases d:e.br==1 with
 |true=>
  rw[d]at b a;have b:=b rfl;have a:=a rfl;simp only[go_sem,c133,c133L0,c,d,a,n,b,ZSI,cond_false,cond_true,ZSU,if_true]
 |false=>
 cases g:e.br==2 with
 |true=>
  rw[d,g]at b a;have b:=b rfl;have a:=a rfl;simp only[go_sem,c133,c133L0,c,d,g,a,n,b,ZSI,cond_false,cond_true,ZSU,ZT9,if_true]
 |false=>
 cases j:e.br==5 with
 |true=>
  rw[d,g,j]at b a;have b:=b rfl;have a:=a rfl;simp only[go_sem,c133,c133L0,c,d,g,j,a,n,b,ZSI,cond_false,cond_true,ZT9,if_true]
 |false=>
 cases k:e.br==6 with
 |true=>simp only[go_sem,c133,c133L0,c,d,g,j,k,ZSI,cond_false,cond_true,ZSU,ZT5,ZSx,ZSS,Pt.enc]
 |false=>
 cases i:e.br==10 with
 |true=>simp only[go_sem,c133,c133L0,c,d,g,j,k,i,ZSI,cond_false,cond_true,ZT9,ZT5,ZSx,ZSS,Pt.enc]
 |false=>
 cases s:e.br==9 with
 |true=>simp only[go_sem,c133,c133L0,c,w,d,g,j,k,i,s,ZSI,cond_false,cond_true,ZT5,q,o,ZSs,ZTq,beq_self_eq_true]
 |false=>simp only[go_sem,c133,c133L0,c,d,g,j,k,i,s,ZSI,cond_false,cond_true,ZT5,ZSS]
abbrev rqL(s:Sta)(e:Gt)(a m:Int):List AV:=[ldI s,I e.br,I e.Day,I e.A,I e.B,I e.bz,.str e.Id,.str e.bv,.str e.Text,.isl false e.Ids.ex 1<|e.Ids.l.map encS,.isl false e.bm.ex 3<|e.bm.l.map Nm.enc,
 I e.An.N,.str e.An.bn,I e.An.Num,I e.An.Den,I e.bg.X,I e.bg.Y,.isl false e.Path.ex 2<|e.Path.l.map Pt.enc,.isl false e.Lst.ex 7<|e.Lst.l.map Ent.enc,I a,I m]
abbrev rqI(s:Sta)(e:Gt)(a m:Int):AV:=.iptr false<|rqL s e a m
structure RqS(s:Sta)(e:Gt)(m:Int):Prop where
 c:ClS s
 ev:EvS e
 f:Q9 e=true
 m:0<=m/\m<=63
def Zp0(s:Sta)(e:Gt)(a m:Int):Int:=bif (e.br==14&&a != 0)||(e.br==13&&Zoq s e.B != m)then 18 else 0
def Zqw(s:Sta)(e:Gt)(a m:Int)(h:RqS s e m):pfn rE 73 [rqI s e a m]=some (I<|Zp0 s e a m):=by
 have j:(e.br==13)=true->pfn rE 72 [ldI s,I e.B]=some (I<|Zoq s e.B):=λq=>by
  have o:=ZcV h.f;rw[ZcW (k:=13)<|by simpa using q]at o
  have g:K5 e.A e.B=true:=o;unfold K5 ZD at g;simp only[ZSq,decide_eq_true_eq]at g;exact h.c.mst<|by omega
 have l:=Zow s;have p:=Zot s;rw[Z5 (f:=73) rfl rfl];unfold Zp0;cases i:e.br==14 with
 |true=>
  have b:(e.br==13)=false:=by
   rw[(by simpa using i:e.br=14)]
   rfl
  cases n:a != 0 with
  |true=>simp only[go_sem,c73,i,n,b,ZSB,ZSU,cond_true]
  |false=>simp only[go_sem,c73,i,n,b,ZSB,ZSO,ZT5,cond_false]
 |false=>
  cases b:e.br==13 with
  |false=>simp only[go_sem,c73,i,b,ZSO,ZT5,cond_false]
  |true=>
   have j:=j b;cases d:Zoq s e.B != m<;>simp only[go_sem,c73,i,b,d,j,l,ZSB,ZSO,ZT5,cond_true,cond_false]
def Zp5(s:Sta)(e:Gt)(m:Int):Int:=bif e.br==15&&!s.Fa.any (λx=>ZoG x&&Zoq s x.bh==m)then 18 else 0
def Zqx(s:Sta)(e:Gt)(a m:Int)(h:RqS s e m)(x:Gk)(d:x∈s.Fa):pfn rE 129 [x.enc,.iptr false [rqI s e a m]]=some (.bool<|ZoG x&&Zoq s x.bh==m):=by
 have b:=ZpM x;have g:=h.c.mst (h.c.reg d).1;have j:=Zow s;have i:=Zot s;simp only[Gk.enc,NL.enc]at b;rw[Z5 (f:=129) rfl rfl];cases c:ZoG x with
 |false=>
  rw[c]at b;simp only[go_sem,c129,Gk.enc,NL.enc,b,ZSO]
 |true=>
  rw[c]at b;simp only[go_sem,c129,Gk.enc,NL.enc,b,g,ZSB]
def ZpP(l:List Gk)(c:l.length<=1000000)(p:Gk->Bool)(g:Nat)(cap:List AV)(a:Z4 cap=true)(b:∀x∈l,pfn rE g (x.enc::cap)=some (.bool<|p x)):pfn rE 131 [Iy 6<|l.map Gk.enc,.clo (.func g) [] cap]=some (.bool<|l.any p):=by
 have h:=WF (E:=rE) (f:=249) (sz:=6) (n:=some 6) (enc:=Gk.enc) (p:=p) (g:=g) (cap:=cap) rfl rfl a l (by omega) (λx _=>x.el) b false false
 rw[Z5 (f:=131) rfl rfl,<-Vg];unfold WG;simp only[go_sem,c131,h,a]
def Zqy(s:Sta)(e:Gt)(a m:Int)(h:RqS s e m):pfn rE 75 [rqI s e a m]=some (I<|Zp5 s e m):=by
 have j:=Zow s;have i:=Zot s;have k:Z4 [.iptr false [rqI s e a m]]=true:=by simp only[go_sem]
 have g:=ZpP s.Fa (by have:=h.c.E.sizes.regions;omega) (λx=>ZoG x&&Zoq s x.bh==m) 129 [.iptr false [rqI s e a m]] k<|Zqx s e a m h
 rw[Z5 (f:=75) rfl rfl];unfold Zp5;cases d:e.br==15 with
 |false=>simp only[go_sem,c75,d,ZSO,cond_false]
 |true=>
  generalize s.Fa.any (λx=>ZoG x&&Zoq s x.bh==m)=b at*
  cases b<;>simp only[go_sem,c75,d,g,ZSB,ZSI,ZSK,cond_true,cond_false]
def plE(s:Sta)(m:Int):List Pt->Int
 |[]=>0
 |p::r=>bif !(ZoH s p).any (λx=>m==x)then 18 else bif (ZoH s p).any (λc=>c != m&&!ZoW s m c)then 19 else plE s m r
def Zp1(s:Sta)(e:Gt)(a m:Int):Int:=
 bif e.br==1 then bif s.Fa.any (λx=>Z3 x.Id e.Id)then 0 else bif e.A==1&&a==0 then 18 else bif e.A==1 then 0 else plE s m<|ZoM e
 else plE s m<|ZoM e
def ZpQ{s:Sta}(h:ClS s):∀p∈s.ba,pfn rE 72 [ldI s,I p.a]=some (I<|Zoq s p.a)/\pfn rE 72 [ldI s,I p.b]=some (I<|Zoq s p.b):=by
 intro p d;have c:=h.prop.pa;unfold WK at c;simp only[ZSq]at c;have:=Zpo<|ZSw.1 c.2.1 p d;exact⟨h.mst this.1.1,h.mst this.2.1⟩
def Zqz(l:List Int)(c:l.length<=1000000)(p:Int->Bool)(g:Nat)(cap:List AV)(a:Z4 cap=true)(b:∀x∈l,pfn rE g (I x::cap)=some (.bool<|p x)):pfn rE 136 [Iy 1<|l.map I,.clo (.func g) [] cap]=some (.bool<|l.any p):=by
 have h:=WF (E:=rE) (f:=255) (sz:=1) (n:=none) (enc:=I) (p:=p) (g:=g) (cap:=cap) rfl rfl a l (by omega) (λx _=>⟨rfl,rfl⟩) b false false
 rw[Z5 (f:=136) rfl rfl,<-Vg];unfold WG;simp only[go_sem,c136,h,a]
def ZqA(s:Sta)(e:Gt)(a m:Int)(x:Gk):pfn rE 132 [x.enc,.iptr false [rqI s e a m]]=some (.bool<|Z3 x.Id e.Id):=by
 have c:=Zow s;have b:=Zot s;rw[Z5 (f:=132) rfl rfl];simp only[go_sem,c132,Gk.enc,NL.enc]
def ZqB(s:Sta)(e:Gt)(a m:Int)(h:RqS s e m)(c:Int):pfn rE 137 [I c,.iptr false [rqI s e a m]]=some (.bool<|c != m&&!ZoW s m c):=by
 have i:=ZpL s m c h.c.E.sizes.rulings<|ZpQ h.c;have b:=Zow s;have g:=Zot s;rw[Z5 (f:=137) rfl rfl];cases d:c != m with
 |false=>simp only[go_sem,c137,d,ZSO]
 |true=>simp only[go_sem,c137,d,i,b,ZSB]
def ZqC(s:Sta)(h:ClS s)(p:Pt):(ZoH s p).length<=100000:=by
 unfold ZoH;rw[(Zp3 _).length_eq];have G:∀(l:List Gk)(K:List Int),(l.foldl (ZoF s p) K).length<=K.length+l.length:=by
  intro l;induction l with
  |nil=>intro K;exact ZSr _
  |cons x r a=>
   intro K;rw[ZTe,ZSG];refine ZTa (a _) ?_;have:(ZoF s p K x).length<=K.length+1:=by
    unfold ZoF Qi;cases ZoG x&&decide (ZoY x.Ring.l p>=0)with
    |false=>exact ZTu _
    |true=>
     rw[cond_true];cases K.any (Vm<|Zoq s x.bh)with
     |true=>exact ZTu _
     |false=>rw[cond_false,ZSJ];exact ZSr _
   omega
 have:=G s.Fa [];have b:=h.E.sizes.regions;unfold Zoy;simp only[ZT1]at this;omega
def ZpR(s:Sta)(e:Gt)(a m:Int)(h:RqS s e m)(l:List Pt)(C:l.length<=1000):∀(k i:Nat),i+k=l.length->
 ∃fr',(plE s m (l.drop i)=0->Zg rE [1,50,51,52] c76L0b [(1,.iptr false [rqI s e a m]),(50,Iy 2<|l.map Pt.enc),(51,I l.length),(52,I i)] []=some (.exit 1,fr',[]))/\
  (plE s m (l.drop i)≠0->Zg rE [1,50,51,52] c76L0b [(1,.iptr false [rqI s e a m]),(50,Iy 2<|l.map Pt.enc),(51,I l.length),(52,I i)] []=some (.ret,fr',[])/\get fr' 2=I (plE s m<|l.drop i))
 |0,i,hi=>by
  have u:l.drop i=[]:=ZV3<|by omega
  have b:i=l.length:=by omega
  refine⟨[(1,.iptr false [rqI s e a m]),(2,.bot),(50,Iy 2<|l.map Pt.enc),(51,I l.length),(52,I i)],λ_=>?_,λp=>?_⟩
  .rw[b];refine Q7 rfl ?_ (by simp)
   simp only[go_sem,c76L0b,ZG]
  .rw[u]at p;exact absurd rfl p
 |k+1,i,hi=>by
  obtain⟨x,g⟩:∃x,l[i]?=some x:=⟨_,ZSu<|by omega⟩
  have v:=Z6 (f:=Pt.enc) g;have b:=Zh<|Z7 g;have r:=Zx (n:=i)<|by omega
  have u:l.drop i=x::l.drop (i+1):=by
   rw[ZTD<|Z7 g];congr 1;have:=ZSu<|Z7 g;rw[g]at this;exact(Option.some.inj this).symm
  have F:=Zow s;have D:=Zot s;have p:Z4 [.iptr false [rqI s e a m]]=true:=by simp only[go_sem]
  have t:=ZpO s h.c x;have w:=ZqC s h.c x;have j:=DR (ZoH s x) false m<|by omega
  have o:=Zqz (ZoH s x) (by omega) (λc=>c != m&&!ZoW s m c) 137 [.iptr false [rqI s e a m]] p<|λc _=>ZqB s e a m h c
  rw[u];unfold plE;cases A:(ZoH s x).any (λy=>m==y)with
  |false=>
   rw[A]at j;refine⟨[(1,.iptr false [rqI s e a m]),(2,I 18),(50,Iy 2<|l.map Pt.enc),(51,I l.length),(52,I i)],λq=>?_,λ_=>⟨?_,by simp only[go_sem,ZSK,cond_true]⟩⟩
   .exact absurd (show(18:Int)=0 from q)<|by decide
   .refine Q7 rfl ?_ (by simp)
    simp only[go_sem,c76L0b,v,b,Pt.enc,t,j]
  |true=>
  rw[A]at j;cases z:(ZoH s x).any (λc=>c != m&&!ZoW s m c)with
  |true=>
   rw[z]at o;refine⟨[(1,.iptr false [rqI s e a m]),(2,I 19),(50,Iy 2<|l.map Pt.enc),(51,I l.length),(52,I i)],λq=>?_,λ_=>⟨?_,by simp only[go_sem,ZSI,cond_false,cond_true]⟩⟩
   .exact absurd (show(19:Int)=0 from q)<|by decide
   .refine Q7 rfl ?_ (by simp)
    simp only[go_sem,c76L0b,v,b,Pt.enc,t,j,o]
  |false=>
  rw[z]at o;have⟨fr',E,B⟩:=ZpR s e a m h l C k (i+1)<|by omega
  have d:Zb rE c76L0b [(1,.iptr false [rqI s e a m]),(50,Iy 2<|l.map Pt.enc),(51,I l.length),(52,I i)] []=some (.normal,[(1,.iptr false [rqI s e a m]),(2,.bot),(50,Iy 2<|l.map Pt.enc),(51,I l.length),(52,I (i+1:Nat))],[]):=by
   simp only[go_sem,c76L0b,v,b,r,Pt.enc,t,j,o]
  rw[Yt rfl d];exact⟨fr',E,B⟩
def ZqD(s:Sta)(e:Gt)(a m:Int)(h:RqS s e m):pfn rE 76 [rqI s e a m]=some (I<|Zp1 s e a m):=by
 have t:=Zow s;have r:=Zot s;have u:Z4 [.iptr false [rqI s e a m]]=true:=by simp only[go_sem]
 have b:=ZpP s.Fa (by have:=h.c.E.sizes.regions;omega) (λx=>Z3 x.Id e.Id) 132 [.iptr false [rqI s e a m]] u<|λx _=>ZqA s e a m x
 have g:=Zqv e h.ev;have i:(ZoM e).length<=1000:=by
  unfold ZoM;have w:=h.ev.lst;cases Q9 e with
  |false=>exact ZSt _
  |true=>
  cases e.br==1||(e.br==2||e.br==5)with
  |true=>show(e.Path.l.take 1).length<=1000;rw[ZTk];omega
  |false=>
  cases e.br==6||e.br==10 with
  |true=>show 1<=1000;omega
  |false=>
  cases e.br==9 with
  |true=>show(e.Lst.l.map (·.bg)).length<=1000;rw[ZSs];omega
  |false=>exact ZSt _
 have L:=ZpR s e a m h (ZoM e) i (ZoM e).length 0<|by omega
 rw[ZTq]at L;have⟨fr',k,l2⟩:=L;simp only[evA]at g;rw[Z5 (f:=76) rfl rfl];unfold Zp1;have v:((0:Nat):Int)=0:=rfl;rw[v]at k l2;by_cases p:plE s m (ZoM e)=0
 .have k:=k p;rw[p];cases d:e.br==1 with
  |false=>simp only[go_sem,c76,c76L0,d,g,k,cond_false,ZSs]
  |true=>
   cases n:s.Fa.any (λx=>Z3 x.Id e.Id)with
   |true=>
    rw[n]at b;simp only[go_sem,c76,c76L0,d,b,cond_true]
   |false=>
   rw[n]at b;cases j:e.A==1 with
   |false=>simp only[go_sem,c76,c76L0,d,j,b,g,k,cond_true,cond_false,ZSO,ZSs]
   |true=>cases o:a==0<;>simp only[go_sem,c76,c76L0,d,j,o,b,cond_true,cond_false,ZSB]
 .have⟨l2,q⟩:=l2 p;cases d:e.br==1 with
  |false=>simp only[go_sem,c76,c76L0,d,g,l2,q,cond_false,ZSs]
  |true=>
   cases n:s.Fa.any (λx=>Z3 x.Id e.Id)with
   |true=>
    rw[n]at b;simp only[go_sem,c76,c76L0,d,b,cond_true]
   |false=>
   rw[n]at b;cases j:e.A==1 with
   |false=>simp only[go_sem,c76,c76L0,d,j,b,g,l2,q,cond_true,cond_false,ZSO,ZSs]
   |true=>cases o:a==0<;>simp only[go_sem,c76,c76L0,d,j,o,b,cond_true,cond_false,ZSB]
def kOf(a:List Int)(e:Gt):Bool:=a.any<|λx=>e.br==x
def ZoJ(e:Gt)(a:List Int)(ex:Bool)(b:a.length<=1000):pfn rE 245 [.isl false ex 1<|a.map I,evI e]=some (.bool<|kOf a e):=by
 have h:=DR a ex e.br<|by omega
 rw[Z5 (f:=245) rfl rfl];unfold kOf;simp only[go_sem,c245,h]
def Zor(s:Sta)(e:Gt):List Str:=
 (((e.Ids.l++bif kOf [9,12] e then [e.Id]else [])++bif kOf [7] e then [e.bv]else [])++bif kOf [8] e then e.Lst.l.map (·.Id)else [])++bif kOf [12] e then(s.Nk.filter<|λu=>Z3 u.Id e.Id).map (·.Ga)else []
def ZoQ(e:Gt)(x:Gk):Bool:=kOf [1,3,12] e&&Z3 x.Id e.Id
def ZoR(e:Gt)(x:By):Bool:=(kOf [3,4,8,12] e&&Z3 x.Id e.Id)||((kOf [4] e&&Z3 x.Id e.bv)||(kOf [6] e&&Z3 x.Id e.Text))
def ZoS(e:Gt)(x:Ev):Bool:=(kOf [11] e&&Z3 x.Id e.Id)||(kOf [6] e&&Z3 x.Id e.bv)
def ZoT(l:List Str)(x:Ga):Bool:=l.any<|λy=>Z3 x.Id y
def Zou(s:Sta)(m o:Int):Bool:=Zoq s o==m
def Zpb(s:Sta)(e:Gt)(m:Int):Bool:=
 s.Fa.all (λx=>!ZoQ e x||Zou s m x.bh)&&(s.Gm.all (λx=>!ZoR e x||Zou s m x.bh)&&(s.Bt.all (λx=>!ZoS e x||Zou s m x.bh)&&s.Bc.all (λx=>!ZoT (Zor s e) x||Zou s m x.bh)))
def Zp6(s:Sta)(e:Gt)(m:Int):Int:=bif Zpb s e m then 0 else 18
def ZoA(s:Sta)(e:Gt)(a m:Int):Fr:=[(1,.iptr false [rqI s e a m]),(2,.ptr 0 0 0 1),(12,.clo (.func 247) [] [.iptr false [ldI s],.ptr 1 0 0 1,evI e,.ptr 3 0 0 1])]
def thX(s:Sta)(e:Gt)(a m:Int)(n:Int)(b:LoopState)(ex:AExit)(l:List Str):Hp:=[.row 1 [I n],.row 1 [.clo (.func 245) [] [evI e]],.row 1<|l.map encS,.row 1 [.sl 2 l.length 0 l.length false],.loop b ex (ZoA s e a m) [13] c74R0a c74R0b]
abbrev thH(s:Sta)(e:Gt)(a m:Int):Hp:=thX s e a m 0 .ready .normal<|Zor s e
abbrev thD(s:Sta)(e:Gt)(a m:Int):Hp:=thX s e a m 18 .done .ret<|Zor s e
def ZoI(s:Sta)(e:Gt)(a m:Int):Zd 5 (frV<|ZoA s e a m)=true/\Zd 6 (frV<|ZoA s e a m)=true:=by
 have g:=Zot s;have d:=Zow s;have i:Z4 [rqI s e a m,ldI s,evI e]=true:=by simp only[go_sem,d]
 have b:=λn=>ZN (n:=n) _ i
 simp only[Zd,ZSq]at b;constructor
 .have⟨h,f,c,_⟩:=b 5;simp only[go_sem,ZoA,c]
 .have⟨h,f,c,_⟩:=b 6;simp only[go_sem,ZoA,c]
def Zpc(s:Sta)(e:Gt)(a m:Int)(o:Int)(q:AObj)(f:∀n,Zj n q=true)(j:pfn rE 72 [ldI s,I o]=some (I<|Zoq s o)):
 U4 rE 4 [I o] (thH s e a m++[q])=some (bif Zou s m o then(.bool true,thH s e a m++[q])else(.bool false,thD s e a m++[q])):=by
 have r:=Zow s;have p:=Zot s;have⟨l,k⟩:=ZoI s e a m;unfold Zou;have i:∀n,Zd n ((Zor s e).map encS)=true:=λn=>ZN _<|Zw (λt=>rfl) _
 cases c:Zoq s o==m with
 |true=>
  have h:=Ss (E:=rE) (b:=4) (a:=[I o]) (h:=thH s e a m++[q]) (fr:=ZoA s e a m) (ps:=[13]) (assign:=c74R0a) (body:=c74R0b)
   (g:=(13,I o)::ZoA s e a m) rfl rfl (by simp only[go_sem,c74R0a,thX,ZoA,ZSv,ZSz]<;>rfl) (by rfl)
   (e:=.normal) (t:=[]) (s:=thX s e a m 0 .busy .normal (Zor s e)++[q])
   (by
    have d:(Zoq s o != m)=false:=by rw[bne,c];rfl
    simp only[go_sem,c74R0b,thX,ZoA,ZSv,ZSz,j,d,f,i]<;>rfl) (by rfl)
  exact h
 |false=>
  have h:=Ss (E:=rE) (b:=4) (a:=[I o]) (h:=thH s e a m++[q]) (fr:=ZoA s e a m) (ps:=[13]) (assign:=c74R0a) (body:=c74R0b)
   (g:=(13,I o)::ZoA s e a m) rfl rfl (by simp only[go_sem,c74R0a,thX,ZoA,ZSv,ZSz]<;>rfl) (by rfl)
   (e:=.ret) (t:=[]) (s:=thX s e a m 18 .busy .normal (Zor s e)++[q])
   (by
    have d:(Zoq s o != m)=true:=by rw[bne,c];rfl
    simp only[go_sem,c74R0b,thX,ZoA,ZSv,ZSz,j,d,f,i]<;>rfl) (by rfl)
  exact h
def ZpS(s:Sta)(e:Gt)(a m:Int)(h:RqS s e m)(i:Nat)(x:Gk)(q:s.Fa[i]?=some x)(B:s.Fa.length<=1000)(y:0<=x.bh):
 Zb rE c247L0b [(0,.yld 4),(1,.iptr false [ldI s]),(2,.ptr 1 0 0 1),(3,evI e),(4,.ptr 3 0 0 1),(20,Iy 6<|s.Fa.map Gk.enc),(21,I s.Fa.length),(22,I i)] (thH s e a m)=bif !ZoQ e x||Zou s m x.bh then some (.normal,[(0,.yld 4),(1,.iptr false [ldI s]),(2,.ptr 1 0 0 1),(3,evI e),(4,.ptr 3 0 0 1),(20,Iy 6<|s.Fa.map Gk.enc),(21,I s.Fa.length),(22,I (i+1:Nat))],thH s e a m)else some (.ret,[(0,.yld 4),(1,.iptr false [ldI s]),(2,.ptr 1 0 0 1),(3,evI e),(4,.ptr 3 0 0 1),(20,Iy 6<|s.Fa.map Gk.enc),(21,I s.Fa.length),(22,I i)],thD s e a m):=by
 have u:=Z6 (f:=Gk.enc) q;have l:=Zh<|Z7 q;have g:=Zx (n:=i) (by have:=Z7 q;omega)
 have A:=Zow s;have z:=Zot s;have⟨d,j⟩:=ZoI s e a m;have r:∀n,Zd n ((Zor s e).map encS)=true:=λn=>ZN _<|Zw (λt=>rfl) _
 have o:∀n,Zj n (.row 6 [x.enc])=true:=λn=>ZN (n:=n) [x.enc]<|Zw (f:=Gk.enc) (λt=>rfl) [x]
 have p:=Zpc s e a m x.bh (.row 6 [x.enc]) o<|h.c.mst y;simp only[thX,ZSv,ZSz,Gk.enc,NL.enc]at p;simp only[Gk.enc,NL.enc]at o;have b:=ZoJ e [1,3,12] false<|by decide
 simp only[ZSx,ZSS]at b;unfold ZoQ;cases w:kOf [1,3,12] e with
 |false=>
  rw[w]at b;simp only[go_sem,c247L0b,thX,u,l,g,d,j,o,r,Gk.enc,NL.enc,ZSK,ZSU,ZSB,ZSO,cond_true,cond_false,b]
 |true=>
 rw[w]at b;cases v:Z3 x.Id e.Id with
 |false=>simp only[go_sem,c247L0b,thX,u,l,g,d,j,o,r,Gk.enc,NL.enc,ZSK,ZSU,ZSB,ZSO,cond_true,cond_false,b,v]
 |true=>cases k:Zou s m x.bh<;>rw[k]at p<;>simp only[cond_true,cond_false]at p<;>simp only[go_sem,c247L0b,thX,S3,u,l,g,d,j,o,r,p,Gk.enc,NL.enc,ZSI,ZSK,ZTU,ZT9,ZSB,ZSO,cond_true,cond_false,b,v]
set_option maxHeartbeats 4000000 in
def ZpT(s:Sta)(e:Gt)(a m:Int)(h:RqS s e m)(i:Nat)(x:By)(w:s.Gm[i]?=some x)(H:s.Gm.length<=1000)(D:0<=x.bh):
 Zb rE c247L1b [(0,.yld 4),(1,.iptr false [ldI s]),(2,.ptr 1 0 0 1),(3,evI e),(4,.ptr 3 0 0 1),(48,Iy 5<|s.Gm.map By.enc),(49,I s.Gm.length),(50,I i)] (thH s e a m)=bif !ZoR e x||Zou s m x.bh then some (.normal,[(0,.yld 4),(1,.iptr false [ldI s]),(2,.ptr 1 0 0 1),(3,evI e),(4,.ptr 3 0 0 1),(48,Iy 5<|s.Gm.map By.enc),(49,I s.Gm.length),(50,I (i+1:Nat))],thH s e a m)else some (.ret,[(0,.yld 4),(1,.iptr false [ldI s]),(2,.ptr 1 0 0 1),(3,evI e),(4,.ptr 3 0 0 1),(48,Iy 5<|s.Gm.map By.enc),(49,I s.Gm.length),(50,I i)],thD s e a m):=by
 have A:=Z6 (f:=By.enc) w;have p:=Zh<|Z7 w;have q:=Zx (n:=i) (by have:=Z7 w;omega)
 have F:=Zow s;have E:=Zot s;have⟨o,r⟩:=ZoI s e a m;have z:∀n,Zd n ((Zor s e).map encS)=true:=λn=>ZN _<|Zw (λt=>rfl) _
 have v:∀n,Zj n (.row 5 [x.enc])=true:=λn=>ZN (n:=n) [x.enc]<|Zw (f:=By.enc) (λt=>rfl) [x]
 have u:=Zpc s e a m x.bh (.row 5 [x.enc]) v<|h.c.mst D;simp only[thX,ZSv,ZSz,By.enc,NL.enc]at u;simp only[By.enc,NL.enc]at v;have g:=ZoJ e [3,4,8,12] false<|by decide
 simp only[ZSx,ZSS]at g;have d:=ZoJ e [4] false<|by decide
 simp only[ZSx,ZSS]at d;have b:=ZoJ e [6] false<|by decide
 simp only[ZSx,ZSS]at b;unfold ZoR;cases G:kOf [3,4,8,12] e<;>cases l:kOf [4] e<;>cases k:kOf [6] e<;>rw[G]at g<;>rw[l]at d<;>rw[k]at b<;>cases C:Z3 x.Id e.Id<;>cases B:Z3 x.Id e.bv<;>cases y:Z3 x.Id e.Text<;>
  (first|(simp only[go_sem,c247L1b,thX,S3,A,p,q,o,r,v,z,u,By.enc,NL.enc,ZSI,ZSK,ZT5,ZSU,ZTU,ZT9,ZSB,ZSO,cond_true,cond_false,g,d,b,C,B,y];done)|(cases j:Zou s m x.bh<;>rw[j]at u<;>simp only[cond_true,cond_false]at u<;>simp only[go_sem,c247L1b,thX,S3,A,p,q,o,r,v,z,u,By.enc,NL.enc,ZSI,ZSK,ZTU,ZT9,ZSB,ZSO,cond_true,cond_false,g,d,b,C,B,y]))
set_option maxHeartbeats 1000000 in
def ZpU(s:Sta)(e:Gt)(a m:Int)(h:RqS s e m)(i:Nat)(x:Ev)(u:s.Bt[i]?=some x)(E:s.Bt.length<=1000)(A:0<=x.bh):
 Zb rE c247L2b [(0,.yld 4),(1,.iptr false [ldI s]),(2,.ptr 1 0 0 1),(3,evI e),(4,.ptr 3 0 0 1),(102,Iy 4<|s.Bt.map Ev.enc),(103,I s.Bt.length),(104,I i)] (thH s e a m)=bif !ZoS e x||Zou s m x.bh then some (.normal,[(0,.yld 4),(1,.iptr false [ldI s]),(2,.ptr 1 0 0 1),(3,evI e),(4,.ptr 3 0 0 1),(102,Iy 4<|s.Bt.map Ev.enc),(103,I s.Bt.length),(104,I (i+1:Nat))],thH s e a m)else some (.ret,[(0,.yld 4),(1,.iptr false [ldI s]),(2,.ptr 1 0 0 1),(3,evI e),(4,.ptr 3 0 0 1),(102,Iy 4<|s.Bt.map Ev.enc),(103,I s.Bt.length),(104,I i)],thD s e a m):=by
 have w:=Z6 (f:=Ev.enc) u;have l:=Zh<|Z7 u;have o:=Zx (n:=i) (by have:=Z7 u;omega)
 have C:=Zow s;have B:=Zot s;have⟨k,p⟩:=ZoI s e a m;have v:∀n,Zd n ((Zor s e).map encS)=true:=λn=>ZN _<|Zw (λt=>rfl) _
 have r:∀n,Zj n (.row 4 [x.enc])=true:=λn=>ZN (n:=n) [x.enc]<|Zw (f:=Ev.enc) (λt=>rfl) [x]
 have q:=Zpc s e a m x.bh (.row 4 [x.enc]) r<|h.c.mst A;simp only[thX,ZSv,ZSz,Ev.enc,NL.enc]at q;simp only[Ev.enc,NL.enc]at r;have d:=ZoJ e [11] false<|by decide
 simp only[ZSx,ZSS]at d;have b:=ZoJ e [6] false<|by decide
 simp only[ZSx,ZSS]at b;unfold ZoS;cases D:kOf [11] e<;>cases j:kOf [6] e<;>rw[D]at d<;>rw[j]at b<;>cases z:Z3 x.Id e.Id<;>cases y:Z3 x.Id e.bv<;>
  (first|(simp only[go_sem,c247L2b,thX,S3,w,l,o,k,p,r,v,q,Ev.enc,NL.enc,ZSI,ZSK,ZT5,ZSU,ZTU,ZT9,ZSB,ZSO,cond_true,cond_false,d,b,z,y];done)|(cases g:Zou s m x.bh<;>rw[g]at q<;>simp only[cond_true,cond_false]at q<;>simp only[go_sem,c247L2b,thX,S3,w,l,o,k,p,r,v,q,Ev.enc,NL.enc,ZSI,ZSK,ZTU,ZT9,ZSB,ZSO,cond_true,cond_false,d,b,z,y]))
def ZpV(s:Sta)(e:Gt)(a m:Int)(h:RqS s e m)(i:Nat)(x:Ga)(u:s.Bc[i]?=some x)(E:s.Bc.length<=1000)(A:0<=x.bh)(B:(Zor s e).length<=100000):
 Zb rE c247L3b [(0,.yld 4),(4,.ptr 3 0 0 1),(142,Iy 16<|s.Bc.map Ga.enc),(143,I s.Bc.length),(144,I i)] (thH s e a m)=bif !ZoT (Zor s e) x||Zou s m x.bh then some (.normal,[(0,.yld 4),(4,.ptr 3 0 0 1),(142,Iy 16<|s.Bc.map Ga.enc),(143,I s.Bc.length),(144,I (i+1:Nat))],thH s e a m)else some (.ret,[(0,.yld 4),(4,.ptr 3 0 0 1),(142,Iy 16<|s.Bc.map Ga.enc),(143,I s.Bc.length),(144,I i)],thD s e a m):=by
 have w:=Z6 (f:=Ga.enc) u;have g:=Zh<|Z7 u;have j:=Zx (n:=i) (by have:=Z7 u;omega)
 have D:=Zow s;have C:=Zot s;have⟨d,k⟩:=ZoI s e a m;have v:∀n,Zd n ((Zor s e).map encS)=true:=λn=>ZN _<|Zw (λt=>rfl) _
 have q:∀n,Zj n (.row 16 [x.enc])=true:=λn=>ZN (n:=n) [x.enc]<|Zw (f:=Ga.enc) (λt=>rfl) [x]
 have r:=Zpc s e a m x.bh (.row 16 [x.enc]) q<|h.c.mst A;simp only[thX,ZSv,ZSz,Ga.enc,NL.enc]at r;simp only[Ga.enc,NL.enc]at q;unfold ZoT;have p:=Zqr (Zor s e) B x.Id true false;have l:Z4 ((Zor s e).map encS)=true:=Zw (λt=>rfl) _
 have o:List.take (Zor s e).length ((Zor s e).map encS)=(Zor s e).map encS:=ZSR<|by simp
 cases z:(Zor s e).any (λy=>Z3 x.Id y)with
 |false=>
  rw[z]at p;simp only[go_sem,c247L3b,thX,w,g,j,d,k,q,v,Ga.enc,NL.enc,ZSK,ZSU,ZSB,ZSO,cond_true,cond_false,p,l,o,ZSs,ZTq,beq_self_eq_true]
 |true=>
  rw[z]at p;cases b:Zou s m x.bh<;>rw[b]at r<;>simp only[cond_true,cond_false]at r<;>simp only[go_sem,c247L3b,thX,S3,w,g,j,d,k,q,v,r,Ga.enc,NL.enc,ZSI,ZSK,ZTU,ZT9,ZSB,ZSO,cond_true,cond_false,p,l,o,ZSs,ZTq,beq_self_eq_true]
def ZqE(s:Sta)(e:Gt)(a m:Int)(h:RqS s e m)(j:s.Fa.length<=1000)(g:∀x∈s.Fa,0<=x.bh):
 ∃fr' h',Zg rE [0,1,2,3,4,20,21,22] c247L0b [(0,.yld 4),(1,.iptr false [ldI s]),(2,.ptr 1 0 0 1),(3,evI e),(4,.ptr 3 0 0 1),(20,Iy 6<|s.Fa.map Gk.enc),(21,I s.Fa.length),(22,.int .i64 0)] (thH s e a m)=some (if s.Fa.all (λx=>!ZoQ e x||Zou s m x.bh)=true then .exit 0 else .ret,fr',h')/\
  (s.Fa.all (λx=>!ZoQ e x||Zou s m x.bh)=true->fr'=[(0,.yld 4),(1,.iptr false [ldI s]),(2,.ptr 1 0 0 1),(3,evI e),(4,.ptr 3 0 0 1),(20,Iy 6<|s.Fa.map Gk.enc),(21,I s.Fa.length),(22,I s.Fa.length)]/\h'=thH s e a m)/\(s.Fa.all (λx=>!ZoQ e x||Zou s m x.bh)=false->h'=thD s e a m):=by
 have o:=Zot s;have p:=Zow s;have⟨d,k⟩:=ZoI s e a m;have l:∀n,Zd n ((Zor s e).map encS)=true:=λn=>ZN _<|Zw (λt=>rfl) _
 have L:=Jk (E:=rE) (live:=[0,1,2,3,4,20,21,22]) (b:=c247L0b) s.Fa (λ_ x=>!ZoQ e x||Zou s m x.bh) (λi=>[(0,.yld 4),(1,.iptr false [ldI s]),(2,.ptr 1 0 0 1),(3,evI e),(4,.ptr 3 0 0 1),(20,Iy 6<|s.Fa.map Gk.enc),(21,I s.Fa.length),(22,I i)]) (λ_=>thH s e a m) 0
  (λfr h'=>fr=[(0,.yld 4),(1,.iptr false [ldI s]),(2,.ptr 1 0 0 1),(3,evI e),(4,.ptr 3 0 0 1),(20,Iy 6<|s.Fa.map Gk.enc),(21,I s.Fa.length),(22,I s.Fa.length)]/\h'=thH s e a m) (λ_ h'=>h'=thD s e a m) (λi=>rfl)
  (λi x c f=>by
   have:=ZpS s e a m h i x c j<|g x<|ZSy c;rw[f,cond_true]at this;exact⟨_,this,rfl⟩)
  (λi x c f=>by
   have:=ZpS s e a m h i x c j<|g x<|ZSy c;rw[f,cond_false]at this;exact⟨_,_,this,rfl⟩)
  ⟨[(0,.yld 4),(1,.iptr false [ldI s]),(2,.ptr 1 0 0 1),(3,evI e),(4,.ptr 3 0 0 1),(20,Iy 6<|s.Fa.map Gk.enc),(21,I s.Fa.length),(22,I s.Fa.length)],thH s e a m,by simp only[go_sem,c247L0b,thX,ZG,d,l],rfl,rfl⟩
 rw[QE]at L;exact L
def ZqF(s:Sta)(e:Gt)(a m:Int)(h:RqS s e m)(j:s.Gm.length<=1000)(g:∀x∈s.Gm,0<=x.bh):
 ∃fr' h',Zg rE [0,1,2,3,4,48,49,50] c247L1b [(0,.yld 4),(1,.iptr false [ldI s]),(2,.ptr 1 0 0 1),(3,evI e),(4,.ptr 3 0 0 1),(48,Iy 5<|s.Gm.map By.enc),(49,I s.Gm.length),(50,.int .i64 0)] (thH s e a m)=some (if s.Gm.all (λx=>!ZoR e x||Zou s m x.bh)=true then .exit 2 else .ret,fr',h')/\
  (s.Gm.all (λx=>!ZoR e x||Zou s m x.bh)=true->fr'=[(0,.yld 4),(1,.iptr false [ldI s]),(2,.ptr 1 0 0 1),(3,evI e),(4,.ptr 3 0 0 1),(48,Iy 5<|s.Gm.map By.enc),(49,I s.Gm.length),(50,I s.Gm.length)]/\h'=thH s e a m)/\(s.Gm.all (λx=>!ZoR e x||Zou s m x.bh)=false->h'=thD s e a m):=by
 have o:=Zot s;have p:=Zow s;have⟨d,k⟩:=ZoI s e a m;have l:∀n,Zd n ((Zor s e).map encS)=true:=λn=>ZN _<|Zw (λt=>rfl) _
 have L:=Jk (E:=rE) (live:=[0,1,2,3,4,48,49,50]) (b:=c247L1b) s.Gm (λ_ x=>!ZoR e x||Zou s m x.bh) (λi=>[(0,.yld 4),(1,.iptr false [ldI s]),(2,.ptr 1 0 0 1),(3,evI e),(4,.ptr 3 0 0 1),(48,Iy 5<|s.Gm.map By.enc),(49,I s.Gm.length),(50,I i)]) (λ_=>thH s e a m) 2
  (λfr h'=>fr=[(0,.yld 4),(1,.iptr false [ldI s]),(2,.ptr 1 0 0 1),(3,evI e),(4,.ptr 3 0 0 1),(48,Iy 5<|s.Gm.map By.enc),(49,I s.Gm.length),(50,I s.Gm.length)]/\h'=thH s e a m) (λ_ h'=>h'=thD s e a m) (λi=>rfl)
  (λi x c f=>by
   have:=ZpT s e a m h i x c j<|g x<|ZSy c;rw[f,cond_true]at this;exact⟨_,this,rfl⟩)
  (λi x c f=>by
   have:=ZpT s e a m h i x c j<|g x<|ZSy c;rw[f,cond_false]at this;exact⟨_,_,this,rfl⟩)
  ⟨[(0,.yld 4),(1,.iptr false [ldI s]),(2,.ptr 1 0 0 1),(3,evI e),(4,.ptr 3 0 0 1),(48,Iy 5<|s.Gm.map By.enc),(49,I s.Gm.length),(50,I s.Gm.length)],thH s e a m,by simp only[go_sem,c247L1b,thX,ZG,d,l],rfl,rfl⟩
 rw[QE]at L;exact L
def ZqG(s:Sta)(e:Gt)(a m:Int)(h:RqS s e m)(j:s.Bt.length<=1000)(g:∀x∈s.Bt,0<=x.bh):
 ∃fr' h',Zg rE [0,1,2,3,4,102,103,104] c247L2b [(0,.yld 4),(1,.iptr false [ldI s]),(2,.ptr 1 0 0 1),(3,evI e),(4,.ptr 3 0 0 1),(102,Iy 4<|s.Bt.map Ev.enc),(103,I s.Bt.length),(104,.int .i64 0)] (thH s e a m)=some (if s.Bt.all (λx=>!ZoS e x||Zou s m x.bh)=true then .exit 4 else .ret,fr',h')/\
  (s.Bt.all (λx=>!ZoS e x||Zou s m x.bh)=true->fr'=[(0,.yld 4),(1,.iptr false [ldI s]),(2,.ptr 1 0 0 1),(3,evI e),(4,.ptr 3 0 0 1),(102,Iy 4<|s.Bt.map Ev.enc),(103,I s.Bt.length),(104,I s.Bt.length)]/\h'=thH s e a m)/\(s.Bt.all (λx=>!ZoS e x||Zou s m x.bh)=false->h'=thD s e a m):=by
 have o:=Zot s;have p:=Zow s;have⟨d,k⟩:=ZoI s e a m;have l:∀n,Zd n ((Zor s e).map encS)=true:=λn=>ZN _<|Zw (λt=>rfl) _
 have L:=Jk (E:=rE) (live:=[0,1,2,3,4,102,103,104]) (b:=c247L2b) s.Bt (λ_ x=>!ZoS e x||Zou s m x.bh) (λi=>[(0,.yld 4),(1,.iptr false [ldI s]),(2,.ptr 1 0 0 1),(3,evI e),(4,.ptr 3 0 0 1),(102,Iy 4<|s.Bt.map Ev.enc),(103,I s.Bt.length),(104,I i)]) (λ_=>thH s e a m) 4
  (λfr h'=>fr=[(0,.yld 4),(1,.iptr false [ldI s]),(2,.ptr 1 0 0 1),(3,evI e),(4,.ptr 3 0 0 1),(102,Iy 4<|s.Bt.map Ev.enc),(103,I s.Bt.length),(104,I s.Bt.length)]/\h'=thH s e a m) (λ_ h'=>h'=thD s e a m) (λi=>rfl)
  (λi x c f=>by
   have:=ZpU s e a m h i x c j<|g x<|ZSy c;rw[f,cond_true]at this;exact⟨_,this,rfl⟩)
  (λi x c f=>by
   have:=ZpU s e a m h i x c j<|g x<|ZSy c;rw[f,cond_false]at this;exact⟨_,_,this,rfl⟩)
  ⟨[(0,.yld 4),(1,.iptr false [ldI s]),(2,.ptr 1 0 0 1),(3,evI e),(4,.ptr 3 0 0 1),(102,Iy 4<|s.Bt.map Ev.enc),(103,I s.Bt.length),(104,I s.Bt.length)],thH s e a m,by simp only[go_sem,c247L2b,thX,ZG,d,l],rfl,rfl⟩
 rw[QE]at L;exact L
def ZqH(s:Sta)(e:Gt)(a m:Int)(h:RqS s e m)(j:s.Bc.length<=1000)(g:∀x∈s.Bc,0<=x.bh)(k:(Zor s e).length<=100000):
 ∃fr' h',Zg rE [0,4,142,143,144] c247L3b [(0,.yld 4),(4,.ptr 3 0 0 1),(142,Iy 16<|s.Bc.map Ga.enc),(143,I s.Bc.length),(144,.int .i64 0)] (thH s e a m)=some (if s.Bc.all (λx=>!ZoT (Zor s e) x||Zou s m x.bh)=true then .exit 6 else .ret,fr',h')/\
  (s.Bc.all (λx=>!ZoT (Zor s e) x||Zou s m x.bh)=true->fr'=[(0,.yld 4),(4,.ptr 3 0 0 1),(142,Iy 16<|s.Bc.map Ga.enc),(143,I s.Bc.length),(144,I s.Bc.length)]/\h'=thH s e a m)/\(s.Bc.all (λx=>!ZoT (Zor s e) x||Zou s m x.bh)=false->h'=thD s e a m):=by
 have p:=Zot s;have q:=Zow s;have⟨d,l⟩:=ZoI s e a m;have o:∀n,Zd n ((Zor s e).map encS)=true:=λn=>ZN _<|Zw (λt=>rfl) _
 have L:=Jk (E:=rE) (live:=[0,4,142,143,144]) (b:=c247L3b) s.Bc (λ_ x=>!ZoT (Zor s e) x||Zou s m x.bh) (λi=>[(0,.yld 4),(4,.ptr 3 0 0 1),(142,Iy 16<|s.Bc.map Ga.enc),(143,I s.Bc.length),(144,I i)]) (λ_=>thH s e a m) 6
  (λfr h'=>fr=[(0,.yld 4),(4,.ptr 3 0 0 1),(142,Iy 16<|s.Bc.map Ga.enc),(143,I s.Bc.length),(144,I s.Bc.length)]/\h'=thH s e a m) (λ_ h'=>h'=thD s e a m) (λi=>rfl)
  (λi x c f=>by
   have:=ZpV s e a m h i x c j (g x<|ZSy c) k;rw[f,cond_true]at this;exact⟨_,this,rfl⟩)
  (λi x c f=>by
   have:=ZpV s e a m h i x c j (g x<|ZSy c) k;rw[f,cond_false]at this;exact⟨_,_,this,rfl⟩)
  ⟨[(0,.yld 4),(4,.ptr 3 0 0 1),(142,Iy 16<|s.Bc.map Ga.enc),(143,I s.Bc.length),(144,I s.Bc.length)],thH s e a m,by simp only[go_sem,c247L3b,thX,ZG,d,o],rfl,rfl⟩
 rw[QE]at L;exact L
def owH(e:Gt)(l:List Str):Hp:=[.row 1 [I 0],.row 1 [.clo (.func 245) [] [evI e]],.row 1<|l.map encS,.row 1 [.sl 2 l.length 0 l.length false]]
def Zpd(e:Gt)(l:List Str)(x:Str)(a:l.length<=1000000)(r:List AObj):appW (owH e l++r) true 1 16 (.sl 2 l.length 0 l.length false) (Iy 1 [.str x]) =
 some (.sl 2 (l.length+1) 0 (l.length+1) false,[.row 1 [I 0],.row 1 [.clo (.func 245) [] [evI e]],.row 1<|(l++[x]).map encS,.row 1 [.sl 2 l.length 0 l.length false]]++r):=by
 have:=XC (h:=owH e l++r) (fz:=true) (b:=2) (g:=l.length) (sz:=1) (bytes:=16) (es:=l.map encS) (bw:=false) (ex:=false) (ys:=[.str x]) (by
  show(bif (l.map encS).length==l.length then some (1,l.map encS)else none)=_
  rw[ZSs,beq_self_eq_true];rfl) rfl rfl (by decide) (by decide) (by simp;omega)
 rw[this,ZSF];rfl
def ZoU(e:Gt)(n:Nat):bel n (evI e)=true:=by
 have a:Z4 [evI e]=true:=by simp only[go_sem]
 have:=ZN (n:=n) [evI e] a;unfold Zd at this;rw[ZSq]at this;exact this.1
def ZqI(s:Sta)(e:Gt)(l:List Str)(y:l.length+e.Lst.l.length<=100000):Zg rE [2,3,5,6,35,36,37] c128L0b [(2,.iptr false [ldI s]),(3,evI e),(5,.ptr 1 0 0 1),(6,.ptr 3 0 0 1),(35,.isl false e.Lst.ex 7<|e.Lst.l.map Ent.enc),(36,I e.Lst.l.length),(37,.int .i64 0)] (owH e l) =
 some (.exit 0,[(2,.iptr false [ldI s]),(3,evI e),(5,.ptr 1 0 0 1),(6,.ptr 3 0 0 1),(35,.isl false e.Lst.ex 7<|e.Lst.l.map Ent.enc),(36,I e.Lst.l.length),(37,I e.Lst.l.length)],owH e (l++e.Lst.l.map (·.Id))):=by
 have u:=Zot s;have c:=ZoU e;have p:∀(D:List Str)n,Zd n (D.map encS)=true:=λD n=>ZN _<|Zw (λt=>rfl) _
 have L:=Y8 (E:=rE) (live:=[2,3,5,6,35,36,37]) (b:=c128L0b) e.Lst.l.length (λi=>[(2,.iptr false [ldI s]),(3,evI e),(5,.ptr 1 0 0 1),(6,.ptr 3 0 0 1),(35,.isl false e.Lst.ex 7<|e.Lst.l.map Ent.enc),(36,I e.Lst.l.length),(37,I i)])
  (λi=>owH e (l++(e.Lst.l.take i).map (·.Id))) (λi=>rfl)
  (λi o=>by
   obtain⟨x,m⟩:∃x,e.Lst.l[i]?=some x:=⟨_,ZSu o⟩;have v:=Z6 (f:=Ent.enc) m;have k:=Zh o;have d:=Zx (n:=i)<|by omega
   have j:l++(e.Lst.l.take<|i+1).map (·.Id)=(l++(e.Lst.l.take i).map (·.Id))++[x.Id]:=by
    rw[ZTA,m,ZSF,ZSN];rfl
   have a:(l++(e.Lst.l.take i).map (·.Id)).length<=1000000:=by rw[ZSJ,ZSs,ZTk];omega
   rw[j];generalize l++(e.Lst.l.take i).map (·.Id)=D at*;have r:=λq=>Zpd e D x.Id a [q]
   simp only[owH,ZSv,ZSz]at r;have g:(D++[x.Id]).length=D.length+1:=by simp
   refine⟨[(2,.iptr false [ldI s]),(3,evI e),(5,.ptr 1 0 0 1),(6,.ptr 3 0 0 1),(35,.isl false e.Lst.ex 7<|e.Lst.l.map Ent.enc),(36,I e.Lst.l.length),(37,I (i+1:Nat))],?_,rfl⟩;unfold owH;rw[g];simp only[go_sem,c128L0b,v,k,d,r,Ent.enc,c,p])
  (e:=.exit 0) (fr:=[(2,.iptr false [ldI s]),(3,evI e),(5,.ptr 1 0 0 1),(6,.ptr 3 0 0 1),(35,.isl false e.Lst.ex 7<|e.Lst.l.map Ent.enc),(36,I e.Lst.l.length),(37,I e.Lst.l.length)]) (h:=owH e (l++e.Lst.l.map (·.Id))) (by
   rw[ZSZ];simp only[go_sem,c128L0b,owH,ZG,c,p]) (by simp)
 have w:l++(e.Lst.l.take 0).map (·.Id)=l:=by simp
 rw[w]at L;exact L
def ZqJ(s:Sta)(e:Gt)(l:List Str)(B:l.length+s.Nk.length<=100000):Zg rE [2,3,5,6,54,55,56] c128L1b [(2,.iptr false [ldI s]),(3,evI e),(5,.ptr 1 0 0 1),(6,.ptr 3 0 0 1),(54,Iy 6<|s.Nk.map be.enc),(55,I s.Nk.length),(56,.int .i64 0)] (owH e l) =
 some (.exit 2,[(2,.iptr false [ldI s]),(3,evI e),(5,.ptr 1 0 0 1),(6,.ptr 3 0 0 1),(54,Iy 6<|s.Nk.map be.enc),(55,I s.Nk.length),(56,I s.Nk.length)],owH e (l++(s.Nk.filter<|λu=>Z3 u.Id e.Id).map (·.Ga))):=by
 have y:=Zot s;have a:=ZoU e;have k:∀(D:List Str)n,Zd n (D.map encS)=true:=λD n=>ZN _<|Zw (λt=>rfl) _
 have L:=Y8 (E:=rE) (live:=[2,3,5,6,54,55,56]) (b:=c128L1b) s.Nk.length (λi=>[(2,.iptr false [ldI s]),(3,evI e),(5,.ptr 1 0 0 1),(6,.ptr 3 0 0 1),(54,Iy 6<|s.Nk.map be.enc),(55,I s.Nk.length),(56,I i)])
  (λi=>owH e (l++((s.Nk.take i).filter (λu=>Z3 u.Id e.Id)).map (·.Ga))) (λi=>rfl)
  (λi r=>by
   obtain⟨x,p⟩:∃x,s.Nk[i]?=some x:=⟨_,ZSu r⟩;have w:=Z6 (f:=be.enc) p;have j:=Zh r;have d:=Zx (n:=i)<|by omega
   have o:l++((s.Nk.take<|i+1).filter (λu=>Z3 u.Id e.Id)).map (·.Ga)=(l++((s.Nk.take i).filter (λu=>Z3 u.Id e.Id)).map (·.Ga))++bif Z3 x.Id e.Id then [x.Ga]else []:=by
    rw[ZTA,p,ZUO,ZSF,ZSN];congr 2;show([x].filter _).map _=_
    cases z:Z3 x.Id e.Id<;>simp[z]
   have g:(l++((s.Nk.take i).filter (λu=>Z3 u.Id e.Id)).map (·.Ga)).length<=1000000:=by
    rw[ZSJ,ZSs];have:=ZTS (λu:be=>Z3 u.Id e.Id)<|s.Nk.take i
    rw[ZTk]at this;omega
   rw[o];generalize l++((s.Nk.take i).filter (λu=>Z3 u.Id e.Id)).map (·.Ga)=D at*
   refine⟨[(2,.iptr false [ldI s]),(3,evI e),(5,.ptr 1 0 0 1),(6,.ptr 3 0 0 1),(54,Iy 6<|s.Nk.map be.enc),(55,I s.Nk.length),(56,I (i+1:Nat))],?_,rfl⟩;cases c:Z3 x.Id e.Id with
   |false=>
    rw[cond_false,ZSC];simp only[go_sem,c128L1b,owH,w,j,d,be.enc,c,a,k]
   |true=>
    rw[cond_true];have v:=λq=>Zpd e D x.Ga g [q]
    simp only[owH,ZSv,ZSz]at v;have m:(D++[x.Ga]).length=D.length+1:=by simp
    unfold owH;rw[m];simp only[go_sem,c128L1b,w,j,d,v,be.enc,c,a,k])
  (e:=.exit 2) (fr:=[(2,.iptr false [ldI s]),(3,evI e),(5,.ptr 1 0 0 1),(6,.ptr 3 0 0 1),(54,Iy 6<|s.Nk.map be.enc),(55,I s.Nk.length),(56,I s.Nk.length)]) (h:=owH e (l++(s.Nk.filter<|λu=>Z3 u.Id e.Id).map (·.Ga))) (by
   rw[ZSZ];simp only[go_sem,c128L1b,owH,ZG,a,k]) (by simp)
 have A:l++((s.Nk.take 0).filter (λu=>Z3 u.Id e.Id)).map (·.Ga)=l:=by simp
 rw[A]at L;exact L
def ZqK(l:List Str)(ex:Bool)(c:l.length<=1000000)(h:Hp):fnV rE 246 [.isl false ex 1<|l.map encS] h=some (.sl h.length l.length 0 l.length false,h++[.row 1<|l.map encS]):=by
 have b:Nat.ble l.length 1000000=true:=ZTn c;have a:(l.map encS).all (fits 1)=true:=by rw[ZU3,ZSw];intro x _;rfl
 rw[V8 (s:=J9) rfl];simp only[J9,Q2,Qq,a,ZSs,b,beq_self_eq_true,ZSU,ZSW,cond_true]
def c128_eq:c128=.seq s128p0 (.seq s128p1<|.seq s128p2<|.seq s128p3<|.seq s128p4<|.seq s128p5<|.seq s128p6<|.seq s128p7 .ret):=rfl
def owG(s:Sta)(e:Gt)(k:Nat)(b:Bool):Fr:=bif b then [(2,.iptr false [ldI s]),(3,evI e),(5,.ptr 1 0 0 1),(6,.ptr 3 0 0 1)]else [(2,.iptr false [ldI s]),(3,evI e),(5,.ptr 1 0 0 1),(6,.ptr 3 0 0 1),(k,.bool false)]
def ow1(e:Gt)(l:List Str):List Str:=l++bif kOf [9,12] e then [e.Id]else []
def ow2(e:Gt)(l:List Str):List Str:=l++bif kOf [7] e then [e.bv]else []
def ow3(e:Gt)(l:List Str):List Str:=l++bif kOf [8] e then e.Lst.l.map (·.Id)else []
def ow4(s:Sta)(e:Gt)(l:List Str):List Str:=l++bif kOf [12] e then(s.Nk.filter<|λu=>Z3 u.Id e.Id).map (·.Ga)else []
def ZpW(s:Sta)(e:Gt):Zor s e=ow4 s e (ow3 e<|ow2 e<|ow1 e e.Ids.l):=rfl
def ZqL(s:Sta)(e:Gt)(l:List Str)(b:Bool)(j:l.length<=100000):Zb rE s128p3 (owG s e 0 b) (owH e l)=some (.normal,owG s e 17<|kOf [9,12] e,owH e<|ow1 e l):=by
 have i:=Zot s;have d:=ZoU e;have h:∀(D:List Str)n,Zd n (D.map encS)=true:=λD n=>ZN _<|Zw (λt=>rfl) _
 have a:=ZoJ e [9,12] false<|by decide
 simp only[ZSx,ZSS]at a;unfold ow1;cases c:kOf [9,12] e with
 |false=>
  rw[c]at a;rw[cond_false,ZSC];cases b<;>simp only[go_sem,s128p3,owG,cond_true,cond_false,owH,a,d,h]
 |true=>
  rw[c]at a;rw[cond_true];have g:=Zpd e l e.Id (by omega) []
  have f:(l++[e.Id]).length=l.length+1:=by simp
  unfold owH at g⊢;rw[f];simp only[ZSC]at g;cases b<;>simp only[go_sem,s128p3,owG,cond_true,cond_false,a,g,d,h]
def ZqM(s:Sta)(e:Gt)(l:List Str)(b:Bool)(j:l.length<=100000):Zb rE s128p4 (owG s e 17 b) (owH e l)=some (.normal,owG s e 25<|kOf [7] e,owH e<|ow2 e l):=by
 have i:=Zot s;have d:=ZoU e;have h:∀(D:List Str)n,Zd n (D.map encS)=true:=λD n=>ZN _<|Zw (λt=>rfl) _
 have a:=ZoJ e [7] false<|by decide
 simp only[ZSx,ZSS]at a;unfold ow2;cases c:kOf [7] e with
 |false=>
  rw[c]at a;rw[cond_false,ZSC];cases b<;>simp only[go_sem,s128p4,owG,cond_true,cond_false,owH,a,d,h]
 |true=>
  rw[c]at a;rw[cond_true];have g:=Zpd e l e.bv (by omega) []
  have f:(l++[e.bv]).length=l.length+1:=by simp
  unfold owH at g⊢;rw[f];simp only[ZSC]at g;cases b<;>simp only[go_sem,s128p4,owG,cond_true,cond_false,a,g,d,h]
def ZqN(s:Sta)(e:Gt)(l:List Str)(b:Bool)(h:l.length+e.Lst.l.length<=100000):Zb rE s128p5 (owG s e 25 b) (owH e l)=some (.normal,owG s e 33<|kOf [8] e,owH e<|ow3 e l):=by
 have i:=Zot s;have d:=ZoU e;have f:∀(D:List Str)n,Zd n (D.map encS)=true:=λD n=>ZN _<|Zw (λt=>rfl) _
 have j:∀n,Zd n (e.Lst.l.map Ent.enc)=true:=λn=>ZN _<|Zw (λt=>rfl) _
 have a:=ZoJ e [8] false<|by decide
 simp only[ZSx,ZSS]at a;unfold ow3;cases c:kOf [8] e with
 |false=>
  rw[c]at a;rw[cond_false,ZSC];cases b<;>simp only[go_sem,s128p5,owG,cond_true,cond_false,owH,a,d,f]
 |true=>
  rw[c]at a;rw[cond_true];have g:=ZqI s e l h;generalize l++e.Lst.l.map (·.Id)=D at*;unfold owH at g⊢;cases b<;>simp only[go_sem,s128p5,c128L0,owG,cond_true,cond_false,a,g,d,f]
def ZqO(s:Sta)(e:Gt)(l:List Str)(b:Bool)(h:l.length+s.Nk.length<=100000):Zb rE s128p6 (owG s e 33 b) (owH e l)=some (.normal,owG s e 49<|kOf [12] e,owH e<|ow4 s e l):=by
 have i:=Zot s;have d:=ZoU e;have f:∀(D:List Str)n,Zd n (D.map encS)=true:=λD n=>ZN _<|Zw (λt=>rfl) _
 have j:∀n,Zd n (s.Nk.map be.enc)=true:=λn=>ZN _<|Zw (λt=>rfl) _
 have a:=ZoJ e [12] false<|by decide
 simp only[ZSx,ZSS]at a;unfold ow4;cases c:kOf [12] e with
 |false=>
  rw[c]at a;rw[cond_false,ZSC];cases b<;>simp only[go_sem,s128p6,owG,cond_true,cond_false,owH,a,d,f]
 |true=>
  rw[c]at a;rw[cond_true];have g:=ZqJ s e l h;generalize l++(s.Nk.filter<|λu=>Z3 u.Id e.Id).map (·.Ga)=D at*
  unfold owH at g⊢;cases b<;>simp only[go_sem,s128p6,c128L1,owG,cond_true,cond_false,a,g,d,f]
def ZqP(s:Sta)(e:Gt)(c:e.Ids.l.length<=1000000):Zb rE s128p2 [(2,.iptr false [ldI s]),(3,evI e),(5,.ptr 1 0 0 1)] [.row 1 [I 0],.row 1 [.clo (.func 245) [] [evI e]]]=some (.normal,owG s e 0 true,owH e e.Ids.l):=by
 have b:=ZqK e.Ids.l e.Ids.ex c [.row 1 [I 0],.row 1 [.clo (.func 245) [] [evI e]]];have d:=Zot s;have a:=ZoU e;have f:∀(D:List Str)n,Zd n (D.map encS)=true:=λD n=>ZN _<|Zw (λt=>rfl) _
 unfold owH owG;simp only[go_sem,s128p2,cond_true,b,a]
def ZpX(s:Sta)(e:Gt)(g:e.Ids.l.length<=1000)(d:e.Lst.l.length<=1000)(f:s.Nk.length<=1000):(ow1 e e.Ids.l).length<=1001/\(ow2 e<|ow1 e e.Ids.l).length<=1002/\(ow3 e<|ow2 e<|ow1 e e.Ids.l).length<=2002/\(Zor s e).length<=3002:=by
 have b:(ow1 e e.Ids.l).length<=1001:=by
  unfold ow1;cases kOf [9,12] e<;>simp<;>omega
 have a:(ow2 e<|ow1 e e.Ids.l).length<=1002:=by
  unfold ow2;cases kOf [7] e<;>simp<;>omega
 have c:(ow3 e<|ow2 e<|ow1 e e.Ids.l).length<=2002:=by
  rw[ow3];cases kOf [8] e<;>simp<;>omega
 refine⟨b,a,c,?_⟩;rw[ZpW,ow4];have:=ZTS (λu:be=>Z3 u.Id e.Id) s.Nk
 cases kOf [12] e<;>simp<;>omega
def ZqQ(s:Sta)(e:Gt)(v:e.Ids.l.length<=1000)(i:e.Lst.l.length<=1000)(k:s.Nk.length<=1000):fnV rE 128 [ldI s,evA e] [.row 1 [I 0]]=some (.clo (.func 247) [] [.iptr false [ldI s],.ptr 1 0 0 1,evI e,.ptr 3 0 0 1],owH e<|Zor s e):=by
 have⟨x,y,A,w⟩:=ZpX s e v i k;have m:=ZqP s e<|by omega
 have u:=ZqL s e e.Ids.l true<|by omega
 have o:=ZqM s e (ow1 e e.Ids.l) (kOf [9,12] e)<|by omega
 have j:=ZqN s e (ow2 e<|ow1 e e.Ids.l) (kOf [7] e)<|by omega
 have g:=ZqO s e (ow3 e<|ow2 e<|ow1 e e.Ids.l) (kOf [8] e)<|by omega
 rw[<-ZpW]at g;have r:=Zot s;have d:=Zow s;have a:=ZoU e;have z:∀(D:List Str)n,Zd n (D.map encS)=true:=λD n=>ZN _<|Zw (λt=>rfl) _
 have p:Zb rE s128p0 [(0,ldI s),(1,evA e)] [.row 1 [I 0]]=some (.normal,[(2,.iptr false [ldI s]),(3,evI e)],[.row 1 [I 0]]):=by
  simp only[go_sem,s128p0,d,a]
 have q:Zb rE s128p1 [(2,.iptr false [ldI s]),(3,evI e)] [.row 1 [I 0]]=some (.normal,[(2,.iptr false [ldI s]),(3,evI e),(5,.ptr 1 0 0 1)],[.row 1 [I 0],.row 1 [.clo (.func 245) [] [evI e]]]):=by
  simp only[go_sem,s128p1,a]
 generalize Zor s e=D at*;have c:∀b,∃fr,Zb rE s128p7 (owG s e 49 b) (owH e D)=some (.normal,fr,owH e D)/\get fr 4=.clo (.func 247) [] [.iptr false [ldI s],.ptr 1 0 0 1,evI e,.ptr 3 0 0 1]:=by
  intro b;cases b
  .exact⟨_,by simp only[go_sem,s128p7,owG,owH,cond_true,cond_false]<;>rfl,rfl⟩
  .exact⟨_,by simp only[go_sem,s128p7,owG,owH,cond_true,cond_false]<;>rfl,rfl⟩
 have⟨fr,c,h⟩:=c<|kOf [12] e;rw[Q6 (f:=128) rfl rfl,c128_eq];simp only[go_sem,p,q,m,u,o,j,g,c,h]
def ClS.str{s:Sta}(h:ClS s){x:By}(a:x∈s.Gm):0<=x.bh/\x.bh<=63:=by
 have:=h.prop.st x a;unfold Vp at this;simp only[ZSq]at this;exact Zpa this.1
def ClS.bld{s:Sta}(h:ClS s){x:Ev}(a:x∈s.Bt):0<=x.bh/\x.bh<=63:=by
 have:=h.prop.bu x a;unfold Vq at this;simp only[ZSq]at this;exact Zpa this.1
def ClS.dor{s:Sta}(h:ClS s){x:Ga}(b:x∈s.Bc):0<=x.bh/\x.bh<=63:=by
 have⟨i,a⟩:=ZTR b;have:=h.prop.dr i x a;unfold Vr at this;simp only[ZSq]at this;exact Zpa this.1
def ZqR(s:Sta)(e:Gt)(a m:Int)(h:RqS s e m):
 rf rE (.clo (.func 247) [] [.iptr false [ldI s],.ptr 1 0 0 1,evI e,.ptr 3 0 0 1]) [13] c74R0a c74R0b (ZoA s e a m) (owH e<|Zor s e)=bif Zpb s e m
  then some (.normal,ZoA s e a m,thX s e a m 0 .exhausted .normal<|Zor s e)else some (.ret,ZoA s e a m,thX s e a m 18 .exhausted .ret<|Zor s e):=by
 have q:=h.c.E.sizes;have O:=(ZpX s e (by have:=h.ev.ids;omega) (by have:=h.ev.lst;omega) q.units).2.2.2
 have⟨S,R,j,F,H⟩:=ZqE s e a m h q.regions<|λx l=>(h.c.reg l).1
 have⟨P,K,k,J,D⟩:=ZqF s e a m h q.streets<|λx l=>(h.c.str l).1
 have⟨N,L,o,A,z⟩:=ZqG s e a m h q.buildings<|λx l=>(h.c.bld l).1
 have⟨Q,M,p,C,w⟩:=ZqH s e a m h q.doors (λx l=>(h.c.dor l).1)<|by omega
 have B:=Zot s;have G:=Zow s;have⟨i,y⟩:=ZoI s e a m;have r:∀n,Zd n ((Zor s e).map encS)=true:=λn=>ZN _<|Zw (λt=>rfl) _
 unfold Zpb;rw[Z1k (c:=c247) rfl];cases v:s.Fa.all (λx=>!ZoQ e x||Zou s m x.bh)with
 |false=>
  have g:=H v;subst g;rw[v]at j;simp only[thX,ZSH,if_false]at j;rw[ZSO,cond_false];simp only[go_sem,c247,c247L0,owH,thX,ZSv,ZSz,j,i,r];rfl
 |true=>
 have⟨g,f⟩:=F v;subst g;subst f;rw[v]at j;simp only[thX,if_true]at j;cases u:s.Gm.all (λx=>!ZoR e x||Zou s m x.bh)with
 |false=>
  have g:=D u;subst g;rw[u]at k;simp only[thX,ZSH,if_false]at k;rw[ZSB,ZSO,cond_false];simp only[go_sem,c247,c247L0,c247L1,owH,thX,ZSv,ZSz,j,k,i,r];rfl
 |true=>
 have⟨g,f⟩:=J u;subst g;subst f;rw[u]at k;simp only[thX,if_true]at k;cases b:s.Bt.all (λx=>!ZoS e x||Zou s m x.bh)with
 |false=>
  have g:=z b;subst g;rw[b]at o;simp only[thX,ZSH,if_false]at o;rw[ZSB,ZSB,ZSO,cond_false];simp only[go_sem,c247,c247L0,c247L1,c247L2,owH,thX,ZSv,ZSz,j,k,o,i,r];rfl
 |true=>
 have⟨g,f⟩:=A b;subst g;subst f;rw[b]at o;simp only[thX,if_true]at o;cases d:s.Bc.all (λx=>!ZoT (Zor s e) x||Zou s m x.bh)with
 |false=>
  have g:=w d;subst g;rw[d]at p;simp only[thX,ZSH,if_false]at p;rw[ZSB,ZSB,ZSB,cond_false];simp only[go_sem,c247,c247L0,c247L1,c247L2,c247L3,owH,thX,ZSv,ZSz,j,k,o,p,i,r];rfl
 |true=>
 have⟨g,f⟩:=C d;subst g;subst f;rw[d]at p;simp only[thX,if_true]at p;rw[ZSB,ZSB,ZSB,cond_true];simp only[go_sem,c247,c247L0,c247L1,c247L2,c247L3,owH,thX,ZSv,ZSz,j,k,o,p,i,r];rfl
def ZqS(s:Sta)(e:Gt)(a m:Int)(h:RqS s e m):pfn rE 74 [rqI s e a m]=some (I<|Zp6 s e m):=by
 have b:=ZqR s e a m h;have d:=ZqQ s e (by have:=h.ev.ids;omega) (by have:=h.ev.lst;omega) h.c.E.sizes.units
 have l:=Zow s;have k:=Zot s;have g:∀n,Zd n ((Zor s e).map encS)=true:=λn=>ZN _<|Zw (λt=>rfl) _
 have⟨i,j⟩:=ZoI s e a m;generalize Zor s e=D at*;unfold Zp6;rw[Z5 (f:=74) rfl rfl];unfold owH at b d;cases c:Zpb s e m with
 |true=>
  rw[c,cond_true]at b;simp only[ZoA]at b;simp only[go_sem,c74,d,Sr,b,g,thX,ZoA]
 |false=>
  rw[c,cond_false]at b;simp only[ZoA]at b;simp only[go_sem,c74,d,Sr,b,g,thX,ZoA]
def Zpf{a:Int}(h:Zoz a=true):0<=a/\a<=63:=by
 unfold Zoz at h;simpa using h
def cvV:List (Nat×Int)->Int
 |[]=>0
 |x::l=>bif x.2==0 then cvV l else x.2
abbrev cvF(R:AV)(L:List<|Nat×Int)(i:Nat):Fr:=[(46,Iy 1<|L.map λx=>.clo (.func x.1) [R] []),(47,I L.length),(48,I i)]
def ZpY(R:AV)(j:clean R=true)(L:List<|Nat×Int)(s:L.length<=1000)(p:∀x∈L,pfn rE x.1 [R]=some (I x.2)):∀(k i:Nat),i+k=L.length->
 ∃fr',Zg rE [46,47,48] c38L0b (cvF R L i) []=some (bif cvV (L.drop i)==0 then .exit 0 else .ret,fr',[])/\(cvV (L.drop i)≠0->get fr' 6=I (cvV<|L.drop i))
 |0,i,hk=>by
  have r:i=L.length:=by omega
  subst r;refine⟨_,Q7 rfl (e:=.exit 0) (by simp only[go_sem,c38L0b,ZG]<;>rfl) (by simp) |>.trans (by rw[List.drop_length];rfl),?_⟩
  rw[List.drop_length];exact λh=>absurd rfl h
 |k+1,i,hk=>by
  obtain⟨x,a⟩:∃x,L[i]?=some x:=⟨_,ZSu<|by omega⟩
  have o:=Z6 (f:=λx:Nat×Int=>AV.clo (.func x.1) [R] []) a
  have b:=Zh<|Z7 a;have d:=Zx (n:=i) (by have:=Z7 a;omega)
  have m:=p x<|ZSy a;have t:L.drop i=x::L.drop (i+1):=by
   have g:=ZTD<|Z7 a;rw[g];congr 1;have:=ZSu<|Z7 a;rw[this]at a;exact Option.some.inj a
  rw[t,cvV];cases c:x.2==0 with
  |true=>
   have l:(x.2 != 0)=false:=by rw[bne,c];rfl
   have⟨fr',g,q⟩:=ZpY R j L s p k (i+1)<|by omega
   refine⟨fr',?_,q⟩;rw[cond_true,Yt rfl (fr':=(6,.bot)::cvF R L (i+1)) (h':=[]) (by
    simp only[go_sem,c38L0b,o,b,d,m,l,j])]
   exact g
  |false=>
   have l:(x.2 != 0)=true:=by rw[bne,c];rfl
   rw[cond_false,c,cond_false];refine⟨_,Q7 rfl (e:=.ret) (fr':=[(6,I x.2),(46,Iy 1<|L.map λx=>.clo (.func x.1) [R] []),(47,I L.length),(48,I i)]) (by
    simp only[go_sem,c38L0b,o,b,m,l,j]) (by simp),λ_=>rfl⟩
def ZoN(s:Sta)(a:Int)(e:Gt):Int:=bif !Jx s||(!Zoz a||!Q9 e)then 1 else
 cvV [(73,Zp0 s e a<|Zoq s a),(74,Zp6 s e<|Zoq s a),(75,Zp5 s e<|Zoq s a),(76,Zp1 s e a<|Zoq s a)]
def Zpq(s:Sta)(w:StE s)(a:Int)(e:Gt)(A:EvS e):pfn rE 38 [stA s,I a,evA e]=some (I<|ZoN s a e):=by
 have d:=Zp7 s w;have k:=Zp8 a;have l:=NH e A;have o:=Zow s;have D:=Zot s;unfold ZoN;rw[Z5 (f:=38) rfl rfl];cases c:Jx s with
 |false=>
  rw[c]at d;simp only[go_sem,c38,d,ZSK,ZSU]
 |true=>
 rw[c]at d;cases q:Zoz a with
 |false=>
  rw[q]at k;simp only[go_sem,c38,d,k,ZSK,ZSU,ZSI,ZT5]
 |true=>
 rw[q]at k;cases r:Q9 e with
 |false=>
  rw[r]at l;simp only[go_sem,c38,d,k,l,ZSK,ZSI,ZT5]
 |true=>
 rw[r]at l;have h:ClS s:=⟨w,c⟩;have u:=h.mst (Zpf q).1;have B:0<=Zoq s a/\Zoq s a<=63:=ZpH h.prop.pa<|Zpf q;have p:RqS s e (Zoq s a):=⟨h,A,r,B⟩;generalize Zoq s a=m at*;have z:clean (rqI s e a m)=true:=by simp only[go_sem]
 have⟨fr',j,y⟩:=ZpY (rqI s e a m) z [(73,Zp0 s e a m),(74,Zp6 s e m),(75,Zp5 s e m),(76,Zp1 s e a m)] (by simp) (by
  intro x t;simp only[ZST,ZUj,or_false]at t;rcases t with rfl|rfl|rfl|rfl
  .exact Zqw s e a m p
  .exact ZqS s e a m p
  .exact Zqy s e a m p
  .exact ZqD s e a m p) 4 0 rfl
 rw[ZTq]at j y;generalize cvV [(73,Zp0 s e a m),(74,Zp6 s e m),(75,Zp5 s e m),(76,Zp1 s e a m)]=v at*;have C:∀n,bel n (rqI s e a m)=true:=λn=>by
  have:=ZN (n:=n) [rqI s e a m]<|by simp only[Z4,z,ZSW]
  simpa only[Zd,ZSW]using this
 replace j:Zg rE [46,47,48] c38L0b [(46,Iy 1 [.clo (.func 73) [rqI s e a m] [],.clo (.func 74) [rqI s e a m] [],.clo (.func 75) [rqI s e a m] [],.clo (.func 76) [rqI s e a m] []]),(47,.int .i64 ((4:Nat):Int)),(48,.int .i64 0)] []=some (bif v==0 then .exit 0 else .ret,fr',[]):=j
 cases b:v==0 with
 |true=>
  have i:v=0:=by simpa using b
  subst i;rw[b,cond_true]at j;simp only[go_sem,c38,c38L0,d,k,l,u,o,j,ZSI,ZT5]
 |false=>
  have i:v≠0:=by simpa using b
  have g:=y i;rw[b,cond_false]at j;simp only[go_sem,c38,c38L0,d,k,l,u,o,j,g,ZSI,ZT5]
def Zvw(s:Sta)(a:Int)(e:Gt):Int:=bif ZoN s a e==0 then Qk s a e else ZoN s a e
def Zvx(s:Sta)(a:Int)(e:Gt):Sta:=bif ZoN s a e==0&&Qk s a e==0 then ZP s a e else s
def Zvi(l:List Ver)(a:Sta×List Int)(p:Nat×Nat):Sta×List Int:=match l[p.1]? with
 |some v=>(match v.bc.l[p.2]? with
  |some e=>(Zvx a.1 v.Mv e,a.2++[Zvw a.1 v.Mv e])
  |none=>a)
 |none=>a
def Zr5(l:List Ver)(a b:Int):Sta×List Int:=(Zr3 l a b).foldl (Zvi l) (Yh,[])
def ZyC{l:List Ver}{p:Nat×Nat}{v:Ver}{e:Gt}(b:l[p.1]?=some v)(c:v.bc.l[p.2]?=some e)(a:Sta×List Int):Zvi l a p=(Zvx a.1 v.Mv e,a.2++[Zvw a.1 v.Mv e]):=by
 unfold Zvi;rw[b];simp only[c]
def ZeI{e:Gt}(h:Xn e=true):∀x∈e.Lst.l,x.Id.size<=1000:=by
 simp only[Xn,ZSq]at h;have⟨a,_,_,_,_,_,c⟩:=h;have d:=of_decide_eq_true c;unfold FT at a;rw[ZSR<|by omega]at a
 intro x b;have:=ZSw.1 a x b;unfold M2 at this;simp[ZU]at this;omega
structure VsF(V:NL Ver):Prop where
 s:VsS V
 few:∀v∈V.l,∀e∈v.bc.l,Xn e=true
structure StN(n:Nat)(s:Sta):Prop where
 e:StE s
 regions:s.Fa.length<=10*n
 streets:s.Gm.length<=10*n
 buildings:s.Bt.length<=10*n
 doors:s.Bc.length<=10*n
 units:s.Nk.length<=10*n
 merged:s.Gc.length<=10*n
 rulings:s.ba.length<=10*n
def StN.f{n:Nat}{s:Sta}(h:StN n s)(d:n<=50):StF s:=by
 have⟨a,g,b,i,c,j,k,e⟩:=h;exact⟨a,by omega,by omega,by omega,by omega,by omega,by omega,by omega⟩
def Zx2:StE Yh:=by
 refine⟨⟨ZSt _,ZSt _,ZSt _,ZSt _,ZSt _,ZSt _,ZSt _⟩,?_,?_,?_,?_,?_⟩
 all_goals (intro x a;cases a)
def StN.zero(n:Nat):StN n Yh:=⟨Zx2,ZSt _,ZSt _,ZSt _,ZSt _,ZSt _,ZSt _,ZSt _⟩
def StN.mono{n m:Nat}{s:Sta}(h:StN n s)(i:n<=m):StN m s:=by
 have⟨a,e,b,f,c,g,j,d⟩:=h;exact⟨a,by omega,by omega,by omega,by omega,by omega,by omega,by omega⟩
def StN.apply{n:Nat}{s:Sta}(h:StN n s)(y:n<=50)(a:Int){e:Gt}(g:Xn e=true):StN (n+1) (ZP s a e):=by
 have m:=ZeH s (h.f y) a e (JL e g)<|ZeI g;have d:∀t:Sta,t=ZP s a e->(t.Fa.length<=10*(n+1)/\t.Gm.length<=10*(n+1)/\t.Bt.length<=10*(n+1)/\t.Bc.length<=10*(n+1)/\t.Nk.length<=10*(n+1)/\t.Gc.length<=10*(n+1)/\t.ba.length<=10*(n+1)):=by
  intro t b;unfold ZP at b;cases c:okB s a e&&(Q1 (wk0 s a e)==0&&Wh (stepW<|wk0 s a e).s.Bc)with
  |true=>
   rw[c,cond_true]at b;subst b;have⟨w,j,k,l,A,o,i⟩:=Z4u (wk0 s a e) (JL e g).lst;have p:(wk0 s a e).s=s:=rfl;rw[p]at w j k l A o i;have⟨_,H,E,J,G,F,C,D⟩:=h;exact⟨by omega,by omega,by omega,by omega,by omega,by omega,by omega⟩
  |false=>
   rw[c,cond_false]at b;subst b;exact⟨ZSt _,ZSt _,ZSt _,ZSt _,ZSt _,ZSt _,ZSt _⟩
 have⟨z,v,x,r,B,q,u⟩:=d _ rfl;exact⟨m,z,v,x,r,B,q,u⟩
def StN.sta{n:Nat}{s:Sta}(h:StN n s)(c:n<=50)(a:Int){e:Gt}(b:Xn e=true):StN (n+1) (Zvx s a e):=by
 unfold Zvx;cases ZoN s a e==0&&Qk s a e==0 with
 |true=>exact h.apply c a b
 |false=>exact h.mono<|ZTu _
def ZyD{V:NL Ver}(b:VsF V){p:Nat×Nat}{v:Ver}{e:Gt}(a:V.l[p.1]?=some v)(c:v.bc.l[p.2]?=some e):Xn e=true:=b.few v (ZSy a) e<|ZSy c
def Zx3{V:NL Ver}(b:VsF V):∀(O:List<|Nat×Nat)(n:Nat)(a:Sta×List Int),StN n a.1->n+O.length<=50->StN (n+O.length) (O.foldl (Zvi V.l) a).1/\(O.foldl (Zvi V.l) a).2.length<=a.2.length+O.length
 |[],n,a,h,_=>⟨h,ZSr _⟩
 |p::r,n,a,h,hl=>by
  rw[ZSG]at hl⊢;rw[ZTe];have f:StN (n+1) (Zvi V.l a p).1/\(Zvi V.l a p).2.length<=a.2.length+1:=by
   unfold Zvi;cases g:V.l[p.1]? with
   |none=>exact⟨h.mono<|ZTu _,ZTu _⟩
   |some v=>
    dsimp only;cases c:v.bc.l[p.2]? with
    |none=>exact⟨h.mono<|ZTu _,ZTu _⟩
    |some e=>exact⟨h.sta (by omega) _<|ZyD b g c,by simp⟩
  have⟨d,i⟩:=Zx3 b r (n+1) _ f.1<|by omega
  rw[show n+(r.length+1)=n+1+r.length by omega]
  exact⟨d,by omega⟩
def ZsZ(s:Sta):Z4 [stA s]=true:=by
 have f:Z4 (s.Fa.map Gk.enc)=true:=Zw (λt=>rfl) _
 have b:Z4 (s.Gm.map By.enc)=true:=Zw (λt=>rfl) _
 have c:Z4 (s.Bt.map Ev.enc)=true:=Zw (λt=>rfl) _
 have d:Z4 (s.Bc.map Ga.enc)=true:=Zw (λt=>rfl) _
 have e:Z4 (s.Nk.map be.enc)=true:=Zw (λt=>rfl) _
 have g:Z4 (s.Gc.map bf.enc)=true:=Zw (λt=>rfl) _
 have a:Z4 (s.ba.map bf.enc)=true:=Zw (λt=>rfl) _
 simp only[go_sem]
abbrev asF(V:NL Ver)(O:List<|Nat×Nat)(n i:Nat):Fr:=[(0,vsA V),(6,.ptr 0 0 0 1),(8,.ptr 1 0 0 1),(9,.sl 2 n 0 n false),(19,Iy 2<|O.map prA),(20,I O.length),(21,I i)]
abbrev asH(s:Sta)(errs:List Int):Hp:=[.row 7 [stA Yh],.row 7 [stA s],.row 1<|errs.map I]
def ZyE(s:Sta)(a:List Int)(x:Int)(c:a.length<=100000)(r:List AObj):appW (.row 7 [stA Yh]::.row 7 [stA s]::.row 1 (a.map I)::r) false 1 8 (.sl 2 a.length 0 a.length false) (Iy 1 [I x])=some (.sl 2 (a.length+1) 0 (a.length+1) false,.row 7 [stA Yh]::.row 7 [stA s]::.row 1 ((a++[x]).map I)::r):=by
 have:=XC (h:=.row 7 [stA Yh]::.row 7 [stA s]::.row 1 (a.map I)::r) (fz:=false) (b:=2) (g:=a.length) (sz:=1) (bytes:=8) (es:=a.map I) (bw:=false) (ex:=false) (ys:=[I x]) (by simp[rowAt]) rfl rfl (by decide) (by decide) (by simp;omega)
 rw[this,ZSF];rfl
def ZAh(V:NL Ver)(hV:VsF V)(O:List<|Nat×Nat)(hO:∀p∈O,InL V.l p)(hl:O.length<=40):
 Zg rE [0,6,8,9,19,20,21] c16L0b (asF V O 0 0) (asH Yh []) =
  some (.exit 0,asF V O (O.foldl (Zvi V.l) (Yh,[])).2.length O.length,asH (O.foldl (Zvi V.l) (Yh,[])).1 (O.foldl (Zvi V.l) (Yh,[])).2):=by
 have A:∀(t:Sta)n,Zj n (.row 7 [stA t])=true:=λt n=>ZN (n:=n) [stA t]<|ZsZ t
 have M:∀(e:Gt)n,Zj n (.row 18 [evA e])=true:=λe n=>ZN (n:=n) [evA e]<|ZwW e
 have y:∀(a b:Nat)n,Zj n (.row 2 [.agg [I a,I b]])=true:=λa b n=>rfl
 have o:∀(l:List Int)n,Zd n (l.map I)=true:=λl n=>ZN _<|Zw (λt=>rfl) l
 have H:((0:Int)<=0/\(0:Int)<((2:Nat):Int))=True:=by simp
 have R:((0:Int)<=1/\(1:Int)<((2:Nat):Int))=True:=by simp
 have K:Int.toNat 0*1=0:=rfl;have N:Int.toNat 1*1=1:=rfl;have L:=Y8 (E:=rE) (live:=[0,6,8,9,19,20,21]) (b:=c16L0b) O.length (λi=>asF V O ((O.take i).foldl (Zvi V.l) (Yh,[])).2.length i) (λi=>asH ((O.take i).foldl (Zvi V.l) (Yh,[])).1 ((O.take i).foldl (Zvi V.l) (Yh,[])).2) (λi=>rfl)
  (λi Y=>by
   obtain⟨p,G⟩:∃p,O[i]?=some p:=⟨_,ZSu Y⟩;have⟨v,e,P,F⟩:=hO p<|ZSy G;have Q:=Z6 (f:=prA) G;have m:=Z6 (f:=Ver.enc) P;have z:=Z6 (f:=λe=>evA e) F
   have q:=Zh Y;have u:=Zx (n:=i)<|by omega
   have D:=ZyD hV P F;have W:=Zx3 hV (O.take i) 0 (Yh,[]) (StN.zero 0)<|by simp;omega
   rw[Us _ _ G,ZyC P F];have ab:(O.take i).length<=i:=by simp;omega
   generalize aa:(O.take i).foldl (Zvi V.l) (Yh,[])=st at*;have⟨s,d⟩:=st;have Z:StF s:=W.1.f<|by omega
   have ac:d.length<=100:=by have:d.length<=0+(O.take i).length:=W.2;omega
   have J:=Zpq s Z.e v.Mv e<|JL e D;have X:=JJ s Z v.Mv e<|JL e D;refine⟨asF V O (d++[Zvw s v.Mv e]).length<|i+1,?_,rfl⟩;show Zb rE c16L0b (asF V O d.length i) (asH s d)=some (.normal,asF V O (d++[Zvw s v.Mv e]).length<|i+1,asH (Zvx s v.Mv e)<|d++[Zvw s v.Mv e])
   have U:=λx r=>ZyE s d x (by omega) r
   have S:=λx r=>ZyE (ZP s v.Mv e) d x (by omega) r
   unfold Zvx Zvw;have g:=A s;have j:=A Yh;have C:=A<|ZP s v.Mv e;have k:=M e;have B:=o d;have w:=λx=>o<|d++[x]
   generalize ZP s v.Mv e=t at*;generalize Qk s v.Mv e=f at*;generalize ZoN s v.Mv e=c at*;have hv:v.enc=.agg [I v.Mv,I v.An,I v.At,.str v.Prev,.isl false v.bc.ex 18<|v.bc.l.map λe=>evA e,I v.Index,.isl false v.Sig.ex 1<|v.Sig.l.map encS,.isl false v.Path.ex 1<|v.Path.l.map encS]:=rfl
   rw[hv]at m;cases T:c==0 with
   |false=>
    rw[ZSO,cond_false,cond_false];simp only[go_sem,c16L0b,asF,asH,prA,Q,m,z,q,u,J,T,U,g,j,k,y,B,w,H,R,K,N,if_true,ZSJ,ZTT]
   |true=>
    rw[ZSB,cond_true];cases c2:f==0 with
    |false=>
     rw[cond_false];simp only[go_sem,c16L0b,asF,asH,prA,Q,m,z,q,u,J,X,T,c2,U,g,j,C,k,y,B,w,H,R,K,N,if_true,ZSJ,ZTT]
    |true=>
     rw[cond_true];simp only[go_sem,c16L0b,asF,asH,prA,Q,m,z,q,u,J,X,T,c2,S,g,j,C,k,y,B,w,H,R,K,N,if_true,ZSJ,ZTT])
  (e:=.exit 0) (fr:=asF V O (O.foldl (Zvi V.l) (Yh,[])).2.length O.length) (h:=asH (O.foldl (Zvi V.l) (Yh,[])).1 (O.foldl (Zvi V.l) (Yh,[])).2) (by
   rw[ZSZ];generalize O.foldl (Zvi V.l) (Yh,[])=st;have⟨s,d⟩:=st;have g:=A s;have j:=A Yh;have B:=o d;simp only[go_sem,c16L0b,asF,asH,ZG,g,j,B]) (by simp)
 exact L
def Zwd(l:List Ver)(a b:Int):∀p∈Zr3 l a b,InL l p:=λp c=>ZyB l a b _ p<|(Zwc l _).mem_iff.1 c
def ZyF(V:NL Ver)(m:VsF V)(b c:Int)(q:(Zr3 V.l b c).length<=40):pfn rE 16 [vsA V,I b,I c]=some (.tup [stA (Zr5 V.l b c).1,Iy 1<|(Zr5 V.l b c).2.map I]):=by
 have o:=Zx1 V m.s b c;have L:=ZAh V m (Zr3 V.l b c) (Zwd V.l b c) q;unfold Zr5;have p:∀(t:Sta)n,Zj n (.row 7 [stA t])=true:=λt n=>ZN (n:=n) [stA t]<|ZsZ t
 have g:∀(l:List Int)n,Zd n (l.map I)=true:=λl n=>ZN _<|Zw (λt=>rfl) l
 have h:∀(l:List Int),Z4 (l.map I)=true:=λl=>Zw (λt=>rfl) l
 generalize Zr3 V.l b c=O at*;generalize O.foldl (Zvi V.l) (Yh,[])=st at*;have⟨s,a⟩:=st;have k:Zg rE [0,6,8,9,19,20,21] c16L0b [(0,vsA V),(6,.ptr 0 0 0 1),(8,.ptr 1 0 0 1),(9,.sl 2 0 0 0 false),(19,Iy 2<|O.map prA),(20,I O.length),(21,.int .i64 0)] [.row 7 [.agg HE],.row 7 [.agg HE],.row 1 []]=_:=L;have j:∀n,Zj n (.row 7 [.agg HE])=true:=λn=>rfl
 have d:=p s;have u:=ZsZ s;have r:=g a;have e:=h a;have i:List.take a.length (a.map I)=a.map I:=ZSR<|by simp
 simp only[HE]at j k;rw[Z5 (f:=16) rfl rfl];simp only[stA]at u;simp only[go_sem,c16,c16L0,o,k,j,d,r,e,i,ZTq,ZSs,beq_self_eq_true]
def Zr8(l:List Ver)(i:Nat):Nat:=((l.take i).map (λv=>v.bc.l.length)).sum
def Zwe{l:List Ver}{i:Nat}{v:Ver}(h:l[i]?=some v):Zr8 l (i+1)=Zr8 l i+v.bc.l.length:=by
 unfold Zr8;rw[ZTA,h];simp
def Zx4{l:List Ver}(h:∀v∈l,v.bc.l.length<=140737488355328):∀i,Zr8 l i<=i*140737488355328
 |0=>by simp[Zr8]
 |i+1=>by
  have c:=Zx4 h i;rw[ZTo];cases a:l[i]? with
  |none=>
   have:Zr8 l (i+1)=Zr8 l i:=by unfold Zr8;rw[ZTA,a];simp
   omega
  |some v=>
   have b:=Zwe a;have d:=h v<|ZSy a;omega
def ZvP(l:List Ver)(a:Int)(i:Nat)(v:Ver):Bool:=!decide (((Zr8 l (i+1):Nat):Int)>a)&&v.bc.l.all Xn
def ZvT(l:List Ver)(a:Int):Bool:=Zu (ZvP l a) 0 (l.take 20)&&decide ((l.length:Int)<=20)
def ZyG(V:NL Ver)(a:Int)(n:Nat)(v:Ver)(i:Nat)(r:V.l[i]?=some v)(s:v.bc.l.length<=140737488355328):
 ∃fr',Zg rE [0,1,5,6,7] c34L0b [(0,vsA V),(1,I a),(5,I n),(6,I i),(7,.int .i64 0)] []=some (if v.bc.l.all Xn=true then .exit 2 else .ret,fr',[])/\(v.bc.l.all Xn=true->Z2 [0,1,4,5,6] fr'=[(0,vsA V),(1,I a),(4,.bot),(5,I n),(6,I i)])/\(v.bc.l.all Xn=false->get fr' 4=.bool false):=by
 have c:=Z6 (f:=Ver.enc) r;have q:v.enc=.agg [I v.Mv,I v.An,I v.At,.str v.Prev,.isl false v.bc.ex 18<|v.bc.l.map λe=>evA e,I v.Index,.isl false v.Sig.ex 1<|v.Sig.l.map encS,.isl false v.Path.ex 1<|v.Path.l.map encS]:=rfl
 rw[q]at c;have L:=QT (E:=rE) (live:=[0,1,5,6,7]) (b:=c34L0b) (h:=[]) v.bc.l (λ_ e=>Xn e) (λk=>[(0,vsA V),(1,I a),(5,I n),(6,I i),(7,I k)]) 2 (λfr=>Z2 [0,1,4,5,6] fr=[(0,vsA V),(1,I a),(4,.bot),(5,I n),(6,I i)]) (λfr=>get fr 4=.bool false) (λk=>rfl)
  (λk e j p=>by
   have d:=Z6 (f:=λe=>evA e) j
   have g:=Zh<|Z7 j;have o:=Zx (n:=k) (by have:=Z7 j;omega)
   have m:=Z4z e;rw[p]at m;refine⟨_,by simp only[go_sem,c34L0b,c,d,g,o,m];rfl,?_⟩
   simp only[go_sem])
  (λk e j p=>by
   have d:=Z6 (f:=λe=>evA e) j
   have g:=Zh<|Z7 j;have m:=Z4z e;rw[p]at m;refine⟨_,by simp only[go_sem,c34L0b,c,d,g,m];rfl,?_⟩
   simp only[go_sem])
  ⟨_,by simp only[go_sem,c34L0b,c,ZG];rfl,by simp only[go_sem]⟩
 rw[QE]at L;exact L
def ZAm(V:NL Ver)(a:Int)(C:∀v∈V.l,v.bc.l.length<=140737488355328):pfn rE 34 [vsA V,I a]=some (.bool<|ZvT V.l a):=by
 have L:=QT (E:=rE) (live:=[0,1,5,6]) (b:=c34L1b) (h:=[]) (V.l.take 20) (ZvP V.l a) (λi=>[(0,vsA V),(1,I a),(5,I<|Zr8 V.l i),(6,I i)]) 0 (λfr=>get fr 0=vsA V) (λfr=>get fr 4=.bool false) (λi=>rfl)
  (λi v p o=>by
   obtain⟨j,x⟩:V.l[i]?=some v/\i<20:=by
    have s:=Z7 p;rw[ZTk]at s;rw[ZTK<|by omega]at p
    exact⟨p,by omega⟩
   have t:=Z7 j;have m:=Zh t;have g:decide ((i:Int)<20)=true:=decide_eq_true<|by omega
   have G:=Zx (n:=i)<|by omega
   have M:=Zwe j;have H:=Zx4 C<|i+1;have q:=C v<|ZSy j;have k:IntKind.i64.wrap (((Zr8 V.l i:Nat):Int)+((v.bc.l.length:Nat):Int))=((Zr8 V.l (i+1):Nat):Int):=by
    rw[YM (by omega)<|by omega];omega
   have d:=Z6 (f:=Ver.enc) j;have w:v.enc=.agg [I v.Mv,I v.An,I v.At,.str v.Prev,.isl false v.bc.ex 18<|v.bc.l.map λe=>evA e,I v.Index,.isl false v.Sig.ex 1<|v.Sig.l.map encS,.isl false v.Path.ex 1<|v.Path.l.map encS]:=rfl
   rw[w]at d;unfold ZvP at o;rw[ZSq]at o;have z:decide (((Zr8 V.l (i+1):Nat):Int)>a)=false:=by simpa using o.1
   have⟨fr',A,s,_⟩:=ZyG V a (Zr8 V.l<|i+1) v i j q;rw[if_pos o.2]at A;have u:=s o.2;have r:Zg rE [0,1,5,6,7] c34L0b [(0,vsA V),(1,I a),(5,I<|Zr8 V.l<|i+1),(6,I i),(7,.int .i64 0)] []=_:=A;refine⟨_,by simp only[go_sem,c34L1b,c34L0,d,m,g,G,k,z,r,u];rfl,?_⟩
   simp only[go_sem])
  (λi v p o=>by
   obtain⟨j,x⟩:V.l[i]?=some v/\i<20:=by
    have s:=Z7 p;rw[ZTk]at s;rw[ZTK<|by omega]at p
    exact⟨p,by omega⟩
   have t:=Z7 j;have m:=Zh t;have g:decide ((i:Int)<20)=true:=decide_eq_true<|by omega
   have M:=Zwe j;have H:=Zx4 C<|i+1;have q:=C v<|ZSy j;have k:IntKind.i64.wrap (((Zr8 V.l i:Nat):Int)+((v.bc.l.length:Nat):Int))=((Zr8 V.l (i+1):Nat):Int):=by
    rw[YM (by omega)<|by omega];omega
   have d:=Z6 (f:=Ver.enc) j;have w:v.enc=.agg [I v.Mv,I v.An,I v.At,.str v.Prev,.isl false v.bc.ex 18<|v.bc.l.map λe=>evA e,I v.Index,.isl false v.Sig.ex 1<|v.Sig.l.map encS,.isl false v.Path.ex 1<|v.Path.l.map encS]:=rfl
   rw[w]at d;unfold ZvP at o;cases z:decide (((Zr8 V.l (i+1):Nat):Int)>a)with
   |true=>
    refine⟨_,by simp only[go_sem,c34L1b,c34L0,d,m,g,k,z];rfl,?_⟩
    simp only[go_sem]
   |false=>
    have y:v.bc.l.all Xn=false:=by rw[z]at o;simpa using o
    have⟨fr',A,_,J⟩:=ZyG V a (Zr8 V.l<|i+1) v i j q;rw[y]at A;have D:=J y;have r:Zg rE [0,1,5,6,7] c34L0b [(0,vsA V),(1,I a),(5,I<|Zr8 V.l<|i+1),(6,I i),(7,.int .i64 0)] []=some (.ret,fr',[]):=A;refine⟨_,by simp only[go_sem,c34L1b,c34L0,d,m,g,k,z,r];rfl,?_⟩
    simp only[go_sem,D])
  (by
   rw[ZTk];rcases ZTI V.l.length 20 with h|h
   .rw[Nat.min_eq_right<|by omega]
    exact⟨_,by simp only[go_sem,c34L1b,ZG];rfl,by simp only[go_sem]⟩
   .rw[ZUB h];have g:decide (((20:Nat):Int)<20)=false:=rfl;cases c:decide (((20:Nat):Int)<((V.l.length:Nat):Int))with
    |true=>exact⟨_,by simp only[go_sem,c34L1b,c,g];rfl,by simp only[go_sem]⟩
    |false=>exact⟨_,by simp only[go_sem,c34L1b,c];rfl,by simp only[go_sem]⟩)
 have⟨fr',N,K,s⟩:=L;have B:Zg rE [0,1,5,6] c34L1b [(0,vsA V),(1,I a),(5,.int .i64 0),(6,.int .i64 0)] []=_:=N;rw[Z5 (f:=34) rfl rfl];unfold ZvT;cases c:Zu (ZvP V.l a) 0 (V.l.take 20)with
 |true=>
  rw[c,if_pos rfl]at B;have F:=K c;simp only[go_sem,c34,c34L1,B,F]
 |false=>
  rw[c,if_neg Bool.false_ne_true]at B;have u:=s c;simp only[go_sem,c34,c34L1,B,u]
def ZAn(l:List Ver)(i:Nat):Zr8 l i<=Zr8 l l.length:=by
 unfold Zr8;rw[ZSZ]
 conv=>rhs;rw[<-ZTt i l]
 rw[ZSF,List.sum_append];omega
def ZAp{l:List Ver}{v:Ver}(h:v∈l):v.bc.l.length<=Zr8 l l.length:=by
 have⟨i,a⟩:=ZTs.1 h;have b:=Zwe a;have c:=ZAn l<|i+1;omega
def ZyH(l:List Ver)(a b:Int):∀i,(Zr7 l a b i).length<=Zr8 l i
 |0=>ZSt _
 |i+1=>by
  have f:=ZyH l a b i;unfold Zr7;rw[ZSJ];cases c:l[i]? with
  |none=>
   have:Zr8 l (i+1)=Zr8 l i:=by unfold Zr8;rw[ZTA,c];simp
   show _+0<=_
   omega
  |some v=>
   have e:=Zwe c;have d:=Zyu v a i v.bc.l.length;show _+(bif Zvl l b i v then Zr4 v a i v.bc.l.length else []).length<=_
   cases Zvl l b i v with
   |true=>rw[cond_true];omega
   |false=>rw[cond_false,ZT1];omega
def Zwf(l:List Ver)(a b:Int):(Zr3 l a b).length<=Zr8 l l.length:=by
 unfold Zr3;rw[(Zwc l _).length_eq];exact ZyH l a b l.length
structure FewS(l:List Ver):Prop where
 len:l.length<=20
 few:∀v∈l,∀e∈v.bc.l,Xn e=true
 sum:Zr8 l l.length<=16
def Zx5{l:List Ver}(h:ZvT l 16=true):FewS l:=by
 unfold ZvT at h;rw[ZSq]at h;have c:l.length<=20:=by have:=of_decide_eq_true h.2;omega
 rw[ZSR c]at h;have b:∀(i:Nat)v,l[i]?=some v->ZvP l 16 i v=true:=λi v a=>by
  have:=Zda.1 h.1 i v a;simpa using this
 refine⟨c,λv a e d=>?_,?_⟩
 .have⟨i,f⟩:=ZTs.1 a;have:=b i v f;unfold ZvP at this;rw[ZSq]at this;exact ZSw.1 this.2 e d
 .rcases Nat.eq_zero_or_pos l.length with h0|h0
  .rw[h0];exact ZSt _
  .obtain⟨v,a⟩:∃v,l[l.length-1]?=some v:=⟨_,ZSu<|by omega⟩
   have:=b _ v a;unfold ZvP at this;rw[ZSq,Nat.sub_add_cancel h0]at this;have g:=of_decide_eq_false (by simpa using this.1:decide (((Zr8 l l.length:Nat):Int)>16)=false)
   omega
def FewS.vs{V:NL Ver}(h:FewS V.l):VsF V:=by
 refine⟨⟨by have:=h.len;omega,λv a=>?_⟩,h.few⟩
 have b:=ZAp a;have c:=h.sum;omega
def Zwg(V:NL Ver)(h:FewS V.l)(a b:Int):pfn rE 16 [vsA V,I a,I b]=some (.tup [stA (Zr5 V.l a b).1,Iy 1<|(Zr5 V.l a b).2.map I]):=by
 have d:=Zwf V.l a b;have c:=h.sum;exact ZyF V h.vs a b<|by omega
def Zvy(l:List Ver)(p:Nat×Nat):Int:=match l[p.1]? with
 |some v=>(match v.bc.l[p.2]? with|some e=>e.Day|none=>0)
 |none=>0
def ZyI{l:List Ver}{p:Nat×Nat}{v:Ver}{e:Gt}(a:l[p.1]?=some v)(b:v.bc.l[p.2]?=some e):Zvy l p=e.Day:=by
 unfold Zvy;rw[a];simp only[b]
def ltE(l:List Ver)(p q:Nat×Nat):Prop:=lexB (evK l p) (evK l q)=true
def ZAs{l:List Ver}{L:List (Nat×Nat)}(h:Zwu l L):(ZvG l L).Pairwise (ltE l):=by
 have a:=ZwI _<|ZyA h;rw[ZwY,ZTN]at a;exact a
def ZyN{l:List Ver}{p:Nat×Nat}:¬ltE l p p:=λh=>by unfold ltE at h;rw[Zwm]at h;cases h
def Zx8{l:List Ver}{L:List (Nat×Nat)}(h:L.Pairwise<|ltE l):L.Nodup:=by
 refine List.Pairwise.imp (S:=λa b=>a≠b) ?_ h
 intro a b h e;subst e;exact ZyN h
def ZAt{l:List Ver}{a b:List (Nat×Nat)}(f:a.Perm b)(e:a.Pairwise<|ltE l)(d:b.Pairwise<|ltE l):a=b:=
 List.Perm.eq_of_pairwise (le:=ltE l) (λx y _ _ c g=>(ZyN (l:=l)<|ZvZ _ _ _ c g).elim) e d f
structure Counts(l:List Ver)(bq bp:Int)(p:Nat×Nat)(v:Ver)(e:Gt):Prop where
 gv:l[p.1]?=some v
 ge:v.bc.l[p.2]?=some e
 day:e.Day<=bq
 at':v.At<=bp
 first:∀w∈l.take p.1,¬(w.Mv=v.Mv/\w.An=v.An)
def ZyO(l:List Ver)(c:Int)(i:Nat)(v:Ver):Zvl l c i v=true↔v.At<=c/\∀w∈l.take i,¬(w.Mv=v.Mv/\w.An=v.An):=by
 unfold Zvl;rw[Zyw,ZSq,ZSP,ZTB,ZSP,decide_eq_false_iff_not];constructor
 .intro h;refine⟨by have:=h.2;omega,λw b a=>h.1 w b ?_⟩
  rw[Zwt,a.1,a.2]
 .intro h;refine⟨λw b a=>h.2 w b ?_,by have:=h.1;omega⟩
  rw[Zwt,Prod.mk.injEq]at a;exact⟨a.1.symm,a.2.symm⟩
def ZyP{v:Ver}{a:Int}{i n:Nat}{p:Nat×Nat}:p∈Zr4 v a i n↔p.1=i/\p.2<n/\ZvS v a p.2=true:=by
 unfold Zr4;rw[ZSM];constructor
 .rintro⟨k,e,rfl⟩;have:=ZTJ.1 e;exact⟨rfl,by simpa using this.1,this.2⟩
 .rintro⟨d,b,c⟩;exact⟨p.2,ZTJ.2 ⟨by simpa using b,c⟩,by rw[<-d]⟩
def ZyQ(l:List Ver)(d c:Int)(p:Nat×Nat):∀i,p∈Zr7 l d c i↔p.1<i/\∃v e,Counts l d c p v e
 |0=>by simp[Zr7]
 |i+1=>by
  unfold Zr7;rw[ZSQ,ZyQ l d c p i];have j:(p∈(match l[i]? with|some v=>bif Zvl l c i v then Zr4 v d i v.bc.l.length else []|none=>[]))↔p.1=i/\∃v e,Counts l d c p v e:=by
   cases k:l[i]? with
   |none=>
    constructor
    .intro h;cases h
    .rintro⟨b,v,e,a⟩;have:=a.gv;rw[b,k]at this;cases this
   |some v=>
    show p∈(bif Zvl l c i v then Zr4 v d i v.bc.l.length else [])↔_
    constructor
    .intro h;cases f:Zvl l c i v with
     |false=>rw[f]at h;cases h
     |true=>
      rw[f,cond_true,ZyP]at h;have⟨b,a,g⟩:=h;have⟨n,o⟩:=(ZyO l c i v).1 f;unfold ZvS at g;rw[ZSu a]at g;refine⟨b,v,_,⟨by rw[b];exact k,ZSu a,of_decide_eq_true g,n,by rw[b];exact o⟩⟩
    .rintro⟨b,w,e,a⟩;have m:=a.gv;rw[b,k]at m;cases m;have f:Zvl l c i v=true:=(ZyO l c i v).2 ⟨a.at',by have:=a.first;rwa[b]at this⟩
     rw[f,cond_true,ZyP];refine⟨b,Z7 a.ge,?_⟩;unfold ZvS;rw[a.ge];exact decide_eq_true a.day
  refine Iff.trans (or_congr Iff.rfl j) ?_;constructor
  .rintro(⟨b,a⟩|⟨b,a⟩)
   .exact⟨by omega,a⟩
   .exact⟨by omega,a⟩
  .rintro⟨b,a⟩;rcases Nat.lt_or_eq_of_le (Nat.le_of_lt_succ b)with h|h
   .exact .inl ⟨h,a⟩
   .exact .inr ⟨h,a⟩
def ZAu(l:List Ver)(a b:Int)(p:Nat×Nat):p∈Zr7 l a b l.length↔∃v e,Counts l a b p v e:=by
 rw[ZyQ];exact⟨λh=>h.2,λ⟨v,e,h⟩=>⟨Z7 h.gv,v,e,h⟩⟩
def ZvQ(l:List Ver)(a b:Int)(p:Nat×Nat):p∈Zr3 l a b↔∃v e,Counts l a b p v e:=by
 unfold Zr3;rw[(Zwc l _).mem_iff,ZAu]
def Zw6(l:List Ver)(a b:Int):(Zr3 l a b).Pairwise (ltE l):=ZAs<|Zx0 ..
def Counts.key{l:List Ver}{a b:Int}{p:Nat×Nat}{v:Ver}{e:Gt}(h:Counts l a b p v e):evK l p=[e.Day,v.At,v.Mv,v.An,(p.2:Int)]:=Zw4 h.gv h.ge
def Counts.dayK{l:List Ver}{a b:Int}{p:Nat×Nat}{v:Ver}{e:Gt}(h:Counts l a b p v e):Zvy l p=e.Day:=ZyI h.gv h.ge
def ZyR(l:List Ver){c d:Int}(h:c<=d)(b:Int):Zr3 l c b=(Zr3 l d b).filter (λp=>decide (Zvy l p<=c)):=by
 refine ZAt (l:=l) ?_ (Zw6 ..)<|(Zw6 ..).filter _;refine(List.perm_ext_iff_of_nodup ?_ ?_).2 λp=>?_
 .exact Zx8<|Zw6 l c b
 .exact Zx8<|(Zw6 l d b).filter _
 .rw[ZTJ,ZvQ,ZvQ];constructor
  .rintro⟨v,e,a⟩;exact⟨⟨v,e,a.gv,a.ge,by have:=a.day;omega,a.at',a.first⟩,decide_eq_true<|by rw[a.dayK];exact a.day⟩
  .rintro⟨⟨v,e,a⟩,hd⟩;have:=of_decide_eq_true hd;rw[a.dayK]at this;exact⟨v,e,a.gv,a.ge,this,a.at',a.first⟩
def ZyS(l:List Ver)(b d:Int):(Zr3 l b d).Pairwise (λp q=>Zvy l p<=Zvy l q):=by
 refine List.Pairwise.imp_of_mem ?_<|Zw6 l b d;intro p q i g h;have⟨v,e,c⟩:=(ZvQ ..).1 i;have⟨w,f,a⟩:=(ZvQ ..).1 g;unfold ltE at h;rw[c.key,a.key]at h;simp only[lexB,ZTL,decide_eq_true_eq,ZSq,beq_iff_eq]at h;rw[c.dayK,a.dayK];omega
def ZyT{a:Type}(f:a->Int)(d:Int):∀{L:List a},L.Pairwise (λp q=>f p<=f q)->L.filter (λp=>decide (f p<=d))=L.take (L.filter<|λp=>decide (f p<=d)).length
 |[],_=>rfl
 |p::r,h=>by
  rw[ZTr]at h;rw[List.filter_cons];cases c:decide (f p<=d)with
  |true=>
   rw[if_pos rfl,ZSG,ZUp,<-ZyT f d h.2]
  |false=>
   rw[if_neg Bool.false_ne_true];have:r.filter (λp=>decide (f p<=d))=[]:=by
    rw[List.filter_eq_nil_iff];intro q b e;have j:=h.1 q b;have g:=of_decide_eq_true e;have i:=of_decide_eq_false c;omega
   rw[this];rfl
def Zx9(l:List Ver){b c:Int}(h:b<=c)(a:Int):Zr3 l b a=(Zr3 l c a).take (Zr3 l b a).length:=by
 conv=>lhs;rw[ZyR l h,ZyT (Zvy l) b<|ZyS l c a,<-ZyR l h]
def Zvu(a:Sta×List Int)(x:Int×Gt):Sta×List Int:=(Zvx a.1 x.1 x.2,a.2++[Zvw a.1 x.1 x.2])
def Zvv(l:List Ver)(p:Nat×Nat):Option (Int×Gt):=match l[p.1]? with
 |some v=>(match v.bc.l[p.2]? with|some e=>some (v.Mv,e)|none=>none)
 |none=>none
def stD(D:List<|Int×Gt):Sta×List Int:=D.foldl Zvu (Yh,[])
def ZyU(l:List Ver):∀(O:List<|Nat×Nat)(a:Sta×List Int),O.foldl (Zvi l) a=(O.filterMap<|Zvv l).foldl Zvu a
 |[],_=>rfl
 |p::r,a=>by
  rw[ZTe,List.filterMap_cons,ZyU l r];unfold Zvi Zvv;cases l[p.1]? with
  |none=>rfl
  |some v=>
   dsimp only;cases v.bc.l[p.2]? with
   |none=>rfl
   |some e=>rfl
def Zww(l:List Ver)(a b:Int):Zr5 l a b=stD ((Zr3 l a b).filterMap (Zvv l)):=ZyU l _ _
def Zwx:∀(D:List<|Int×Gt)(s:Sta)(E:List Int),(D.foldl Zvu (s,E)).1=(D.foldl Zvu (s,[])).1/\(D.foldl Zvu (s,E)).2=E++(D.foldl Zvu (s,[])).2
 |[],s,E=>⟨rfl,by simp⟩
 |x::D,s,E=>by
  rw[ZTe,ZTe];unfold Zvu;have⟨d,a⟩:=Zwx D (Zvx s x.1 x.2)<|E++[Zvw s x.1 x.2];have⟨b,c⟩:=Zwx D (Zvx s x.1 x.2)<|[]++[Zvw s x.1 x.2];dsimp only;unfold Zvu at d a b c;rw[d,a,b,c];exact⟨rfl,by simp⟩
def Zxa(a b:List<|Int×Gt):(stD<|a++b).1=(b.foldl Zvu ((stD a).1,[])).1/\(stD<|a++b).2=(stD a).2++(b.foldl Zvu ((stD a).1,[])).2:=by
 unfold stD;rw[ZUL];exact Zwx b _ _
def ZCk:∀(D:List<|Int×Gt)(a:Sta×List Int),Jx a.1=true->Jx (D.foldl Zvu a).1=true
 |[],_,h=>h
 |x::D,a,h=>by
  rw[ZTe];refine ZCk D _ ?_;show Jx (Zvx a.1 x.1 x.2)=true
  unfold Zvx;cases c:ZoN a.1 x.1 x.2==0 with
  |false=>exact h
  |true=>
   cases b:Qk a.1 x.1 x.2==0 with
   |false=>exact h
   |true=>exact ZeC<|by simpa using b
def ZCn:Jx Yh=true:=rfl
def ZCl(l:List Ver)(a b:Int):Jx (Zr5 l a b).1=true:=by
 rw[Zww];exact ZCk _ _ ZCn
def dK(x y:Ga):Prop:=x.Id=y.Id/\x.From=y.From/\(y.Ld≠-1->x=y)
def ZO4(l m:List Ga):Prop:=∀(i:Nat)y,l[i]?=some y->∃x,m[i]?=some x/\dK x y
def ZPa(l:List Ga):ZO4 l l:=λ_ y h=>⟨y,h,rfl,rfl,λ_=>rfl⟩
def ZPZ{l m:List Ga}(h:ZO4 l m)(n:List Ga):ZO4 l (m++n):=λi y b=>by
 have⟨x,a,c⟩:=h i y b;exact⟨x,by rw[ZT2<|Z7 a,a],c⟩
def ZQ0{l m:List Ga}(h:ZO4 l m){k:Nat}{f:Ga->Ga}(e:∀x,(f x).Id=x.Id/\(f x).From=x.From)(o:∀y,l[k]?=some y->y.Ld=-1):ZO4 l (ZK m k f):=λi y b=>by
 have⟨x,a,g,d,n⟩:=h i y b;by_cases c:i=k
 .subst c;refine⟨f x,by rw[YA a,ZUV<|Z7 a],(e x).1.trans g,(e x).2.trans d,λj=>absurd (o y b) j⟩
 .refine⟨x,?_,g,d,n⟩;unfold ZK;split
  .rw[List.getElem?_set_ne<|Ne.symm c,a]
  .exact a
def ZR5{l m n:List Ga}(h:ZO4 l m)(g:ZO4 m n):ZO4 l n:=λi y d=>by
 have⟨x,b,k,e,c⟩:=h i y d;have⟨z,j,f,p,o⟩:=g i x b;refine⟨z,j,f.trans k,p.trans e,λa=>?_⟩
 have:=c a;subst this;exact o a
def ZOP{l:List Ga}{w:Wk}{k:Nat}{a:NL Str}(h:ZO4 l w.s.Bc)(b:∀y,l[k]?=some y->y.Ld=-1):ZO4 l (Qf w k a).s.Bc:=by
 unfold Qf;split
 .exact ZQ0 (f:=UF w.e a) h (λ_=>⟨rfl,rfl⟩) b
 .exact h
def ZOQ{s:Sta}{k:Int}(a:QN s k=-1)(y:Ga)(b:s.Bc[k.toNat]?=some y):y.Ld=-1:=by
 unfold QN at a;rw[b]at a;exact a
def ZQ1{s:Sta}{n:NL Str}:∀(l:List Int){w:Wk},(∀k∈l,QN s k=-1)->ZO4 s.Bc w.s.Bc->ZO4 s.Bc (Yg w l n).s.Bc
 |[],_,_,h=>h
 |k::r,w,hl,h=>ZQ1 r (w:=Qf w k.toNat n) (λk a=>hl k<|ZT4 _ a)<|ZOP h<|ZOQ<|hl k<|ZSV ..
def ZR6(w:Wk)(a:Q1 w=0):ZO4 w.s.Bc (stepW w).s.Bc:=by
 have b:=ZPa w.s.Bc;have h:=λd=>ZPZ b [Xl w d]
 unfold Q1 at a;unfold stepW;split
 .exact b
 .exact b
 .unfold Hl;cases decide (Qo w.s w.e.Id>=0)<;>exact b
 .exact b
 .exact b
 .exact h _
 .exact b
 .rename_i g;rw[g]at a;have a:HD w=0:=a;unfold HD at a;have o:w.e.Lst.l.any (Hz w)=false:=by
   cases c:w.e.Lst.l.any (Hz w)with
   |false=>rfl
   |true=>
    rw[c,ZT9,cond_true]at a;simp only[ZUH]at a;split at a<;>cases a
  show ZO4 w.s.Bc (Yn w.s.Bc w.e.Lst.l w.e.Lst.l.length)
  generalize w.e.Lst.l.length=n;induction n with
  |zero=>exact b
  |succ i j=>
   unfold Yn;split
   .rename_i x q;have p:Hz w x=false:=by simpa using ZTB.1 o x (ZSy q)
    unfold Hz at p;rw[ZU0]at p;refine ZQ0 (f:=UP x.An) j (λ_=>⟨rfl,rfl⟩) λy m=>?_
    rw[Z4o<|HA _ _ _]at m;exact ZOQ (s:=w.s) (k:=Zn w.s x.Id) (by simpa using p.1) y m
   .exact j
 .rename_i g;rw[g]at a;have a:Ka w=0:=a;unfold Ka at a;have c:QN w.s (Zn w.s w.e.Id)=-1:=by
   cases c:QN w.s (Zn w.s w.e.Id) != -1 with
   |false=>simpa using c
   |true=>
    rw[c,ZSU,cond_true]at a;simp only[ZUH]at a;split at a
    .cases a
    .split at a<;>cases a
  unfold Kb;split
  .exact ZOP (w:=Y5 w _ w.e.Lst.l) (ZPZ b _)<|ZOQ c
  .exact b
 .rename_i g;rw[g]at a;have a:Kc w=0:=a;unfold Kc at a;have c:∀k∈Zf w,QN w.s k=-1:=λk g=>by
   cases c:Zu (λ_ k=>JG w.s (XP w.s<|(Zf w).headD 0) k) 0 (Zf w)with
   |false=>
    rw[c,cond_false]at a;simp only[ZUH]at a;split at a
    .cases a
    .split at a<;>cases a
   |true=>
    rw[QE]at c;have:=ZSw.1 c k g;unfold JG at this;simp at this;exact this.1.1
  unfold Kd;split
  .exact ZQ1 _ c<|h _
  .exact b
 .unfold Ht;generalize t:w.s.Bc.length=n;clear t;induction n with
  |zero=>exact b
  |succ i j=>
   unfold Y6;split
   .rename_i x q;cases r:NV (JH w<|ZK w.s.Bt (Y1 w.s w.e.Id).toNat<|Ke w.e).e.Id x with
    |false=>exact j
    |true=>
     unfold NV at r;simp at r;exact ZOP j λy m=>by rw[q]at m;cases m;exact r.2
   .exact j
 .unfold Hy;cases Kg w.s w.e.Id with
  |true=>exact b
  |false=>
  cases Kh w.s w.e.Id with
  |true=>exact b
  |false=>
  cases o:Ki w.s w.e.Id with
  |true=>
   unfold Ki at o;rw[ZSq]at o;exact ZOP b<|ZOQ<|by simpa using o.2
  |false=>exact b
 .exact b
 .exact b
 .exact h _
def ZR7(s:Sta)(a:Int)(e:Gt):ZO4 s.Bc (Zvx s a e).Bc:=by
 unfold Zvx;cases c:ZoN s a e==0&&Qk s a e==0 with
 |false=>exact ZPa _
 |true=>
  rw[ZSq]at c;have h:Qk s a e=0:=by simpa using c.2
  rw[cond_true];unfold Qk at h;unfold ZP;cases d:okB s a e with
  |false=>rw[d]at h;cases h
  |true=>
  cases b:Q1 (wk0 s a e)==0 with
  |false=>
   rw[d,b,cond_true,cond_false]at h;rw[h]at b;cases b
  |true=>
  cases f:Wh (stepW<|wk0 s a e).s.Bc with
  |false=>rw[d,b,f]at h;cases h
  |true=>exact ZR6 (wk0 s a e)<|by simpa using b
def ZQ2:∀(D:List<|Int×Gt)(a:Sta×List Int),ZO4 a.1.Bc (D.foldl Zvu a).1.Bc
 |[],_=>ZPa _
 |x::D,a=>ZR5 (ZR7 a.1 x.1 x.2)<|ZQ2 D<|Zvu a x
def ZR8(l:List Ver){c b:Int}(h:c<=b)(a:Int):ZO4 (Zr5 l c a).1.Bc (Zr5 l b a).1.Bc:=by
 rw[Zww,Zww];have e:=Zx9 l h a;generalize Zr3 l c a=A at*;generalize Zr3 l b a=B at*;have d:B.filterMap (Zvv l)=A.filterMap (Zvv l)++(B.drop A.length).filterMap (Zvv l):=by
  conv=>lhs;rw[<-ZTt A.length B,<-e,List.filterMap_append]
 rw[d,(Zxa _ _).1];exact ZQ2 _ ((stD<|A.filterMap<|Zvv l).1,[])
structure Ltr(s t:Sta):Prop where
 p:Prop' s
 q:Prop' t
 k:ZO4 s.Bc t.Bc
def ZPb{s:Sta}(h:Prop' s){d e:Ga}(b:d∈s.Bc)(c:e∈s.Bc)(a:d.Id=e.Id):d=e:=ZFX (ZEF h) b c a
def ZQ3{s:Sta}(h:Prop' s){d:Ga}(c:d∈s.Bc):d.Ld<0↔d.Ld=-1:=by
 have⟨i,b⟩:=ZTs.1 c;have a:=((Zd0 s i d).1 (h.dr i d b)).1;unfold QM ZD at a;simp only[ZSq,decide_eq_true_eq]at a;omega
def ZQ4{s:Sta}(h:Prop' s){d:Ga}(n:d∈s.Bc){z:Str}(c:z∈d.After.l):d.Ld≠-1/\∃e∈s.Bc,e.Id=z:=by
 have⟨i,m⟩:=ZTs.1 n;have⟨_,k,b,_⟩:=(Zd0 s i d).1 (h.dr i d m);constructor
 .intro f;unfold UC exD Yf at b;rw[f]at b;have o:decide (((d.After.l.length:Nat):Int)>0)=true:=decide_eq_true (by
   have:=ZVb c;omega)
  simp[o]at b;have:=ZVb c
  simp_all
 .have p:=of_decide_eq_false<|k z c;have:decide (Zn s z<0)=false:=decide_eq_false (by omega)
  rw[ZEz]at this;have⟨j,x,_,g,a⟩:=ZcU this;exact⟨x,ZSy g,a⟩
def ZOE{s t:Sta}(h:Ltr s t){d:Ga}(f:d∈s.Bc)(a:d.Ld≠-1):d∈t.Bc:=by
 have⟨i,e⟩:=ZTs.1 f;have⟨x,b,_,_,c⟩:=h.k i d e;rw[<-c a];exact ZSy b
def ZQ5{s t:Sta}(h:Ltr s t){d:Ga}(g:d∈s.Bc):∃e∈t.Bc,e.Id=d.Id/\e.From=d.From:=by
 have⟨i,b⟩:=ZTs.1 g;have⟨x,a,f,c,_⟩:=h.k i d b;exact⟨x,ZSy a,f,c⟩
def ZPc{s t:Sta}(h:Ltr s t){x z:Str}(f:Reach s x z):Reach t x z:=by
 induction f with
 |refl=>exact .refl _
 |step y z d _ b c a e=>exact .step _ y z d e (ZOE h b (ZQ4 h.p b a).1) c a
def ZQ6{s t:Sta}(h:Ltr s t){x z:Str}(l:∃e∈s.Bc,e.Id=x)(r:Reach t x z):
 (∃e∈s.Bc,e.Id=z/\Reach s x z)\/∃e∈s.Bc,e.Ld<0/\Reach s x e.Id/\Reach t e.Id z:=by
 induction r with
 |refl=>have⟨e,a,c⟩:=l;exact .inl ⟨e,a,c,.refl _⟩
 |step y z d _ k c i m=>
  rcases m with⟨e,a,b,f⟩|⟨e,a,h1,h2,h3⟩
  .by_cases n:e.Ld=-1
   .exact .inr ⟨e,a,by omega,by rw[b];exact f,.step _ y z d (by rw[b];exact .refl _) k c i⟩
   .have:d=e:=ZPb h.q k (ZOE h a n) (by rw[c,b])
    subst this;have⟨g,o,j⟩:=(ZQ4 h.p a i).2;exact .inl ⟨g,o,j,.step _ y z d f a c i⟩
  .exact .inr ⟨e,a,h1,h2,.step _ y z d h3 k c i⟩
def ZQ7{s:Sta}{x y z:Str}(e:Reach s x y)(a:Reach s y z):Reach s x z:=by
 induction a with
 |refl=>exact e
 |step w z d _ g b c f=>exact .step _ w z d f g b c
def ZR9{s t:Sta}(h:Ltr s t){id:Str}(o:∃e∈s.Bc,e.Id=id){D n:List Str}{E w:List Endz}(m:IsFate s id D E)(y:IsFate t id n w){F:Str->List Str×List Endz}(l:∀x∈D,IsFate t x (F x).1 (F x).2)(z:Str):
 z∈n↔∃x∈D,z∈(F x).1:=by
 rw[y.dm];constructor
 .rintro⟨d,c,rfl,g,i⟩;rcases ZQ6 h o i with⟨e,b,f,v⟩|⟨e,b,h3,j,h5⟩
  .have u:e.Ld<0:=by
    rw[ZQ3 h.p b];by_cases k:e.Ld=-1
    .exact k
    .have:d=e:=ZPb h.q c (ZOE h b k) f.symm;subst this;exact absurd ((ZQ3 h.q c).1 g) k
   have a:d.Id∈D:=(m.dm _).2 ⟨e,b,f,u,by rw[f];exact v⟩
   exact⟨d.Id,a,((l _ a).dm _).2 ⟨d,c,rfl,g,.refl _⟩⟩
  .have a:e.Id∈D:=(m.dm _).2 ⟨e,b,rfl,h3,j⟩;exact⟨e.Id,a,((l _ a).dm _).2 ⟨d,c,rfl,g,h5⟩⟩
 .rintro⟨x,a,r⟩;obtain⟨d,c,rfl,g,i⟩:=((l x a).dm _).1 r;have⟨e,b,f,_,j⟩:=(m.dm x).1 a;exact⟨d,c,rfl,g,ZQ7 (ZPc h<|by rw[<-f];exact j) i⟩
def ZRa{s t:Sta}(h:Ltr s t){id:Str}(r:∃e∈s.Bc,e.Id=id){D u:List Str}{E n:List Endz}(i:IsFate s id D E)(v:IsFate t id u n){F:Str->List Str×List Endz}(l:∀x∈D,IsFate t x (F x).1 (F x).2)(z:Endz):
 z∈n↔z∈E\/∃x∈D,z∈(F x).2:=by
 rw[v.em];constructor
 .rintro⟨d,f,rfl,b,c,j⟩;rcases ZQ6 h r j with⟨e,g,k,p⟩|⟨e,g,h3,m,h5⟩
  .by_cases o:e.Ld=-1
   .have a:d.Id∈D:=(i.dm _).2 ⟨e,g,k,by omega,by rw[k];exact p⟩
    exact .inr ⟨d.Id,a,((l _ a).em _).2 ⟨d,f,rfl,b,c,.refl _⟩⟩
   .have:d=e:=ZPb h.q f (ZOE h g o) k.symm;subst this;exact .inl<|(i.em _).2 ⟨d,g,rfl,b,c,p⟩
  .have a:e.Id∈D:=(i.dm _).2 ⟨e,g,rfl,h3,m⟩;exact .inr ⟨e.Id,a,((l _ a).em _).2 ⟨d,f,rfl,b,c,h5⟩⟩
 .rintro(hz|⟨x,a,hz⟩)
  .obtain⟨d,f,rfl,b,c,j⟩:=(i.em _).1 hz;exact⟨d,ZOE h f<|λo=>b<|by omega,rfl,b,c,ZPc h j⟩
  .obtain⟨d,f,rfl,b,c,j⟩:=((l x a).em _).1 hz;have⟨e,g,k,_,m⟩:=(i.dm x).1 a;exact⟨d,f,rfl,b,c,ZQ7 (ZPc h<|by rw[<-k];exact m) j⟩
structure Tkt where
 Ga:Str
 Day:Int
 cd:Int
 Mark:Str
def Tkt.enc(t:Tkt):AV:=.agg [.str t.Ga,I t.Day,I t.cd,.str t.Mark]
def ZAD(n:Int):Bool:=!decide (n<0)&&!decide (n>100000)
def ZyM(bw ex:Bool)(l:List Int)(q:l.length<9223372036854775807):pfn rE 35 [.isl bw ex 1<|l.map I]=some (.bool<|l.all ZAD):=by
 have L:=Uf (E:=rE) (live:=[5,6,7]) (b:=c35L0b) (h:=[]) l (λ_ x=>ZAD x) (λi=>[(5,.isl bw ex 1<|l.map I),(6,I l.length),(7,I i)]) 0 (λfr=>get fr 2=.bool false) (λi=>rfl)
  (λi x d c=>by
   have j:=Z6 (f:=I) d;have g:=Zh<|Z7 d;have p:=Zx (n:=i) (by have:=Z7 d;omega)
   unfold ZAD at c;rw[ZSq,ZSP,ZSP]at c;refine⟨_,by simp only[go_sem,c35L0b,j,g,p,c.1,c.2];rfl,?_⟩
   simp only[go_sem])
  (λi x d c=>by
   have j:=Z6 (f:=I) d;have g:=Zh<|Z7 d;unfold ZAD at c;cases e:decide (x<0)with
   |true=>
    refine⟨_,by simp only[go_sem,c35L0b,j,g,e];rfl,?_⟩
    simp only[go_sem]
   |false=>
    rw[e]at c;have k:decide (x>100000)=true:=by simpa using c
    refine⟨_,by simp only[go_sem,c35L0b,j,g,e,k];rfl,?_⟩
    simp only[go_sem])
  (⟨_,by simp only[go_sem,c35L0b,ZG];rfl⟩)
 rw[Z5 (f:=35) rfl rfl];rw[QE]at L;have⟨fr',e,k⟩:=L;have a:Zg rE [5,6,7] c35L0b [(5,.isl bw ex 1<|l.map I),(6,I l.length),(7,.int .i64 0)] []=_:=e;cases o:l.all ZAD with
 |true=>rw[o]at a;simp only[go_sem,c35,c35L0,a]
 |false=>
  rw[o]at a;have m:=k o;simp only[go_sem,c35,c35L0,a,m,ZSH]
def ZRb(n:Int):pfn rE 35 [Iy 1 [I n]]=some (.bool<|ZAD n):=by
 have:=ZyM false false [n]<|by simp
 rw[show [n].map I=[I n]from rfl]at this
 rw[this];simp only[ZTE,List.all_nil,ZSW]
def ZPd:Str:=B [48,49,50,51,52,53,54,55,56,57,97,98,99,100,101,102]
def ZPe(s c:Str):Str:=⟨(Go.Lib.trimS s.data.toList c.data.toList).toArray⟩
def ZOR(s:Str):Bool:=(s.size:Int)==16&&Z3 (ZPe s ZPd) emp
def ZRc(s:Str):pfn rE 56 [.str s]=some (.bool<|ZOR s):=by
 rw[Z5 (f:=56) rfl rfl];unfold ZOR;cases h:(s.size:Int)==16 with
 |false=>simp only[go_sem,c56,h]
 |true=>
  have b:s.size=16:=by have:=eq_of_beq h;omega
  have e:ZOt [.str s,.str<|B [48,49,50,51,52,53,54,55,56,57,97,98,99,100,101,102]] []=some (.str<|ZPe s ZPd,[]):=by
   show(bif (Nat.ble s.size 9223372036854775807&&_)then some _ else none)=_
   rw[b];rfl
  have a:pfn rE 111 [.str s,.str<|B [48,49,50,51,52,53,54,55,56,57,97,98,99,100,101,102]]=some (.str<|ZPe s ZPd):=by
   unfold pfn;rw[V8 (s:=ZOt) rfl,e];rfl
  simp only[go_sem,c56,h,a]
def ZPf(s:Str):Bool:=(Up s).err==0&&match(Up s).toks with
 |[t]=>t.br==1&&Z3 t.Text s
 |_=>false
def ZOw(t:Tkt):Bool:=ZPf t.Ga&&(decide (t.cd>=0)&&(decide (t.cd<=999999)&&(ZAD t.Day&&ZOR t.Mark)))
def ZRd(t:Tkt):pfn rE 27 [t.enc]=some (.bool<|ZOw t):=by
 have h:=Z1W t.Ga;have o:=ZRb t.Day;have n:=ZRc t.Mark;unfold ZOw ZPf;have⟨m,p,k,u⟩:=t;unfold Tkt.enc;simp only at h o n⊢;generalize Up m=x at h⊢;have⟨g,j,r⟩:=x;unfold Lx.val at h;simp only at h⊢;rw[Z5 (f:=27) rfl rfl];cases a:j==0 with
 |false=>simp only[go_sem,c27,h,a]
 |true=>
  rcases g with _|⟨⟨tk,ta,tn,tt⟩,_|⟨t2,g⟩⟩
  .have e:(((0:Nat):Int)==1)=false:=rfl;simp only[go_sem,c27,h,a,e]
  .have e:(((0+1:Nat):Int)==1)=true:=rfl;have c:ixG [.agg [I tk,I ta,I tn,.str tt]] 0=some (.agg [I tk,I ta,I tn,.str tt]):=rfl;have s:(((1:Nat):Int)==1)=true:=rfl;cases b:tk==1 with
   |false=>simp only[go_sem,c27,h,a,e,c,b,Tok.enc]
   |true=>
    cases d:Z3 tt m with
    |false=>simp only[go_sem,c27,h,a,e,c,b,d,Tok.enc]
    |true=>
     cases i:decide (k>=0)with
     |false=>simp only[go_sem,c27,h,a,e,c,b,d,i,Tok.enc]
     |true=>
      cases l:decide (k<=999999)with
      |false=>simp only[go_sem,c27,h,a,e,c,b,d,i,l,Tok.enc]
      |true=>
       cases q:ZAD p<;>simp only[go_sem,c27,h,a,e,c,b,d,i,l,q,Tok.enc,o,n]
  .have e:(((g.length+1+1:Nat):Int)==1)=false:=by
    rw[beq_eq_false_iff_ne];omega
   simp only[go_sem,c27,h,a,e]
structure TkOk(t:Tkt):Prop where
 nm:ZPf t.Ga=true
 i0:0<=t.cd
 i1:t.cd<=999999
 d0:0<=t.Day
 d1:t.Day<=100000
 dg:ZOR t.Mark=true
def tkS:Str:=B [116,105,99,107,101,116]
def ZOS(t:Tkt):Bool:=decide ((t.Ga.size:Int)<=100)&&decide ((t.Mark.size:Int)<=100)
def ZRe(t:Tkt):pfn rE 10 [t.enc]=some (.bool<|ZOS t):=by
 have⟨b,d,c,e⟩:=t;unfold Tkt.enc ZOS;simp only;rw[Z5 (f:=10) rfl rfl];cases a:decide ((b.size:Int)<=100)<;>simp only[go_sem,c10,a,ZSB,ZSO]
def ZOT(s:Sta)(id:Str):Option Ga:=bif decide (Zn s id<0)then none else s.Bc[(Zn s id).toNat]?
def ZOa(s:Sta)(t:Tkt):Bool:=match ZOT s t.Ga with
 |some d=>decide (d.From<=t.Day)
 |none=>false
def vwA(s:Sta)(t:Tkt):AV:=.agg [.str t.Ga,I t.Day,I t.cd,.str t.Mark,Iy 6<|s.Fa.map Gk.enc,Iy 5<|s.Gm.map By.enc,Iy 4<|s.Bt.map Ev.enc,Iy 16<|s.Bc.map Ga.enc,Iy 6<|s.Nk.map be.enc,Iy 2<|s.Gc.map bf.enc,Iy 2<|s.ba.map bf.enc]
def ZRf(s:Sta)(m:StS s)(t:Tkt):pfn rE 36 [vwA s t]=some (.bool<|ZOa s t):=by
 have a:=find_ok s m t.Ga;have⟨e,p,o,q⟩:=t;unfold ZOa ZOT vwA stA at*;simp only at a⊢;rw[Z5 (f:=36) rfl rfl];cases g:decide (Zn s e<0)with
 |true=>
  have b:decide (Zn s e>=0)=false:=decide_eq_false (by have:=of_decide_eq_true g;omega)
  simp only[go_sem,c36,a,b]
 |false=>
  have⟨j,d,n,i⟩:=QC (l:=s.Bc) g;have c:Zn s e=(j:Int):=n;rw[c]at a⊢;have b:decide ((j:Int)>=0)=true:=decide_eq_true<|by omega
  have h:=Z6 (f:=Ga.enc) i;rw[cond_false,show((j:Int)).toNat=j from rfl,i]
  have k:d.enc=.agg [.str d.Id,.str d.Ev,.str d.By,I d.bh,I d.An.N,.str d.An.bn,I d.An.Num,I d.An.Den,I d.bg.X,I d.bg.Y,I d.From,I d.Ld,d.After.enc 1 encS,I d.Why,I d.bz,.str d.Veil]:=rfl;rw[k]at h;simp only[go_sem,c36,a,b,h]
def ZOf(s:Sta)(t:Tkt)(a b:Int)(D:List Str)(E:List Endz)(e:Int):AV×Int:=
 bif !ZOw t||!(ZAD a&&ZAD b)then(ftA false false [] [],1)else bif decide (a<t.Day)then(ftA false false [] [],13)else bif !ZOa s t then(ftA false false [] [],10)else(ftA false false D E,e)
def ZPg(V:NL Ver)(t:Tkt)(a b:Int)(s:Sta)(m:StS s)(g:List Int)(D:List Str)(E:List Endz)(e:Int)
 (j:pfn rE 16 [vsA V,I a,I b]=some (.tup [stA s,Iy 1<|g.map I])) (l:pfn rE 17 [stA s,.str t.Ga]=some (.tup [ftA false false D E,I e])):
 pfn rE 15 [vsA V,t.enc,I a,I b]=some (.tup [(ZOf s t a b D E e).1,I (ZOf s t a b D E e).2]):=by
 have d:=ZRd t;have c:=ZyM false false [a,b]<|by simp
 have h:=ZRf s m t;have o:Z4 (g.map I)=true:=Zw (λ_=>rfl) g
 have k:Z4 [Iy 6<|s.Fa.map Gk.enc,Iy 5<|s.Gm.map By.enc,Iy 4<|s.Bt.map Ev.enc,Iy 16<|s.Bc.map Ga.enc,Iy 6<|s.Nk.map be.enc,Iy 2<|s.Gc.map bf.enc,Iy 2<|s.ba.map bf.enc]=true:=rfl;rw[show [a,b].map I=[I a,I b]from rfl]at c
 unfold ZOf;generalize ZOw t=b1 at d⊢;rw[show [a,b].all ZAD=(ZAD a&&ZAD b)by simp]at c
 generalize(ZAD a&&ZAD b)=b2 at c⊢;generalize ZOa s t=b4 at h⊢;have⟨r,n,p,q⟩:=t;unfold vwA stA ftA vsA Tkt.enc at*;simp only at*;rw[Z5 (f:=15) rfl rfl];cases b1 with
 |false=>simp only[go_sem,c15,d,ZSK,ZSU,ZSS]
 |true=>
  cases b2 with
  |false=>simp only[go_sem,c15,d,c,ZSI,ZSK,ZT5,ZSS]
  |true=>
   cases i:decide (a<n)with
   |true=>simp only[go_sem,c15,d,c,i,ZSI,ZT5,ZSS]
   |false=>
    cases b4 with
    |false=>simp only[go_sem,c15,d,c,i,j,h,ZSI,ZSK,ZT5,ZSS]
    |true=>simp only[go_sem,c15,d,c,i,j,h,l,ZSI,ZT5]
def ZRg(s:Sta)(d:StE s)(i:s.Bc.length<=500)(id:Str):∃D E e,pfn rE 17 [stA s,.str id]=some (.tup [ftA false false D E,I e])/\D.length<=1000/\E.length<=1000:=by
 by_cases h:ZEb s id=0
 .have f:Jx s=true:=by
   unfold ZEb at h;cases c:Jx s with
   |true=>rfl
   |false=>rw[c]at h;cases h
  have a:decide (Zn s id<0)=false:=by
   unfold ZEb at h;rw[f,cond_true]at h;cases c:decide (Zn s id<0)with
   |false=>rfl
   |true=>rw[c]at h;cases h
  have⟨D,E,g,b⟩:=ZHv s f d i id a;exact⟨D,E,0,g,by have:=b.dl;omega,by have:=b.el;omega⟩
 .exact⟨[],[],_,ZFi s d id h,by simp,by simp⟩
def ZQ8(bw ex:Bool)(l:List Str)(v:Str)(r:l.length<=1000000):pfn rE 18 [.isl bw ex 1<|l.map encS,.str v]=some (.bool<|hasB l v):=by
 have L:=QT (E:=rE) (live:=[0,1,5]) (b:=c18L0b) (h:=[]) l (λ_ x=>!Z3 x v) (λi=>[(0,.isl bw ex 1<|l.map encS),(1,.str v),(5,I i)]) 0 (λfr=>get fr 4=.bot) (λfr=>get fr 4=.bool true) (λi=>rfl)
  (λi x d g=>by
   have k:=Z6 (f:=encS) d;have j:=Zh<|Z7 d;have q:=Zx (n:=i) (by have:=Z7 d;omega)
   have c:Z3 x v=false:=by simpa using g
   refine⟨_,by simp only[go_sem,c18L0b,k,j,q,encS,c];rfl,?_⟩
   simp only[go_sem])
  (λi x d g=>by
   have k:=Z6 (f:=encS) d;have j:=Zh<|Z7 d;have c:Z3 x v=true:=by simpa using g
   refine⟨_,by simp only[go_sem,c18L0b,k,j,encS,c];rfl,?_⟩
   simp only[go_sem])
  (⟨_,by simp only[go_sem,c18L0b,ZG];rfl,by simp only[go_sem]⟩)
 have⟨fr',p,m,o⟩:=L;have a:Zg rE [0,1,5] c18L0b [(0,.isl bw ex 1<|l.map encS),(1,.str v),(5,.int .i64 0)] []=_:=p;rw[Z5 (f:=18) rfl rfl];unfold hasB;cases e:Zu (λ_ x=>!Z3 x v) 0 l with
 |true=>
  rw[e]at a;simp only[go_sem,c18,c18L0,a,m e,if_true,ZSI]
 |false=>
  rw[e]at a;simp only[go_sem,c18,c18L0,a,o e,ZSH,ZSK]
def ZQ9(bw ex:Bool)(l:List Endz)(v:Endz)(r:l.length<=1000000):pfn rE 19 [.isl bw ex 3<|l.map Endz.enc,v.enc]=some (.bool<|ZIL l v):=by
 have L:=QT (E:=rE) (live:=[0,3,5]) (b:=c19L0b) (h:=[]) l (λ_ x=>!ZEq x v) (λi=>[(0,.isl bw ex 3<|l.map Endz.enc),(3,.iptr false [.str v.Id,I v.br,I v.Day]),(5,I i)]) 0 (λfr=>get fr 4=.bot) (λfr=>get fr 4=.bool true) (λi=>rfl)
  (λi x d g=>by
   have k:=Z6 (f:=Endz.enc) d;have j:=Zh<|Z7 d;have q:=Zx (n:=i) (by have:=Z7 d;omega)
   have a:ZEq x v=false:=by simpa using g
   unfold ZEq at a;refine⟨_,by simp only[go_sem,c19L0b,k,j,q,Endz.enc,a];rfl,?_⟩
   simp only[go_sem])
  (λi x d g=>by
   have k:=Z6 (f:=Endz.enc) d;have j:=Zh<|Z7 d;have a:ZEq x v=true:=by simpa using g
   unfold ZEq at a;refine⟨_,by simp only[go_sem,c19L0b,k,j,Endz.enc,a];rfl,?_⟩
   simp only[go_sem])
  (⟨_,by simp only[go_sem,c19L0b,ZG];rfl,by simp only[go_sem]⟩)
 have⟨fr',p,m,o⟩:=L;have c:Zg rE [0,3,5] c19L0b [(0,.isl bw ex 3<|l.map Endz.enc),(3,.iptr false [.str v.Id,I v.br,I v.Day]),(5,.int .i64 0)] []=_:=p;rw[Z5 (f:=19) rfl rfl];unfold ZIL;cases e:Zu (λ_ x=>!ZEq x v) 0 l with
 |true=>
  rw[e]at c;simp only[go_sem,c19,c19L0,Endz.enc,c,m e,if_true,ZSI]
 |false=>
  rw[e]at c;simp only[go_sem,c19,c19L0,Endz.enc,c,o e,ZSH,ZSK]
def wE(e:Bool)(b:Nat):Option Nat:=bif e then none else some b
def ZRh(e a1 a2:Bool)(r1 r2:List Nat)(b:Nat)(k1 k2:Option<|AV×AV)(h:(!a1&&!r1.contains b)=true):Qy ⟨a1,r1,none,k1⟩ ⟨a2,r2,wE e b,k2⟩=true:=by
 cases e<;>simp_all[Qy,wE]
def ZRi(v:AV)(rs:List Nat)(e:Bool)(b:Nat)(o:AObj):wrB (some (v,rs,bif e then none else some (b,o)))=wE e b:=by cases e<;>rfl
def ZPh{h:Hp}{aid b g sz bytes:Nat}{es ys:List AV}{bw ex:Bool}(a:h[b]?=some (.row sz es))(k:es.length=g)(f:ys.all (fits sz)=true)(i:0<sz)(j:0<bytes)(c:(g+ys.length)*bytes<=140737488355328):
 Qt h aid false sz bytes (.sl b g 0 g false) (.isl bw ex sz ys)=some (.sl b (g+ys.length) 0 (g+ys.length) false,[b],bif ys.isEmpty then none else some (b,.row sz<|es++ys)):=by
 subst k;have e:List.take es.length es=es:=ZSR<|ZSr _;simp only[Qt,Q2,a,cond_true,ZTq,e,Qq,beq_self_eq_true,ZSU,i,j,c,and_self,if_true,f,ZTl,Zs];cases d:ys.isEmpty with
 |true=>rw[ZTY.1 d];rfl
 |false=>rfl
def ZQa{h:Hp}{b g sz bytes:Nat}{es ys:List AV}{bw ex:Bool}(a:h[b]?=some (.row sz es))(m:es.length=g)(j:ys.all (fits sz)=true)(k:0<sz)(l:0<bytes)(e:(g+ys.length)*bytes<=140737488355328):
 appW h false sz bytes (.sl b g 0 g false) (.isl bw ex sz ys)=some (.sl b (g+ys.length) 0 (g+ys.length) false,setH h b<|.row sz<|es++ys):=by
 rw[appW,ZPh a m j k l e,ZM];cases f:ys.isEmpty with
 |true=>
  have c:=Z7 a;rw[ZTY.1 f,ZSC];have d:h[b]=.row sz es:=by rw[ZSu c]at a;exact Option.some.inj a
  have i:Nat.blt b h.length=true:=by simp[ZTw,c]
  simp only[cond_true,ZH,setH,i];rw[<-d,ZVa]
 |false=>rfl
def ZRj{h:Hp}{b g sz bytes:Nat}{es ys:List AV}{bw ex:Bool}(d:h[b]?=some (.row sz es))(a:es.length=g)(i:ys.all (fits sz)=true)(k:0<sz)(l:0<bytes)(e:(g+ys.length)*bytes<=140737488355328)(c:Z4 (es++ys)=true):
 Zwk h sz bytes (.sl b g 0 g false) (.isl bw ex sz ys)=some (Iy sz<|es++ys,[b],some (b,.gone)):=by
 unfold Zwk;rw[ZPh d a i k l e];cases f:ys.isEmpty with
 |true=>
  rw[ZTY.1 f,ZSC]at c⊢;have m:(es.length==g&&Z4 es)=true:=by rw[c,a];simp
  simp only[cond_true,ZvE,d,ZT1,ZTc,m,ZTq];rw[ZSR<|Nat.le_of_eq a]
 |false=>
  have j:(b==b&&((es++ys).length==g+ys.length&&Z4 (es++ys)))=true:=by rw[c,ZSJ,a];simp
  simp only[cond_false,ZvE,j,cond_true,ZTq];rw[ZSR<|Nat.le_of_eq<|by rw[ZSJ,a]]
def ZRk(sz:Nat)(ex:Bool)(z:AV)(fr:Fr)(h:Hp)(a:fits sz z=true):Za rE (.bsl false ex sz z 0 []) fr h=⟨false,[],some h.length,none⟩:=by
 simp only[Za,Z8,List.replicate_zero,ZSS,YC,a,cond_true,cond_false];rfl
attribute [go_sem] ZRh ZRi ZRk
section
variable (D D':List Str) (E E':List Endz) (t:Sta) (F:Str→List Str×List Endz)
def alD(l:List Str):List Str:=l.flatMap λx=>(F x).1
def alE(l:List Str):List Endz:=E++l.flatMap λx=>(F x).2
def ltH(A:List Str)(B:List Endz):Hp:=[.row 2 [ftA false false D E],.row 2 [ftA false false D' E'],.row 7 [stA t],.row 2 [.agg [.sl 4 A.length 0 A.length false,Iy 3<|B.map Endz.enc]],.row 1<|A.map encS]
abbrev ltF(i:Nat):Fr:=[(11,.bool true),(12,.ptr 0 0 0 1),(15,.ptr 1 0 0 1),(16,I 0),(17,.ptr 2 0 0 1),(19,.ptr 3 0 0 1),(20,I i)]
def ZRl(hD:D.length<=500)(hE:E.length<=500)(hF:∀x∈D,pfn rE 17 [stA t,.str x]=some (.tup [ftA false false (F x).1 (F x).2,I 0])/\(F x).1.length<=500/\(F x).2.length<=500):
 ∃fr',Zg rE [11,12,15,16,17,19,20] c4L0b (ltF 0) (ltH D D' E E' t [] E)=some (.exit 0,fr',ltH D D' E E' t (alD F D)<|alE E F D)/\get fr' 11=.bool true/\get fr' 15=.ptr 1 0 0 1/\get fr' 16=I 0/\get fr' 19=.ptr 3 0 0 1/\get fr' 10=.bot:=by
 have hbS:∀n(K:List Str),Zd n (K.map encS)=true:=λn K=>ZN _<|Zw (λt=>rfl) K
 have hbE:∀n(K:List Endz),Zd n (K.map Endz.enc)=true:=λn K=>ZN _<|Zw (λt=>rfl) K
 have hcE:∀K:List Endz,Z4 (K.map Endz.enc)=true:=λK=>Zw (λt=>rfl) K
 have key:∀(l:List Str),(∀x∈l,x∈D)->(alD F l).length<=l.length*500/\(alE E F l).length<=500+l.length*500:=by
  intro l;induction l with
  |nil=>intro _;simp[alD,alE];omega
  |cons x r ih=>
   intro h;have⟨_,h1,h2⟩:=hF x<|h x<|ZSV ..;have:=ih λy hy=>h y<|ZT4 _ hy
   simp[alD,alE]at this⊢;omega
 have L:=Y8 (E:=rE) (live:=[11,12,15,16,17,19,20]) (b:=c4L0b) D.length (λi=>ltF i) (λi=>ltH D D' E E' t (alD F<|D.take i)<|alE E F<|D.take i) (λi=>rfl)
  (λi hi=>by
   obtain⟨x,hx⟩:∃x,D[i]?=some x:=⟨_,ZSu hi⟩;have hm:=ZSy hx;have hg:=Z6 (f:=encS) hx;have hi':=Zh hi;have hw:=Zx (n:=i)<|by omega
   have h00:((0:Int) != 0)=false:=rfl;have⟨hf,f1,f2⟩:=hF x hm;have⟨k1,k2⟩:=key (D.take i)<|λy hy=>ZTQ hy
   have htl:(D.take i).length=i:=take_len hx;have eD:alD F (D.take<|i+1)=alD F (D.take i)++(F x).1:=by
    unfold alD;rw[ZTA,hx];simp
   have eE:alE E F (D.take<|i+1)=alE E F (D.take i)++(F x).2:=by
    unfold alE;rw[ZTA,hx];simp
   rw[eD,eE];generalize alD F (D.take i)=A at*;generalize alE E F (D.take i)=B at*;generalize F x=fx at*;have a1:=λh(hb:h[4]?=_)=>ZQa (h:=h) (b:=4) (g:=A.length) (sz:=1) (bytes:=16) (es:=A.map encS) (ys:=fx.1.map encS) (bw:=false) (ex:=false) hb (by simp) (Xj (λ_=>rfl) _) (by omega) (by omega)<|by simp;omega
   have a2:=λh aid(hb:h[6]?=_)=>ZPh (h:=h) (aid:=aid) (b:=6) (g:=0) (sz:=3) (bytes:=32) (es:=[]) (ys:=B.map Endz.enc) (bw:=false) (ex:=false) hb rfl (Xj (λ_=>rfl) _) (by omega) (by omega) (by simp;omega)
   have a3:=λh(hb:h[6]?=_)=>ZQa (h:=h) (b:=6) (g:=0) (sz:=3) (bytes:=32) (es:=[]) (ys:=B.map Endz.enc) (bw:=false) (ex:=false) hb rfl (Xj (λ_=>rfl) _) (by omega) (by omega) (by simp;omega)
   have a4:=λh(hb:h[6]?=_)=>ZRj (h:=h) (b:=6) (g:=B.length) (sz:=3) (bytes:=32) (es:=B.map Endz.enc) (ys:=fx.2.map Endz.enc) (bw:=false) (ex:=false) hb (by simp) (Xj (λ_=>rfl) _) (by omega) (by omega) (by simp;omega)<|by rw[<-ZSF];exact hcE _
   refine⟨_,by simp only[go_sem,c4L0b,ltH,ftA,hg,hi',hw,hf,h00,a1,a2,a3,a4,ZwE,ZM,ZH,encS,hbS,hbE,hcE,ZSs,ZSJ,ZSF,ZSz,ZSE,beq_self_eq_true];rfl,by simp only[go_sem]⟩)
  (e:=.exit 0) (by simp only[go_sem,c4L0b,ltH,ftA,ZG,hbS,hbE,ZSs];rfl) (by simp)
 rw[ZSR<|ZSr _,show alE E F (D.take 0)=E by simp[alE]]at L
 exact⟨_,L,rfl,rfl,rfl,rfl,rfl⟩
end
end Go.AM
namespace Go.AM
open Go
variable [REdz]
def ZRm(V:NL Ver)(t:Tkt)(b:∀v∈V.l,v.bc.l.length<=140737488355328):pfn rE 14 [vsA V,t.enc]=some (.bool<|ZvT V.l 16&&ZOS t):=by
 have a:=ZAm V 16 b;have d:=ZRe t;unfold Tkt.enc at*;rw[Z5 (f:=14) rfl rfl];cases c:ZvT V.l 16 with
 |false=>rw[c]at a;simp only[go_sem,c14,a,ZSO]
 |true=>rw[c]at a;simp only[go_sem,c14,a,d,ZSB]
def ZQb{V:NL Ver}(h:FewS V.l)(a b:Int):StE (Zr5 V.l a b).1/\(Zr5 V.l a b).1.Bc.length<=500:=by
 have i:=Zwf V.l a b;have f:=h.sum;have c:=(Zx3 h.vs (Zr3 V.l a b) 0 (Yh,[]) (StN.zero 0)<|by omega).1
 refine⟨c.e,?_⟩;have g:=c.doors;have d:(Zr5 V.l a b).1=((Zr3 V.l a b).foldl (Zvi V.l) (Yh,[])).1:=rfl;rw[d];omega
def ZQc(n:Int):ZAD n=true↔0<=n/\n<=100000:=by unfold ZAD;simp
def ZQd{s:Sta}(c:Prop' s){d:Ga}(b:d∈s.Bc):∃j:Nat,Zn s d.Id=(j:Int)/\s.Bc[j]?=some d:=by
 have⟨i,a⟩:=ZTs.1 b;exact⟨i,by rw[ZEz];exact Zi1 (f:=λx:Ga=>x.Id) (ZEF c) a,a⟩
def ZQe(s:Sta)(a:Jx s=true)(c:StE s)(d:s.Bc.length<=500){id:Str}(h:∃e∈s.Bc,e.Id=id):∃D E,pfn rE 17 [stA s,.str id]=some (.tup [ftA false false D E,I 0])/\IsFate s id D E:=by
 obtain⟨e,b,rfl⟩:=h;have⟨j,f,_⟩:=ZQd ((Zdb s).1 a).1 b;exact ZHv s a c d e.Id<|decide_eq_false<|by omega
def ZRn{s:Sta}{t:Tkt}(h:ZOa s t=true):∃d∈s.Bc,d.Id=t.Ga/\d.From<=t.Day:=by
 unfold ZOa ZOT at h;cases c:decide (Zn s t.Ga<0)with
 |true=>rw[c]at h;cases h
 |false=>
  obtain⟨j,d,e,a,b⟩:=ZcU<|by rw[ZEz]at c;exact c
  rw[c,cond_false,show Zn s t.Ga=(j:Int)from e,show((j:Int)).toNat=j from rfl,a]at h
  exact⟨d,ZSy a,b,of_decide_eq_true h⟩
def ZRo{s:Sta}(f:Prop' s){t:Tkt}{d:Ga}(g:d∈s.Bc)(c:d.Id=t.Ga)(e:d.From<=t.Day):ZOa s t=true:=by
 have⟨j,a,b⟩:=ZQd f g;rw[c]at a;unfold ZOa ZOT;rw[a,show decide ((j:Int)<0)=false from decide_eq_false (by omega),cond_false,show((j:Int)).toNat=j from rfl,b]
 exact decide_eq_true e
section
variable (D D' A:List Str) (E E' B:List Endz) (t:Sta)
abbrev lH:Hp:=[.row 2 [ftA false false D E],.row 2 [ftA false false D' E'],.row 7 [stA t],.row 2 [.agg [.sl 4 A.length 0 A.length false,Iy 3<|B.map Endz.enc]],.row 1<|A.map encS]
abbrev lF(k i:Nat):Fr:=[(11,.bool true),(15,.ptr 1 0 0 1),(16,I 0),(19,.ptr 3 0 0 1),(k,I i)]
def ZOb(n:Nat)(K:List Str):Zd n (K.map encS)=true:=ZN _<|Zw (λt=>rfl) K
def ZOc(n:Nat)(K:List Endz):Zd n (K.map Endz.enc)=true:=ZN _<|Zw (λt=>rfl) K
def ZRp(o:D'.length<=500)(r:E'.length<=500)(p:A.length<=250000)(q:B.length<=250500)(j:∀x∈A,hasB D' x=true):
 ∃fr',Zg rE [11,15,16,19,23] c4L1b (lF 23 0) (lH D D' A E E' B t)=some (.exit 2,fr',lH D D' A E E' B t)/\get fr' 11=.bool true/\get fr' 15=.ptr 1 0 0 1/\get fr' 16=I 0/\get fr' 19=.ptr 3 0 0 1/\get fr' 10=.bot:=by
 have L:=Y8 (E:=rE) (live:=[11,15,16,19,23]) (b:=c4L1b) (A).length (λi=>lF 23 i) (λ_=>lH D D' A E E' B t) (λi=>rfl)
  (λi g=>by
   obtain⟨x,d⟩:∃x,(A)[i]?=some x:=⟨_,ZSu g⟩;have k:=Z6 (f:=encS) d;have c:=Zh g;have m:=Zx (n:=i)<|by omega
   have l:=j x<|ZSy d;have h:=λbw ex=>ZQ8 bw ex D' x<|by omega
   have a:iaP 4 A.length 0 1 (i:Int) A.length (some (1,A.map encS))=some (.ptr 4 i 0 A.length):=by
    rw[VT 4 A.length 0 1 (i:Int) A.length (A.map encS) ⟨by omega,by omega⟩,ZSE]
    rfl
   rw[l]at h;refine⟨_,by simp only[go_sem,c4L1b,lH,ftA,k,c,m,h,a,encS,ZOb,ZOc,ZSs,beq_self_eq_true];rfl,by simp only[go_sem]⟩)
  (e:=.exit 2) (by simp only[go_sem,c4L1b,lH,ftA,ZG,ZOb,ZOc,ZSs,beq_self_eq_true];rfl) (by simp)
 exact⟨_,L,rfl,rfl,rfl,rfl,rfl⟩
def ZRq(l:D'.length<=500)(p:E'.length<=500)(m:A.length<=250000)(o:B.length<=250500)(f:∀x∈B,ZIL E' x=true):
 ∃fr',Zg rE [11,15,16,19,24] c4L2b (lF 24 0) (lH D D' A E E' B t)=some (.exit 4,fr',lH D D' A E E' B t)/\get fr' 11=.bool true/\get fr' 15=.ptr 1 0 0 1/\get fr' 16=I 0/\get fr' 19=.ptr 3 0 0 1/\get fr' 10=.bot:=by
 have L:=Y8 (E:=rE) (live:=[11,15,16,19,24]) (b:=c4L2b) (B).length (λi=>lF 24 i) (λ_=>lH D D' A E E' B t) (λi=>rfl)
  (λi d=>by
   obtain⟨x,c⟩:∃x,(B)[i]?=some x:=⟨_,ZSu d⟩;have h:(B.map Endz.enc)[i]?=some (.agg [.str x.Id,I x.br,I x.Day]):=Z6 c;have a:=Zh d;have k:=Zx (n:=i)<|by omega
   have j:=f x<|ZSy c;have g:∀bw ex,pfn rE 19 [.isl bw ex 3<|E'.map Endz.enc,.agg [.str x.Id,I x.br,I x.Day]]=some (.bool true):=λbw ex=>(ZQ9 bw ex E' x<|by omega).trans (by rw[j])
   refine⟨_,by simp only[go_sem,c4L2b,lH,ftA,h,a,k,g,ZOb,ZOc,ZSs,beq_self_eq_true];rfl,by simp only[go_sem]⟩)
  (e:=.exit 4) (by simp only[go_sem,c4L2b,lH,ftA,ZG,ZOb,ZOc,ZSs,beq_self_eq_true];rfl) (by simp)
 exact⟨_,L,rfl,rfl,rfl,rfl,rfl⟩
def ZRr(r:D'.length<=500)(v:E'.length<=500)(s:A.length<=250000)(u:B.length<=250500)(m:∀x∈D',hasB A x=true):
 ∃fr',Zg rE [11,15,16,19,25] c4L3b (lF 25 0) (lH D D' A E E' B t)=some (.exit 6,fr',lH D D' A E E' B t)/\get fr' 11=.bool true/\get fr' 15=.ptr 1 0 0 1/\get fr' 16=I 0/\get fr' 19=.ptr 3 0 0 1/\get fr' 10=.bot:=by
 have L:=Y8 (E:=rE) (live:=[11,15,16,19,25]) (b:=c4L3b) (D').length (λi=>lF 25 i) (λ_=>lH D D' A E E' B t) (λi=>rfl)
  (λi k=>by
   obtain⟨x,j⟩:∃x,(D')[i]?=some x:=⟨_,ZSu k⟩;have o:=Z6 (f:=encS) j;have g:=Zh k;have q:=Zx (n:=i)<|by omega
   have p:=m x<|ZSy j;have l:=λbw ex=>ZQ8 bw ex A x<|by omega
   rw[p]at l;have d:(A.map encS).take A.length=A.map encS:=ZSR<|by simp
   have c:Z4 (A.map encS)=true:=Zw (λ_=>rfl) A
   have a:∀h n,ZC true h (n+1) (A.map encS)=some (A.map encS):=λh n=>by simp only[ZC,c,cond_true]
   have a:=λh=>a h 37
   simp only[Nat.reduceAdd]at a;refine⟨_,by simp only[go_sem,c4L3b,lH,ftA,o,g,q,l,d,a,encS,ZOb,ZOc,ZSs,beq_self_eq_true];rfl,by simp only[go_sem]⟩)
  (e:=.exit 6) (by simp only[go_sem,c4L3b,lH,ftA,ZG,ZOb,ZOc,ZSs,beq_self_eq_true];rfl) (by simp)
 exact⟨_,L,rfl,rfl,rfl,rfl,rfl⟩
def ZRs(l:D'.length<=500)(p:E'.length<=500)(m:A.length<=250000)(o:B.length<=250500)(f:∀x∈E',ZIL B x=true):
 ∃fr',Zg rE [11,15,16,19,26] c4L4b (lF 26 0) (lH D D' A E E' B t)=some (.exit 8,fr',lH D D' A E E' B t)/\get fr' 11=.bool true/\get fr' 15=.ptr 1 0 0 1/\get fr' 16=I 0/\get fr' 19=.ptr 3 0 0 1/\get fr' 10=.bot:=by
 have L:=Y8 (E:=rE) (live:=[11,15,16,19,26]) (b:=c4L4b) (E').length (λi=>lF 26 i) (λ_=>lH D D' A E E' B t) (λi=>rfl)
  (λi d=>by
   obtain⟨x,c⟩:∃x,(E')[i]?=some x:=⟨_,ZSu d⟩;have h:(E'.map Endz.enc)[i]?=some (.agg [.str x.Id,I x.br,I x.Day]):=Z6 c;have a:=Zh d;have k:=Zx (n:=i)<|by omega
   have j:=f x<|ZSy c;have g:∀bw ex,pfn rE 19 [.isl bw ex 3<|B.map Endz.enc,.agg [.str x.Id,I x.br,I x.Day]]=some (.bool true):=λbw ex=>(ZQ9 bw ex B x<|by omega).trans (by rw[j])
   refine⟨_,by simp only[go_sem,c4L4b,lH,ftA,h,a,k,g,ZOb,ZOc,ZSs,beq_self_eq_true];rfl,by simp only[go_sem]⟩)
  (e:=.exit 8) (by simp only[go_sem,c4L4b,lH,ftA,ZG,ZOb,ZOc,ZSs,beq_self_eq_true];rfl) (by simp)
 exact⟨_,L,rfl,rfl,rfl,rfl,rfl⟩
end
end Go.AM
namespace Go.AM
open Go
variable [REdz]
def ZQf(F:Str->List Str×List Endz):∀l:List Str,(∀x∈l,(F x).1.length<=500/\(F x).2.length<=500)->(alD F l).length<=l.length*500/\(l.flatMap λx=>(F x).2).length<=l.length*500
 |[],_=>by simp[alD]
 |x::r,h=>by
  have⟨d,b⟩:=h x<|ZSV ..;have⟨c,e⟩:=ZQf F r λy a=>h y<|ZT4 _ a
  unfold alD at*;simp only[ZU1,ZSJ,ZSG];omega
def Zs5(C:pfn rE 8 []=some (.bool true))(V:NL Ver)(t:Tkt)(hm:∀v∈V.l,v.bc.l.length<=140737488355328)(a b n:Int)(an:0<=n)(aj:n<65536):
 pfn rE 4 [vsA V,t.enc,I a,I b,.int .u16 n]=some (.bool true):=by
 have L:=ZRm V t hm;cases c1:ZvT V.l 16&&ZOS t with
 |false=>
  rw[c1]at L;unfold Tkt.enc at*;rw[Z5 (f:=4) rfl rfl];simp only[go_sem,c4,C,L,ZSK]
 |true=>
  rw[c1]at L;rw[ZSq]at c1;have i:=Zx5 c1.1;have⟨hS,hN⟩:=ZQb i a b;have N:=Zwg V i a b;have S:=ZCl V.l a b;cases c2:(ZOw t&&(ZAD a&&ZAD b))&&(!decide (a<t.Day)&&ZOa (Zr5 V.l a b).1 t)with
  |false=>
   have⟨D,E,e,K,O,R⟩:=ZRg _ hS hN t.Ga;have y:=ZPg V t a b _ hS.sizes _ D E e N K;obtain⟨m,o,q,hr,hq⟩:∃m o q,ZOf (Zr5 V.l a b).1 t a b D E e=(ftA false false m o,q)/\(q != 0)=true:=by
    unfold ZOf;cases x1:ZOw t with
    |false=>exact⟨[],[],1,rfl,rfl⟩
    |true=>
    cases x2:ZAD a&&ZAD b with
    |false=>exact⟨[],[],1,rfl,rfl⟩
    |true=>
    cases x3:decide (a<t.Day)with
    |true=>exact⟨[],[],13,rfl,rfl⟩
    |false=>
    cases x4:ZOa (Zr5 V.l a b).1 t with
    |false=>exact⟨[],[],10,rfl,rfl⟩
    |true=>rw[x1,x2,x3,x4]at c2;cases c2
   rw[hr]at y;unfold Tkt.enc ftA at*;simp only at y;rw[Z5 (f:=4) rfl rfl];simp only[go_sem,c4,C,L,y,hq,ZOb,ZOc,ZSI,ZSK]
  |true=>
   simp only[ZSq,ZSP]at c2;have⟨⟨f1,f2,f3⟩,f4,f5⟩:=c2;have hv:=(ZQc a).1 f2;have hw:IntKind.i64.wrap (a+n)=a+n:=YM (by omega)<|by omega
   have M:IntKind.i64.wrap n=n:=YM (by omega)<|by omega
   have⟨d,X,u,ak⟩:=ZRn f5;have⟨D,E,K,Y⟩:=ZQe _ S hS hN ⟨d,X,u⟩;have y:=ZPg V t a b _ hS.sizes _ D E 0 N K;have ad:ZOf (Zr5 V.l a b).1 t a b D E 0=(ftA false false D E,0):=by
    unfold ZOf;rw[f1,f2,f3,f4,f5];rfl
   rw[ad]at y;have U:((0:Int) != 0)=false:=rfl;cases c3:decide (a+n>100000)with
   |true=>
    unfold Tkt.enc ftA at*;simp only at y;rw[Z5 (f:=4) rfl rfl];simp only[go_sem,c4,C,L,y,hw,M,U,c3,ZOb,ZOc,ZSI,ZSK]
   |false=>
    have⟨ac,af⟩:=ZQb i (a+n) b;have aa:=Zwg V i (a+n) b;have W:=ZCl V.l (a+n) b;have Z:Ltr (Zr5 V.l a b).1 (Zr5 V.l (a+n) b).1:=⟨((Zdb _).1 S).1,((Zdb _).1 W).1,ZR8 V.l (by omega) b⟩
    generalize(Zr5 V.l a b).1=s at*;generalize(Zr5 V.l (a+n) b).1=s2 at*;have p:∀e∈s.Bc,∃D E,pfn rE 17 [stA s2,.str e.Id]=some (.tup [ftA false false D E,I 0])/\IsFate s2 e.Id D E:=λe he=>by
     have⟨g,hg,hi,_⟩:=ZQ5 Z he;exact ZQe _ W ac af ⟨g,hg,hi⟩
    have⟨m,o,J,r⟩:=p d X;rw[u]at J r;have ae:ZOa s2 t=true:=by
     have⟨g,hg,hi,hf⟩:=ZQ5 Z X;exact ZRo Z.q hg (hi.trans u)<|by omega
    have R2:=ZPg V t (a+n) b _ ac.sizes _ m o 0 aa J;have ah:ZOf s2 t (a+n) b m o 0=(ftA false false m o,0):=by
     have g2:ZAD (a+n)=true:=(ZQc _).2 (by have:=of_decide_eq_false c3;omega)
     have g4:decide (a+n<t.Day)=false:=decide_eq_false (by have:=of_decide_eq_false f4;omega)
     unfold ZOf;rw[f1,g2,f3,g4,ae];rfl
    rw[ah]at R2;have ag:∀x:Str,∃P:List Str×List Endz,x∈D->pfn rE 17 [stA s2,.str x]=some (.tup [ftA false false P.1 P.2,I 0])/\IsFate s2 x P.1 P.2:=λx=>by
     by_cases c:x∈D
     .obtain⟨e,he,rfl,_⟩:=(Y.dm x).1 c;have⟨G,H,h1,h2⟩:=p e he;exact⟨(G,H),λ_=>⟨h1,h2⟩⟩
     .exact⟨([],[]),λh=>absurd h c⟩
    have⟨F,T⟩:=Classical.axiomOfChoice ag;have hH:∀x∈D,IsFate s2 x (F x).1 (F x).2:=λx c=>(T x c).2
    have Q:∀x∈D,(F x).1.length<=500/\(F x).2.length<=500:=λx c=>⟨(hH x c).dl,(hH x c).el⟩
    have⟨k1,k2⟩:=ZQf F D Q;have eD:=ZR9 Z ⟨d,X,u⟩ Y r hH;have eE:=ZRa Z ⟨d,X,u⟩ Y r hH;have mD:∀x,x∈alD F D↔x∈m:=λx=>by rw[eD x];unfold alD;rw[ZUi]
    have mE:∀x,x∈alE E F D↔x∈o:=λx=>by rw[eE x];unfold alE;rw[ZSQ,ZUi]
    have O:=Y.dl;have R:=Y.el;have k:=r.dl;have j:=r.el;have z:(alD F D).length<=250000:=by omega
    have w:(alE E F D).length<=250500:=by unfold alE;rw[ZSJ];omega
    have⟨am,L0,a1,a2,a3,a4,a5⟩:=ZRl D m E o s2 F O R λx c=>⟨(T x c).1,Q x c⟩
    generalize alD F D=A at*;generalize alE E F D=B at*;have⟨aq,L1,b1,b2,b3,b4,b5⟩:=ZRp D m A E o B s2 k j z w λx c=>Zn6.2<|(mD x).1 c
    have⟨ar,L2,d1,d2,d3,d4,d5⟩:=ZRq D m A E o B s2 k j z w λx c=>ZJ2.2<|(mE x).1 c
    have⟨ap,L3,e1,e2,e3,e4,e5⟩:=ZRr D m A E o B s2 k j z w λx c=>Zn6.2<|(mD x).2 c
    have⟨al,L4,g1,g2,g3,g4,g5⟩:=ZRs D m A E o B s2 k j z w λx c=>ZJ2.2<|(mE x).2 c
    unfold ltF ltH ftA at L0;unfold lF lH ftA at L1 L2 L3 L4;simp only[ZT1,ZSS,Int.natCast_zero]at L0 L1 L2 L3 L4;unfold Tkt.enc ftA at*;simp only at y R2;have ab:fits 2 (.agg [.nilsl,Iy 3<|E.map Endz.enc])=true:=rfl;rw[Z5 (f:=4) rfl rfl];simp only[go_sem,c4,c4L0,c4L1,c4L2,c4L3,c4L4,C,L,y,R2,aa,hw,M,U,c3,ab,ZOb,ZOc,L0,a1,a2,a3,a4,a5,L1,b1,b2,b3,b4,b5,L2,d1,d2,d3,d4,d5,L3,e1,e2,e3,e4,e5,L4,g1,g3,g5,beq_self_eq_true,ZSI,ZSK,ZT1,ZSS]
end Go.AM
