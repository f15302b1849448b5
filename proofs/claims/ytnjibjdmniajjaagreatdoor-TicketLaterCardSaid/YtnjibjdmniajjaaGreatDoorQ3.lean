/- The abstract machine and its soundness, part 3: what it computes, the program computes. No condition. -/
import Derived.Test.YtnjibjdmniajjaaGreatDoorQ2
import Derived.OrdersIn
import Derived.Sort.Grow
import Derived.Deep.Draws
import Derived.Laws.Entries
import Derived.Lib.ItoaNum
import Derived.Lib.Repeat
import Derived.Lib.Join
import Derived.Lib.SlTrimSet
import Derived.Lib.AtoiAll
set_option linter.unusedVariables false
set_option linter.defProp false
set_option linter.unusedSimpArgs false
set_option linter.unusedSectionVars false
namespace Go.AM
open Go
variable [Dr]
variable {P:Program} {E:Env} {T:Ty} {X:Xt} {w:World} {h:Hp} {fr:Fr} {a:Act}
def Gw(d:Option AObj):Prop:=∀k v,KT k v d=d
variable {S:Nat->Bool}{b:Nat}
def Lh:∀(rs:List Rc)(i:Nat)(d a:Option AObj),d=a\/(Gw d/\Gw a)->LF S b i rs d=LF S b i rs a\/(LF S b i rs d=d/\LF S b i rs a=a):=by
 intro rs;induction rs with
 |nil=>intro i d a _;exact .inr ⟨rfl,rfl⟩
 |cons r rs g=>
  intro i d a l;rcases l with rfl|⟨h1,h2⟩
  .exact .inl rfl
  .simp only[LF];by_cases e:S i=true
   .rw[if_pos e,if_pos e];by_cases h:YT b r
    .obtain⟨o,f⟩:=h;cases c:r.d.ik with
     |none=>rw[VL f c,VL f c];exact .inl rfl
     |some j=>
      obtain⟨k,v⟩:=j;rw[VM f c,VM f c,h1,h2];exact g (i+1) d a<|.inr ⟨h1,h2⟩
    .rw[V7 h,V7 h];exact g (i+1) d a<|.inr ⟨h1,h2⟩
   .rw[if_neg e,if_neg e];exact g (i+1) d a<|.inr ⟨h1,h2⟩
def Li:∀(rs:List Rc)(i:Nat)(d:Option AObj),(d.isSome=true\/∃k r,rs[k]?=some r/\S (i+k)=true/\YT b r/\r.d.ik=none)->(LF S b i rs d).isSome=true:=by
 intro rs;induction rs with
 |nil=>
  intro i d a;rcases a with a|⟨k,r,hk,_⟩
  .exact a
  .simp at hk
 |cons r rs c=>
  intro i d a;simp only[LF];refine c (i+1) _ ?_;rcases a with a|⟨k,r',hk,hS,⟨o,hw⟩,hik⟩
  .left;split
   .unfold gW;split
    .split
     .split
      .unfold KT;split<;>first|rfl|exact a
      .rfl
     .exact a
    .exact a
   .exact a
  .cases k with
   |zero=>
    simp only[ZT6,Option.some.injEq]at hk;subst hk;left;rw[ZTc]at hS;rw[if_pos hS,VL hw hik];rfl
   |succ k=>exact .inr ⟨k,r',by simpa using hk,by rw[show i+1+k=i+(k+1)by omega];exact hS,⟨o,hw⟩,hik⟩
def Rx(c d:Option AObj):Prop:=d=c\/c=none\/∃a b e vs,c=some (.map a b)/\d=some (.map e vs)/\∀x∈e,x∈a
def Tn{S0 S:Nat->Bool}:∀(rs:List Rc)(i:Nat)(g d:Option AObj),(∀k r,rs[k]?=some r->YT b r->S0 (i+k)=true/\(S (i+k)=true\/∃p,r.d.ik=some p))->Rx g d->Rx (LF S0 b i rs g) (LF S b i rs d):=by
 intro rs;induction rs with
 |nil=>intro i g d _ h;exact h
 |cons r rs s=>
  intro i g d m l;simp only[LF];refine s (i+1) _ _ (λk w u e=>by have:=m (k+1) w (by simpa using u) e;rw[show i+1+k=i+(k+1)by omega];exact this) ?_
  by_cases e:YT b r
  .obtain⟨n,f⟩:=m 0 r rfl e;rw[ZTc]at n f;rw[if_pos n];obtain⟨o,j⟩:=e;cases a:r.d.ik with
   |none=>
    rcases f with f|⟨p,hp⟩
    .rw[if_pos f,VL j a,VL j a];exact .inl rfl
    .rw[a]at hp;cases hp
   |some q=>
    obtain⟨k,v⟩:=q;rw[VM j a];split
    .rw[VM j a];rcases l with rfl|rfl|⟨ks0,vs0,ks,vs,rfl,rfl,hs⟩
     .exact .inl rfl
     .exact .inr<|.inl rfl
     .refine .inr (.inr ⟨_,_,_,_,rfl,rfl,λx c=>?_⟩)
      rcases ZSQ.1 c with c|c
      .exact ZSQ.2<|.inl<|hs x c
      .exact ZSQ.2<|.inr c
    .rcases l with rfl|rfl|⟨ks0,vs0,ks,vs,rfl,rfl,hs⟩
     .cases d with
      |none=>exact .inr<|.inl rfl
      |some t=>
       cases t<;>first|exact .inl rfl|exact .inr<|.inr ⟨_,_,_,_,rfl,rfl,λx c=>ZSQ.2<|.inl c⟩
     .exact .inr<|.inl rfl
     .exact .inr<|.inr ⟨_,_,_,_,rfl,rfl,λx c=>ZSQ.2<|.inl<|hs x c⟩
  .rw[V7 e,V7 e];simpa using l
def To{Pk:AV->Prop}:∀(rs:List Rc)(i:Nat),(∀k r,rs[k]?=some r->S (i+k)=true->YT b r->∃g j,r.d.ik=some (g,j)/\Pk g)->
 ∃K V,K.length=V.length/\(∀x∈K,Pk x)/\∀a vs,LF S b i rs (some<|.map a vs)=some (.map (a++K)<|vs++V):=by
 intro rs;induction rs with
 |nil=>intro i _;exact⟨[],[],rfl,λx e=>(by cases e),λa vs=>by simp[LF]⟩
 |cons r rs q=>
  intro i p;obtain⟨K,V,h,l,m⟩:=q (i+1)<|λk v t c f=>p (k+1) v (by simpa using t) (by rw[show i+(k+1)=i+1+k by omega];exact c) f
  by_cases c:S i=true
  .by_cases f:YT b r
   .obtain⟨g,j,n,u⟩:=p 0 r rfl c f;obtain⟨o,s⟩:=f;refine⟨g::K,j::V,by simp[h],λx e=>?_,λa vs=>?_⟩
    .rcases ZST.1 e with rfl|e
     .exact u
     .exact l x e
    .simp only[LF,c,if_true,VM s n,KT,m,ZSN,List.singleton_append]
   .exact⟨K,V,h,l,λa vs=>by simp only[LF,c,if_true,V7 f,m]⟩
  .exact⟨K,V,h,l,λa vs=>by simp only[LF,c];exact m a vs⟩
def Tp{e:Bool}{d:List Nat}{k:AV}:∀{l:List AV}{n:Nat},ZW e d k l n=some none↔∀x∈l,Zz e d k x=some false:=by
 intro l;induction l with
 |nil=>intro n;simp[ZW]
 |cons a l g=>
  intro n;simp only[ZW,List.forall_mem_cons];cases h:Zz e d k a with
  |none=>simp
  |some b=>
   cases f:ZW e d k l (n+1)with
   |none=>
    simp only[reduceCtorEq,false_iff,not_and];intro _ c;rw[(g (n:=n+1)).2 c]at f;cases f
   |some x=>
    cases b with
    |true=>simp
    |false=>
     simp only[cond_false,Option.some.injEq,true_and];rw[<-g (n:=n+1),f];simp
def Tq{i:Bool}{h:List Nat}{k x:AV}{e:Bool}(f:Zz i h k k=some e)(d:YF x k=true):Zz i h k x=some false:=by
 cases i with
 |true=>cases k<;>first|(simp[Zz]at f;done)|(cases x<;>simp[YF]at d)
 |false=>
  simp only[Zz]at f⊢;cases h with
  |nil=>simp[ZE]at f
  |cons c h=>
   cases h with
   |cons _ _=>
    simp only[ZE]at f;cases l:eq1 c k k<;>simp[l]at f
   |nil=>
    simp only[ZE]at f⊢;cases k<;>cases x<;>(first|(simp[YF]at d;done)|skip)
    case int.int k1 a j b=>
     simp only[YF,ZSq,decide_eq_true_eq,bne_iff_ne,ne_eq]at d;obtain⟨rfl,d⟩:=d;have g:(a==b)=false:=by simpa using λe=>d e.symm
     rcases c with _|_|_|c<;>simp[eq1]at f⊢
     simpa using g
    case str.str a b=>
     simp only[YF,ZSP]at d;have g:Z3 a b=false:=by
      rw[ZTW]at d⊢;intro e;rw[Ky]at e;exact d<|by rw[e,Ky]
     rcases c with _|_|_|c<;>simp[eq1]at f⊢
     exact g
def Gx:∀{as b:List AV}{us vs:List Value},as.length=us.length->Rs T X w (as++b) (us++vs)->Rs T X w as us/\Rs T X w b vs:=by
 intro as;induction as with
 |nil=>
  intro b us vs c h;cases us with
  |nil=>exact⟨rfl,h⟩
  |cons _ _=>simp at c
 |cons a as e=>
  intro b us vs c h;cases us with
  |nil=>simp at c
  |cons u us=>
   obtain⟨v,k,d,g,j⟩:=h;simp only[ZSv,List.cons.injEq]at d;obtain⟨rfl,rfl⟩:=d;obtain⟨i,f⟩:=e (by simpa using c) j
   exact⟨⟨u,us,rfl,g,i⟩,f⟩
def Tr{b K o V:List AV}{k v:AV}{c:Option TC}(t:b.length=o.length)(F:K.length=V.length)(e:YR T X w (some<|.map ((b++K)++[k])<|(o++V)++[v]) c):
 YR T X w (some<|.map (b++k::K)<|o++v::V) c:=by
 cases c with
 |none=>exact e
 |some c=>
  cases c with
  |map r=>
   obtain⟨es,d,l,G,D,A,q,s⟩:=e;have a:=Qr q;simp only[ZSJ,ZSG,ZT1,ZSs]at a;obtain⟨f,m,rfl,g⟩:∃f m,l=f++m/\f.length=b.length:=⟨l.take b.length,l.drop b.length,(ZTt _ _).symm,by simp;omega⟩
   obtain⟨h,n,rfl,j⟩:∃h n,m=h++n/\h.length=K.length:=⟨m.take K.length,m.drop K.length,(ZTt _ _).symm,by simp at a⊢;omega⟩
   obtain⟨x,rfl⟩:∃x,n=[x]:=ZUY.1<|by simp at a;omega
   simp only[ZSF,ZSN]at q s;obtain⟨y,L⟩:=Gx (by simp[g]) q
   obtain⟨z,O⟩:=Gx (by simp[j]) L
   obtain⟨N,C⟩:=Gx (by simp[g,t]) s
   obtain⟨H,M⟩:=Gx (by simp[j,F]) C
   refine⟨es,d,f++x::h,G,?_,?_,?_,?_⟩
   .have E:List.Perm ((b++K)++[k]) (b++k::K):=by
     rw[ZSN];exact List.Perm.append_left b<|ZUZ (l₁:=K) (l₂:=[k])
    exact E.nodup_iff.1 D
   .refine List.Perm.trans ?_ A;exact List.Perm.append_left f<|ZUZ (l₁:=[x]) (l₂:=h)
   .simp only[ZSF,ZSx];obtain⟨u,B,i,p,J⟩:=O;simp only[ZSx,ZSS,List.cons.injEq]at i;obtain⟨rfl,rfl⟩:=i;exact QR y ⟨_,_,rfl,p,z⟩
   .simp only[ZSF,ZSx];obtain⟨u,B,i,p,J⟩:=M;simp only[ZSx,ZSS,List.cons.injEq]at i;obtain⟨rfl,rfl⟩:=i;exact QR N ⟨_,_,rfl,p,H⟩
  |row _ _ _ _ _=>exact e
  |iter _=>exact e
  |loop _=>exact e
def Ts{c K a V:List AV}{k v:AV}(m:M T X (setH h b<|.map ((c++K)++[k])<|(a++V)++[v]) w)(g:b<h.length)(d:c.length=a.length)(f:K.length=V.length):
 M T X (setH h b<|.map (c++k::K)<|a++v::V) w where
 inj:=m.inj
 lt:=m.lt
 notX:=m.notX
 obj b':=by
  have:=m.obj b';rw[Ks h b _<|ZTx g]at this⊢;by_cases e:b'=b
  .subst e;rw[if_pos rfl]at this⊢;exact Tr d f this
  .rw[if_neg e]at this⊢;exact this
def Gy{k:Nat}{q:AOper}{v:AV}{d:DRec}{i:Option (Nat×AObj)}(a:Zk E k q fr h=some (v,d,i)):d.wr=i.map (·.1):=by
 cases k with
 |zero=>simp[Zk]at a
 |succ k=>
  cases c:ZJ fr q.guard with
  |none=>simp[Zk,c]at a
  |some b=>
   cases b with
   |false=>simp[Zk,c]at a;obtain⟨_,rfl,rfl⟩:=a;rfl
   |true=>
    cases j:q.op.isCall with
    |false=>obtain⟨_,rfl⟩:=Gv j c a;unfold QG;split<;>rfl
    |true=>
     obtain⟨m,l,g⟩:=q;cases l<;>try (simp[AOp.isCall]at j;done)
     case apa sz1 bytes x1 x2=>simp[Zk,c,Z8]at a
     case call p f args=>
      simp only[Zk,c]at a;cases p with
      |false=>
       rw[cond_false]at a;cases e:E.rs f with
       |none=>rw[e]at a;cases a
       |some n=>
        rw[e]at a;simp only[ZEn,ZSD,Prod.mk.injEq]at a;obtain⟨_,_,_,rfl,rfl⟩:=a;rfl
      |true=>
       rw[cond_true]at a;split at a
       .cases a;exact ZQF _ _
       .cases a
     case callv p x args=>
      simp only[Zk,c]at a;cases p with
      |false=>cases a
      |true=>
       rw[cond_true]at a;split at a
       .split at a
        .cases a;rfl
        .cases a
       .cases a
def Tt{N:Nat}{d:Array Oper}:∀{b:List Oper}{a:List AOper},X7 P N d b a=true->b.length=a.length/\∀(i:Nat)(o:Oper)(q:AOper),b[i]?=some o->a[i]?=some q->X6 P N d o q=true:=by
 intro b;induction b with
 |nil=>
  intro a c;cases a with
  |nil=>exact⟨rfl,λi o q e=>by simp at e⟩
  |cons _ _=>simp[X7]at c
 |cons o b j=>
  intro a c;cases a with
  |nil=>simp[X7]at c
  |cons q a=>
   simp only[X7,ZSq]at c;obtain⟨h,k⟩:=j c.2;refine⟨by simp[h],λi g l e f=>?_⟩
   cases i with
   |zero=>
    simp only[ZT6,Option.some.injEq]at e f;subst e;subst f;exact c.1
   |succ i=>exact k i g l (by simpa using e)<|by simpa using f
def Lj:∀{c:List Oper}{k:Nat},KO k c=true->∀i o,c[i]?=some o->∀e∈o.after,Region.binds .any e=true->e.on<k+i:=by
 intro c;induction c with
 |nil=>intro k _ i o b;simp at b
 |cons o c h=>
  intro k d i g b e f a;simp only[KO,ZSq,ZSw]at d;cases i with
  |zero=>
   simp only[ZT6,Option.some.injEq]at b;subst b;have:=d.1 e<|by simpa using f
   simpa[a]using this
  |succ i=>
   have:=h d.2 i g (by simpa using b) e f a
   omega
def Tu{f:List Nat}{e:List AOper}:∀{b:List AOper}{us:List (List Nat)}{k:Nat},JZ f e k b us=true->∀i q u,b[i]?=some q->us[i]?=some u->Rn (f.getD (k+i) 0) e (k+i) q u=true:=by
 intro b;induction b with
 |nil=>intro us k _ i q u a;simp at a
 |cons q b g=>
  intro us k c i h u a d;cases us with
  |nil=>simp[JZ]at c
  |cons j us=>
   simp only[JZ,ZSq]at c;cases i with
   |zero=>
    simp only[ZT6,Option.some.injEq]at a d;subst a;subst d;exact c.1
   |succ i=>
    have:=g c.2 i h u (by simpa using a)<|by simpa using d
    rw[show k+(i+1)=k+1+i by omega]
    exact this
def lis(a:Array Bool)(k:Nat):Bool:=a.getD k false
def X8{a:Array Bool}{i:Nat}(b:i<a.size)(k:Nat):lis (a.setIfInBounds i true) k=if k=i then true else lis a k:=by
 unfold lis;by_cases e:k=i
 .subst e;rw[if_pos rfl,ZTf,ZVf b];rfl
 .rw[if_neg e,ZTf,ZVg<|λx=>e x.symm,<-ZTf]
def KU{c:Array Oper}{a:Array Bool}(j:a.size=c.size){i:Nat}:i∈Region.ready .any c a↔lis a i=false/\∃o,c[i]?=some o/\∀e∈o.after,Region.binds .any e=true->lis a e.on=true:=by
 rw[mem_ready];constructor
 .rintro⟨d,o,f,g⟩;have h:=(ZTi.1 f).1;have b:i<a.size:=by omega
  refine⟨?_,o,f,g⟩;unfold lis;rw[ZTf,ZTh b]at d⊢;exact d
 .rintro⟨d,o,f,g⟩;have h:=(ZTi.1 f).1;have b:i<a.size:=by omega
  refine⟨?_,o,f,g⟩;unfold lis at d;rw[ZTf,ZTh b]at d⊢;exact d
def Tv{g:Array Oper}{N z sz n:Nat}{ro:Option Nat}(W:X.cr=Chk P)(hN:N<=sz)(J:KO 0 g.toList=true):∀(k:Nat),(∀j,j<k->AllOk P E j)->∀(m:List AOper)(c d:Nat)(b:Array Bool)(T:Ty)(a:Act)(w:World)(fr:Fr)(h:Hp)(x:Fr)(h':Hp)(Q:Exit->Act->World->Prop),
 c+m.length=g.size->(∀(i:Nat)(o:Oper)(q:AOper),g[c+i]?=some o->m[i]?=some q->X6 P N g o q=true)->(∀i,c<=i->i<g.size->∀j,j<i->((YS g.toList []).getD i 0).testBit j=true)->
 b.size=g.size->(∀j,lis b j=decide (j<c))->ZS E k m fr h=some (x,h')->St E T X h w fr z sz a->m.length<=d->
 (∀T' a' w',Step T w T' w'->St E T' X h' w' x z sz a'->Q .normal a' w')->wpAnyIn (Qa ro) n P .any g Q d b a w:=by
 intro k;induction k with
 |zero=>intro _ m c d b T a w fr h x h' Q _ _ _ _ _ B;simp[ZS]at B
 |succ k ih=>
  intro G m c d b T a w fr h x h' Q F D t p l B s H hq;have v:∀i o,g[i]?=some o->∀e∈o.after,Region.binds .any e=true->e.on<i:=λi o A e B U=>by
   have:=Lj J i o (by simpa using A) e B U
   omega
  cases m with
  |nil=>
   simp only[ZS,Option.some.injEq,Prod.mk.injEq]at B;obtain⟨rfl,rfl⟩:=B;refine wpAnyIn_done ?_ (hq T a w (.refl _ _) s) d;refine List.eq_nil_iff_forall_not_mem.2 λi L=>?_
   obtain⟨M,o,A,_⟩:=(KU p).1 L;have:=(ZTi.1 A).1;simp only[ZT1,ZTc]at F;rw[l i]at M;simp only[decide_eq_false_iff_not]at M;omega
  |cons q r=>
   simp only[ZSG]at F H;obtain⟨d,rfl⟩:∃f,d=f+1:=⟨d-1,by omega⟩
   have y:Closed g (lis b):=by
    intro i o A L e K U;rw[l i]at L;have:=v i o A e K U;rw[l];simp only[decide_eq_true_eq]at L⊢;omega
   have C:c<g.size:=by omega
   have u:c∈Region.ready .any g b:=(KU p).2 ⟨by rw[l];simp,g[c],ZTh C,λe K U=>by
    rw[l];have:=v c _ (ZTh C) e K U;simpa using this⟩
   refine⟨λh0=>by rw[h0]at u;simp at u,λi L=>?_⟩
   obtain⟨M,o,A,h2⟩:=(KU p).1 L;have O:=(ZTi.1 A).1;have ac:i=c:=by
    rw[l i]at M;simp only[decide_eq_false_iff_not]at M;by_cases e:i=c
    .exact e
    .have:=Gu y i o A h2 c (t i (by omega) O c<|by omega)
     rw[l]at this;simp at this
   subst ac;simp only[ZS]at B;split at B
   .next S R ad=>
    unfold wpOpIn;simp only[A];refine(G k<|by omega).op q fr h S R ad T X w a N g o z sz ro n W hN (D 0 o q (by simpa using A) rfl) s _ Q ?_
    intro T1 a1 w1 V s1;refine ih (λj hj=>G j<|by omega) r (i+1) d (b.setIfInBounds i true) T1 a1 w1 S R x h' Q (by omega) ?_ ?_ (by simpa using p) ?_ B s1 (by omega) ?_
    .intro j o' q' Y aa;exact D (j+1) o' q' (by rw[<-Y];congr 1;omega)<|by simpa using aa
    .intro j hj ab j' Z;exact t j (by omega) ab j' Z
    .intro j;rw[X8 (by omega),l]
     by_cases e:j=i
     .subst e;simp
     .rw[if_neg e];simp only[decide_eq_decide];omega
    .intro T2 a2 w2 ae s2;exact hq T2 a2 w2 (V.trans ae) s2
   .cases B
end Go.AM
namespace Go.AM
open Go
variable [Dr]
variable {P:Program} {E:Env} {T:Ty} {X:Xt} {w:World} {h:Hp} {fr:Fr} {a:Act}
structure Chks(P:Program)(N:Nat)(ops:Array Oper)(un:List<|List Nat)(p1 p2:List AOper):Prop where
 mix:P.follows .mixedOrders=true
 back:KO 0 ops.toList=true
 len:ops.size=p1.length+p2.length
 op1:∀(i:Nat)(o:Oper)(q:AOper),ops[i]?=some o->p1[i]?=some q->X6 P N ops o q=true
 op2:∀(i:Nat)(o:Oper)(q:AOper),ops[p1.length+i]?=some o->p2[i]?=some q->X6 P N ops o q=true
 un:∀(i:Nat)(q:AOper)(u:List Nat),p1[i]?=some q->un[i]?=some u->∀j,j<i->((YS ops.toList []).getD i 0).testBit j=true\/∃x,p1[j]?=some x/\(j∈u\/(X3 x.op=true/\X3 q.op=true))/\XZ x q=true
 later:∀i,p1.length<=i->i<ops.size->∀j,j<i->((YS ops.toList []).getD i 0).testBit j=true
def Tw{N:Nat}{b:Array Oper}{m:List (List Nat)}{a e:List AOper}(n:Gj P N b m a e=true):Chks P N b m a e:=by
 simp only[Gj,ZSq,ZSw,ZUw]at n;obtain⟨⟨⟨⟨p,s⟩,h3⟩,h4⟩,h5⟩:=n;obtain⟨t,k⟩:=Tt h3;have d:b.size=a.length+e.length:=by simpa using t
 refine⟨p,s,d,λi o q f c=>?_,λi o q f c=>?_,λi q u c g j h=>?_,λi v r j h=>?_⟩
 .exact k i o q (by simpa using f)<|by rw[ZT2 (ZSA.1 c).1];exact c
 .exact k (a.length+i) o q (by simpa using f)<|by rw[ZTd (by omega),Nat.add_sub_cancel_left];exact c
 .have:=Tu h4 i q u c g;rw[ZSE]at this;simp only[Rn,ZSw,ZUw,ZTL]at this;rcases this j h with hb|hx
  .exact .inl hb
  .right;cases l:a[j]? with
   |none=>rw[l]at hx;cases hx
   |some x=>
    rw[l]at hx;simp only[ZSq,ZTL]at hx;exact⟨x,rfl,hx.1.imp (λg=>by simpa using g) id,hx.2⟩
 .have:=h5 (i-a.length) (by omega)
  simp only[MO,ZSw,ZUw]at this;rw[show a.length+(i-a.length)=i by omega]at this
  exact this j h
variable {t:Nat}
def Lk{x y:AOper}(a:XZ x y=true)(b:x.dst=some t):t ∉ y.reads/\y.dst≠some t:=by
 simp only[XZ,b,ZSq,ZSP]at a;obtain⟨⟨d,c⟩,_⟩:=a;exact⟨by simpa using d,by simpa using c⟩
def Tx{x y:AOper}(a:XZ x y=true)(b:y.dst=some t):t ∉ x.reads:=by
 simp only[XZ,b,ZSq,ZSP]at a;simpa using a.2
def Qs(a:Hp)(L b:Nat):Option AObj:=(a[b]?).or (if b<L then some .dead else none)
def Ry{r:Rc}(a:(fD t r).isSome=true):r.dst=some t:=by
 unfold fD at a;split at a
 .next e=>exact e
 .cases a
structure At(rc:List Rc)(fr0:Fr)(h0:Hp)(L:Nat)(S:Nat->Bool)(fr:Fr)(h:Hp):Prop where
 fr:∀t,get fr t=LW S (fD t) 0 rc (get fr0 t)
 hp:∀b,h[b]?=LF S b 0 rc (Qs h0 L b)
 len:h.length=L
def Ll(a:Hp)(L b:Nat):Qs a L b=a[b]?\/(Gw (Qs a L b)/\Gw (a[b]?)):=by
 unfold Qs;cases a[b]? with
 |some o=>exact .inl rfl
 |none=>
  right;refine⟨λk v=>?_,λk v=>rfl⟩
  split<;>rfl
def Tz(a:Hp)(L b:Nat):Rx (a[b]?) (Qs a L b):=by
 unfold Qs;cases a[b]? with
 |some o=>exact .inl rfl
 |none=>exact .inr<|.inl rfl
def Lm{i:AOp}{aid:Nat}{v:AV}{rs:List Nat}{b:Option (Nat×AObj)}(d:X3 i=true)(a:Z8 E fr h aid i=some (v,rs,b)):b=none:=by
 have e:∀{o:Option AV},Zl o=some (v,rs,b)->b=none:=by
  intro o c;obtain⟨u,m,l⟩:=ZY c;cases l;rfl
 have j:∀{o:Option AV}{g:AV->AV}{r:List Nat},o.map (λv=>(g v,r,(none:Option<|Nat×AObj)))=some (v,rs,b)->b=none:=by
  intro o g r c;cases o with
  |none=>cases c
  |some x=>cases c;rfl
 cases i<;>first|(simp[X3]at d;done)|(simp only[Z8]at a;exact e a)|skip
 case bsl fz ex sz z len ps=>
  simp only[X3]at d;subst d;simp only[Z8,cond_true]at a;split at a
  .cases k:fits sz z<;>rw[k]at a
   .cases a
   .rw[cond_true]at a;cases f:Z4 _<;>rw[f]at a
    .cases a
    .exact e a
  .cases a
 all_goals simp only[Z8,QW,X1,ZUH]at a
 all_goals repeat' (first|exact e a|exact j (g:=λv=>v) a|exact j (g:=λv=>.tup [v,.bool true]) a|(cases a;rfl)|(cases a;done)|(split at a))
section
variable {kk:Nat} {fr0:Fr} {h0:Hp} {p1 p2:List AOper} {un:List (List Nat)} {rc:List Rc} {fr1:Fr} {h1:Hp} {ops:Array Oper} {N:Nat} {S:Nat→Bool}
variable {q:AOper}
def Ln{k:Nat}{v:AV}{d:DRec}{o:Option (Nat×AObj)}(m:X3 q.op=true)(a:Zk E k q fr h=some (v,d,o)):d.wr=none:=by
 rw[Gy a];cases k with
 |zero=>simp[Zk]at a
 |succ k=>
  obtain⟨l,i,g⟩:=q;cases c:ZJ fr g with
  |none=>simp[Zk,c]at a
  |some b=>
   cases b with
   |false=>simp[Zk,c]at a;rw[<-a.2.2];rfl
   |true=>
    cases n:i.isCall with
    |true=>
     cases i<;>try (simp[AOp.isCall]at n;done)
     case apa sz1 bytes x1 x2=>simp[Zk,c,Z8]at a
     case call p f args=>
      simp only[Zk,c]at a;cases p with
      |false=>
       rw[cond_false]at a;cases e:E.rs f with
       |none=>rw[e]at a;cases a
       |some r=>
        rw[e]at a;simp only[ZEn,ZSD,Prod.mk.injEq]at a;obtain⟨_,_,_,rfl,rfl⟩:=a;cases m
      |true=>
       rw[cond_true]at a;split at a
       .cases a;rfl
       .cases a
     case callv p x args=>
      simp only[Zk,c]at a;cases p with
      |false=>cases a
      |true=>
       rw[cond_true]at a;split at a
       .split at a
        .cases a;rfl
        .cases a
       .cases a
    |false=>
     obtain⟨j,_⟩:=Gv (q:=⟨l,i,g⟩) n c a;dsimp only at j;generalize(Z8 E (Z2 i.slots fr) h h.length i).get!.2.1=rs at j;rw[Lm m j];rfl
def TA{x y:DRec}(a:x.wr=none)(b:y.wr=none):Qy x y=true:=by simp[Qy,a,b]
variable {r:Rc}
def KV(b:Run (λo fr h=>Zk E kk o fr h) fr0 h0 p1 un rc fr1 h1){i:Nat}(e:rc[i]?=some r):∃q u,p1[i]?=some q/\un[i]?=some u/\r.dst=q.dst/\(∃fr h,Zk E kk q fr h=some (r.v,r.d,r.wr))/\(∀j∈u,∃y,rc[j]?=some y/\j<i/\Qy r.d y.d=true):=by
 have c:=(ZSA.1 e).1;have a:i<p1.length:=by rw[<-b.len];exact c
 obtain⟨fr,h,n,u,f,k,g,m,_,_,_,_,_,_,_,l⟩:=b.op i p1[i]<|ZSu a;rw[e]at f;cases f;exact⟨_,u,ZSu a,k,m,⟨fr,h,g⟩,l⟩
def Lo(run:Run (λo fr h=>Zk E kk o fr h) fr0 h0 p1 un rc fr1 h1){i j:Nat}(hr:rc[i]?=some r){q x:AOper}(hq:p1[i]?=some q)(hx:p1[j]?=some x){u:List Nat}(hu:un[i]?=some u)(hj:j<i)(hp:j∈u\/(X3 x.op=true/\X3 q.op=true)):
 ∃y,rc[j]?=some y/\Qy r.d y.d=true:=by
 obtain⟨q',u',k1,k2,k3,⟨fa,ha,k4⟩,k5⟩:=KV run hr;rw[hq]at k1;cases k1;rw[hu]at k2;cases k2;rcases hp with hp|⟨hp1,hp2⟩
 .obtain⟨y,h1,_,h2⟩:=k5 j hp;exact⟨y,h1,h2⟩
 .have hjl:j<rc.length:=by have:=(ZSA.1 hr).1;omega
  obtain⟨x',u2,m1,m2,m3,⟨fb,hb,m4⟩,m5⟩:=KV run<|ZSu hjl;rw[hx]at m1;cases m1;exact⟨rc[j],ZSu hjl,TA (Ln hp2 k4)<|Ln hp1 m4⟩
def TB(run:Run (λo fr h=>Zk E kk o fr h) fr0 h0 p1 un rc fr1 h1)(ck:Chks P N ops un p1 p2)(hc:Closed ops S){i:Nat}{o:Oper}(ho:ops[i]?=some o)(he:∀e∈o.after,Region.binds .any e=true->S e.on=true)(hr:rc[i]?=some r)(hq:p1[i]?=some q){j:Nat}(hj:j<i):
 S j=true\/∃x y,p1[j]?=some x/\rc[j]?=some y/\XZ x q=true/\Qy r.d y.d=true:=by
 obtain⟨q',u,k1,k2,_,_,_⟩:=KV run hr;rw[hq]at k1;cases k1;rcases ck.un i q u hq k2 j hj with hb|⟨x,hx,hp,hi⟩
 .exact .inl<|Gu hc i o ho he j hb
 .obtain⟨y,h1,h2⟩:=Lo run hr hq hx k2 hj hp;exact .inr ⟨x,y,hx,h1,hi,h2⟩
def TD(run:Run (λo fr h=>Zk E kk o fr h) fr0 h0 p1 un rc fr1 h1)(ck:Chks P N ops un p1 p2)(hc:Closed ops S){i j:Nat}(hi:S i=false)(hS:S j=true){r r':Rc}(hr:rc[i]?=some r)(hr':rc[j]?=some r')(hq:p1[j]?=some q)(hj:i<j):
 ∃x,p1[i]?=some x/\XZ x q=true/\Qy r'.d r.d=true:=by
 obtain⟨q',u,k1,k2,_,_,_⟩:=KV run hr';rw[hq]at k1;cases k1;rcases ck.un j q u hq k2 i hj with hb|⟨x,hx,hp,hi'⟩
 .exfalso;have hlt:j<ops.size:=by have:=(ZSA.1 hq).1;rw[ck.len];omega
  have:=Gu hc j ops[j] (ZTh hlt) (hc j _ (ZTh hlt) hS) i hb;rw[hi]at this;cases this
 .obtain⟨y,h1,h2⟩:=Lo run hr' hq hx k2 hj hp;rw[hr]at h1;cases h1;exact⟨x,hx,hi',h2⟩
end
end Go.AM
namespace Go.AM
open Go
variable [Dr]
variable {P:Program} {E:Env} {T:Ty} {X:Xt} {w:World} {h:Hp} {fr:Fr} {a:Act}
def U2{x y:DRec}{b:Nat}(a:Qy x y=true)(c:x.wr=some b):y.all=false/\b ∉ y.rs/\(y.wr=some b->Kp x y=true):=by
 simp only[Qy,c,ZSq,ZSP,ZTL]at a;refine⟨a.1.1.1,by simpa using a.1.1.2,λd=>?_⟩
 rcases a.1.2 with h1|h1
 .rw[d]at h1;simp at h1
 .exact h1
def Gz{x y:DRec}(h:Kp x y=true):∃k v j u,x.ik=some (k,v)/\y.ik=some (j,u)/\YF k j=true:=by
 unfold Kp at h;split at h
 .next k v j u a b=>exact⟨k,v,j,u,a,b,h⟩
 .cases h
def TE{x y:DRec}{b:Nat}(a:Qy x y=true)(c:y.wr=some b):x.all=false/\b ∉ x.rs:=by
 simp only[Qy,c,ZSq,ZSP]at a;exact⟨a.2.1,by simpa using a.2.2⟩
def TF{a:Array Bool}{K m:Nat}(f:a.size=K+m)(e:∀j,lis a j=decide (j<K)):a.toList.count false=m:=by
 have:a.toList=List.replicate K true++List.replicate m false:=by
  apply ZTO;intro j;have b:=e j;unfold lis at b;rw[ZTf]at b;rw[ZTV,List.getElem?_append,ZV0,ZUx,ZUx];by_cases d:j<a.size
  .rw[ZTh d]at b⊢;simp only[ZUv]at b;rw[b];by_cases c:j<K
   .simp[c]
   .rw[if_neg c,if_pos<|by omega];simp[c]
  .rw[ZV1 (by omega),if_neg (by omega),if_neg<|by omega]
 rw[this];simp[List.count_append,List.count_replicate]
def Lp{D:Array Oper}{N p sz n:Nat}{ro:Option Nat}{un:List (List Nat)}{y W:List AOper}(K:X.cr=Chk P)(hN:N<=sz)(G:Chks P N D un y W){O:Nat}(J:∀j,j<O->AllOk P E j)
 {ex:AOper->Fr->Hp->Option (AV×DRec×Option (Nat×AObj))} {z:List Rc} {F:Fr} {C:Hp} {q:Fr} {v:Hp} (u:Run ex F C y un z q v) {B:Fr} {h':Hp} (A:ZS E O W q v=some (B,h'))
 {m:Nat} {c:Array Bool} {Q:Exit->Act->World->Prop} (l:c.size=D.size) (Y:∀j,y.length<=j->lis c j=false) (i:c.toList.count false<=m)
 (H:At z F C v.length (lis c) fr h) (s:St E T X h w fr p sz a) (hq:∀T' a' w',Step T w T' w'->St E T' X h' w' B p sz a'->Q .normal a' w') (g:∀j,j<y.length->lis c j=true):wpAnyIn (Qa ro) n P .any D Q m c a w:=by
 have x:∀j,lis c j=decide (j<y.length):=by
  intro j;by_cases R:j<y.length
  .rw[g j R];simp[R]
  .rw[Y j<|by omega];simp[R]
 have hS:∀{α:Type}(f:Rc->Option α)(d:α),LW (lis c) f 0 z d=LW Y0 f 0 z d:=λf d=>Gs _ _ _ (λj r M _=>by
  have:=(ZSA.1 M).1;rw[u.len]at this;rw[ZSE,g j this];rfl)
 have U:∀t,get q t=get fr t:=λt=>by rw[u.fr t,H.fr t,hS]
 have Z:h=v:=by
  apply ZTO;intro b;have L:LF (lis c) b 0 z (Qs C v.length b)=LF Y0 b 0 z (Qs C v.length b):=VN _ _ _ (λj r M _=>by
   have:=(ZSA.1 M).1;rw[u.len]at this;rw[ZSE,g j this];rfl)
  rw[H.hp b,L];have k:=u.hp b;rcases Lh (S:=Y0) (b:=b) z 0 (Qs C v.length b) (C[b]?) (Ll _ _ _)with e|⟨e1,e2⟩
  .rw[e,k]
  .rw[e1,k,e2];rw[e2]at k;unfold Qs;cases hb:C[b]? with
   |some o=>rfl
   |none=>
    rw[hb]at k;have:¬b<v.length:=λV=>by rw[ZSu V]at k;cases k
    simp[this]
 subst Z;have s':St E T X h w q p sz a:=s.withFr<|λt=>by rw[U t];exact s.f t
 refine Tv K hN G.back O J W y.length m c T a w q h B h' Q G.len.symm G.op2 G.later l x A s' ?_ hq;rw[TF (by rw[l,G.len]) x]at i
 exact i
def TG{ops:Array Oper}{N base sz n:Nat}{ro:Option Nat}{un:List (List Nat)}{p1 p2:List AOper}(hcr:X.cr=Chk P)(hN:N<=sz)(ck:Chks P N ops un p1 p2){k k2:Nat}(ih:AllOk P E k)(hall:∀j,j<k2->AllOk P E j)
 {rc:List Rc} {fr0:Fr} {h0:Hp} {fr1:Fr} {h1:Hp} (run:Run (λo fr h=>Zk E (k+1) o fr h) fr0 h0 p1 un rc fr1 h1) {fr':Fr} {h':Hp} (hrest:ZS E k2 p2 fr1 h1=some (fr',h')):
 ∀(fuel:Nat)(listed:Array Bool)(T:Ty)(w:World)(a:Act)(fr:Fr)(h:Hp)(Q:Exit->Act->World->Prop),listed.size=ops.size->(∀j,p1.length<=j->lis listed j=false)->Closed ops (lis listed)->listed.toList.count false<=fuel->
 At rc fr0 h0 h1.length (lis listed) fr h->St E T X h w fr base sz a->(∀T' a' w',Step T w T' w'->St E T' X h' w' fr' base sz a'->Q .normal a' w')->wpAnyIn (Qa ro) n P .any ops Q fuel listed a w:=by
 intro fuel;induction fuel with
 |zero=>
  intro listed T w a fr h Q hsize hhi hclosed hcount hat s hq;refine Lp hcr hN ck hall run hrest hsize hhi hcount hat s hq λj hj=>?_
  have hj':j<listed.size:=by rw[hsize,ck.len];omega
  by_cases e:lis listed j=true
  .exact e
  .exfalso;have hmem:false∈listed.toList:=by
    unfold lis at e;rw[ZTf,ZTh hj']at e;simp only[ZUv,ZTX]at e;rw[<-e];simp
   have:=List.count_pos_iff.2 hmem;omega
 |succ fuel ihf=>
  intro listed T w a fr h Q hsize hhi hclosed hcount hat s hq;by_cases hdone:∀j,j<p1.length->lis listed j=true
  .exact Lp hcr hN ck hall run hrest hsize hhi hcount hat s hq hdone
  .have hback':∀i o,ops[i]?=some o->∀e∈o.after,Region.binds .any e=true->e.on<i:=λi o ho e he hb=>by
    have:=Lj ck.back i o (by simpa using ho) e he hb
    omega
   have hlow:∀i,i∈Region.ready .any ops listed->i<p1.length:=by
    intro i hi;obtain⟨h1',o,ho,h2⟩:=(KU hsize).1 hi;have hilt:=(ZTi.1 ho).1;by_cases e:i<p1.length
    .exact e
    .exfalso;exact hdone λj hj=>Gu hclosed i o ho h2 j<|ck.later i (by omega) hilt j<|by omega
   refine⟨λh0=>?_,λi hi=>?_⟩
   ·
    exfalso;have hex:∃j,j<p1.length/\lis listed j=false:=by
     refine Classical.byContradiction λhno=>hdone λj hj=>?_
     cases hb:lis listed j with
     |true=>rfl
     |false=>exact(hno ⟨j,hj,hb⟩).elim
    have:∀m,(∀j,j<m->lis listed j=true)\/∃j,j<m/\lis listed j=false/\∀i,i<j->lis listed i=true:=by
     intro m;induction m with
     |zero=>exact .inl λj hj=>by omega
     |succ m ihm=>
      rcases ihm with ihm|⟨j,q1,q2,q3⟩
      .cases hb:lis listed m with
       |true=>exact .inl λj hj=>by by_cases e:j=m;subst e;exact hb;exact ihm j<|by omega
       |false=>exact .inr ⟨m,by omega,hb,ihm⟩
      .exact .inr ⟨j,by omega,q2,q3⟩
    obtain⟨j0,hj0,hb0⟩:=hex;rcases this p1.length with hx|⟨j,q1,q2,q3⟩
    .rw[hx j0 hj0]at hb0;cases hb0
    .have hjn:j<ops.size:=by rw[ck.len];omega
     have:j∈Region.ready .any ops listed:=(KU hsize).2 ⟨q2,ops[j],ZTh hjn,λe he hb=>q3 _<|hback' j _ (ZTh hjn) e he hb⟩
     rw[h0]at this;simp at this
   .obtain⟨hni,o,ho,h2⟩:=(KU hsize).1 hi;have hilt:=hlow i hi;have hq1:p1[i]?=some p1[i]:=ZSu hilt;generalize p1[i]=q at hq1;obtain⟨fri,hi',r,u,k1,k2',k3,k4,k5,k6,k7,k8,k9,k10,k12,k11⟩:=run.op i q hq1;have hrd:r.d.wr=r.wr.map (·.1):=Gy k3;have before:∀j,j<i->lis listed j=true\/∃x y,p1[j]?=some x/\rc[j]?=some y/\XZ x q=true/\Qy r.d y.d=true:=λj hj=>TB run ck hclosed ho h2 k1 hq1 hj
    have behind:∀(j:Nat)(r':Rc),rc[j]?=some r'->i<j->lis listed j=true->(∃qj:AOper,r'.dst=qj.dst/\XZ q qj=true)/\Qy r'.d r.d=true/\r'.d.wr=r'.wr.map (·.1):=by
     intro j r' hr' hj hl;obtain⟨qj,uj,m1,m2,m3,⟨_,_,m4⟩,m5⟩:=KV run hr';obtain⟨x,n2,n3,n4⟩:=TD run ck hclosed hni hl k1 hr' m1 hj;rw[hq1]at n2;cases n2;exact⟨⟨qj,m3,n3⟩,n4,Gy m4⟩
    have hdst:∀(j:Nat)(r':Rc),rc[j]?=some r'->∃x:AOper,p1[j]?=some x/\r'.dst=x.dst/\r'.d.wr=r'.wr.map (·.1):=by
     intro j r' hr';obtain⟨qj,uj,m1,m2,m3,⟨_,_,m4⟩,m5⟩:=KV run hr';exact⟨qj,m1,m3,Gy m4⟩
    have hread:∀t∈q.reads,get fr t=get fri t:=by
     intro t ht;rw[hat.fr t,k8 t];refine Gs _ _ _ λj r' hr' hs=>?_
     rw[ZSE];have hd:=Ry hs;obtain⟨x,hx1,hx2,_⟩:=hdst j r' hr';rcases ZV2 j i with hj|hj|hj
     .have:below i j=true:=by simp[below,hj]
      rw[this];rcases before j hj with e|⟨x',y',e1,_,e2,_⟩
      .exact e
      .rw[hx1]at e1;cases e1;exact((Lk e2<|hx2▸hd).1 ht).elim
     .subst hj;simp[below,hni]
     .have:below i j=false:=by simp[below];omega
      rw[this];cases hb:lis listed j with
      |false=>rfl
      |true=>
       obtain⟨⟨qj,m1,m2⟩,_,_⟩:=behind j r' hr' hj hb;exact(Tx m2 (m1▸hd) ht).elim
    have hLW:∀b,(r.d.all=true\/b∈r.d.rs)->LF (lis listed) b 0 rc (Qs h0 h1.length b)=LF (below i) b 0 rc (Qs h0 h1.length b):=by
     intro b hb;refine VN _ _ _ λj r' hr' hs=>?_
     rw[ZSE];obtain⟨ob,hw⟩:=hs;obtain⟨x,hx1,hx2,hx3⟩:=hdst j r' hr';have hwr:r'.d.wr=some b:=by rw[hx3,hw];rfl
     rcases ZV2 j i with hj|hj|hj
     .have:below i j=true:=by simp[below,hj]
      rw[this];rcases before j hj with e|⟨_,y,_,hy,_,hok⟩
      .exact e
      .rw[hr']at hy;cases hy;obtain⟨z1,z2⟩:=TE hok hwr;rcases hb with hb|hb
       .rw[z1]at hb;cases hb
       .exact(z2 hb).elim
     .subst hj;simp[below,hni]
     .have:below i j=false:=by simp[below];omega
      rw[this];cases hlj:lis listed j with
      |false=>rfl
      |true=>
       obtain⟨_,hok,_⟩:=behind j r' hr' hj hlj;obtain⟨z1,z2,_⟩:=U2 hok hwr;rcases hb with hb|hb
       .rw[z1]at hb;cases hb
       .exact(z2 hb).elim
    have htouch:∀b ob,hi'[b]?=some ob->(r.d.all=true\/b∈r.d.rs)->h[b]?=some ob:=by
     intro b ob hob hb;rw[hat.hp b,hLW b hb];rw[k9 b]at hob;rcases Lh (S:=below i) (b:=b) rc 0 (Qs h0 h1.length b) (h0[b]?) (Ll _ _ _)with e|⟨e1,e2⟩
     .rw[e,hob]
     .rw[e1];rw[e2]at hob;simp[Qs,hob]
    have hlen:hi'.length<=h.length:=by rw[hat.len];omega
    have hal:∀ob,r.wr=some (hi'.length,ob)->h[hi'.length]?=none\/h[hi'.length]?=some .dead:=by
     intro ob hw;have hwd:r.d.wr=some hi'.length:=by rw[hrd,hw];rfl
     rw[hat.hp];have:LF (lis listed) hi'.length 0 rc (Qs h0 h1.length hi'.length)=Qs h0 h1.length hi'.length:=by
      refine U0 _ _ _ λj r' hr' hs=>?_
      rw[ZSE];obtain⟨ob',hw'⟩:=hs;obtain⟨x,hx1,hx2,hx3⟩:=hdst j r' hr';have hwr:r'.d.wr=some hi'.length:=by rw[hx3,hw'];rfl
      rcases ZV2 j i with hj|hj|hj
      .exfalso;have q1:(LF (below i) hi'.length 0 rc<|h0[hi'.length]?).isSome=true:=by
        cases hik':r'.d.ik with
        |none=>exact Li rc 0 _<|.inr ⟨j,r',hr',by simp[below,hj],⟨ob',hw'⟩,hik'⟩
        |some kv=>
         obtain⟨kx',vx'⟩:=kv;have hjl:j<p1.length:=by have:=(ZSA.1 hr').1;rw[run.len]at this;exact this
         obtain⟨frj,hj',rj,uj,m1,_,_,_,_,_,_,_,m9,_,m12,_⟩:=run.op j p1[j]<|ZSu hjl;rw[hr']at m1;cases m1;obtain⟨bj,ksj,vsj,z1,z2⟩:=m12 kx' vx' hik';rw[hw']at z1;cases z1;rw[m9]at z2;obtain⟨hs,hlen⟩:=Rv hr';have e1:LF (below j) hi'.length 0 rc (h0[hi'.length]?)=LF Y0 hi'.length 0 (rc.take j) (h0[hi'.length]?):=by
          have:=L9 (b:=hi'.length) (rc.take j) (r'::rc.drop (j+1))<|h0[hi'.length]?;rw[<-hs,hlen]at this;exact this
         have e2:LF (below i) hi'.length 0 rc (h0[hi'.length]?)=LF (below i) hi'.length (0+j) (r'::rc.drop (j+1)) (LF Y0 hi'.length 0 (rc.take j)<|h0[hi'.length]?):=by
          have:=VO (S:=below i) (b:=hi'.length) (rc.take j) (r'::rc.drop (j+1)) 0<|h0[hi'.length]?;rw[<-hs,hlen]at this;rw[this];congr 1;refine VN _ _ _ λm rm hm _=>?_
          have hlt:=(ZSA.1 hm).1;rw[hlen]at hlt;simp[below,Y0];omega
         rw[e2];refine Li _ _ _<|.inl ?_;rw[<-e1,z2];rfl
       rw[<-k9]at q1;simp at q1
      .subst hj;exact hni
      .cases hlj:lis listed j with
       |false=>rfl
       |true=>
        obtain⟨_,hok,_⟩:=behind j r' hr' hj hlj;obtain⟨_,_,_,_,_,hik2,_⟩:=Gz<|(U2 hok hwr).2.2 hwd;exfalso;obtain⟨b2,ks2,vs2,z1,z2⟩:=k12 _ _ hik2;rw[hw]at z1;cases z1;simp at z2
     rw[this];unfold Qs;rw[ZTj (by omega),Option.none_or]
     split
     .exact .inr rfl
     .exact .inl rfl
    unfold wpOpIn;simp only[ho];have hin:i<listed.size:=by rw[hsize,ck.len];omega
    have hhi2:∀j,p1.length<=j->lis (listed.setIfInBounds i true) j=false:=by
     intro j hj;rw[X8 hin,if_neg<|by omega]
     exact hhi j hj
    have hclosed2:Closed ops (lis<|listed.setIfInBounds i true):=by
     intro j oj hoj hl e he hb;rw[X8 hin]at hl⊢;by_cases ee:e.on=i
     .rw[if_pos ee]
     .rw[if_neg ee];by_cases ej:j=i
      .subst ej;rw[ho]at hoj;cases hoj;exact h2 e he hb
      .rw[if_neg ej]at hl;exact hclosed j oj hoj hl e he hb
    have hcount2:(listed.setIfInBounds i true).toList.count false<=fuel:=by
     have hf:listed[i]=false:=by
      have:=hni;unfold lis at this;rw[ZTf,ZTh hin]at this;exact this
     have hin':i<listed.toList.length:=by simpa using hin
     rw[Array.toList_setIfInBounds,List.count_set hin'];have hpos:0<listed.toList.count false:=List.count_pos_iff.2<|by rw[<-hf];simp
     simp only[Array.getElem_toList,hf];rw[if_pos (by decide),if_neg<|by decide]
     omega
    have hfr2:∀t,get (ZB fr q.dst r.v) t=LW (lis<|listed.setIfInBounds i true) (fD t) 0 rc (get fr0 t):=by
     intro t;rw[L8];by_cases ed:q.dst=some t
     .rw[if_pos ed];have hfr:fD t r=some r.v:=by unfold fD;rw[if_pos<|k4.trans ed]
      refine(BO k1 hfr (by rw[ZSE,X8 hin,if_pos rfl]) λj r' hj hr' hs=>?_).symm
      rw[ZSE,X8 hin,if_neg<|by omega]
      cases hlj:lis listed j with
      |false=>rfl
      |true=>
       obtain⟨⟨qj,m1,m2⟩,_,_⟩:=behind j r' hr' hj hlj;exact((Lk m2 ed).2 (m1▸Ry hs)).elim
     .rw[if_neg ed,hat.fr t];refine Gs _ _ _ λj r' hr' hs=>?_
      rw[ZSE,X8 hin];by_cases e:j=i
      .subst e;rw[k1]at hr';cases hr';exact(ed<|k4▸Ry hs).elim
      .rw[if_neg e]
    have hother:∀b,¬YT b r->h[b]?=LF (lis<|listed.setIfInBounds i true) b 0 rc (Qs h0 h1.length b):=by
     intro b hna;rw[hat.hp b];refine VN _ _ _ λj r' hr' hs=>?_
     rw[ZSE,X8 hin];by_cases e:j=i
     .subst e;rw[k1]at hr';cases hr';exact(hna hs).elim
     .rw[if_neg e]
    have hblt:∀(b':Nat)(ob:AObj),r.wr=some (b',ob)->b'<h.length:=by
     intro b' ob hw;rw[hw]at k5 k7;simp only[Ya,Nat.ble_eq]at k5;have:=Ks hi' b' ob k5 b';rw[if_pos rfl]at this;have hlt:=(ZSA.1 this).1;have k7':(setH hi' b' ob).length<=h1.length:=k7;rw[hat.len];omega
    cases hik:r.d.ik with
    |none=>
     refine Tl ih k3 hik hread htouch hlen hal hcr hN (ck.op1 i o q ho hq1) s _ Q ?_;intro T1 a1 w1 st1 s1;refine ihf (listed.setIfInBounds i true) T1 w1 a1 _ _ Q (by simpa using hsize) hhi2 hclosed2 hcount2 ⟨hfr2,λb=>?_,?_⟩ s1<|λT2 a2 w2 st2 s2=>hq T2 a2 w2 (st1.trans st2) s2
     .cases hw:r.wr with
      |none=>exact hother b λ⟨ob,h3⟩=>by rw[hw]at h3;cases h3
      |some p=>
       obtain⟨b',ob⟩:=p;have hlt':=hblt b' ob hw;show(setH h b' ob)[b]?=_
       rw[Ks h b' ob<|by omega]
       by_cases eb:b=b'
       .subst eb;rw[if_pos rfl];have hwd:r.d.wr=some b:=by rw[hrd,hw];rfl
        refine(BP k1 hw hik (by rw[ZSE,X8 hin,if_pos rfl]) λj r' hj hr' hs=>?_).symm
        rw[ZSE,X8 hin,if_neg<|by omega]
        cases hlj:lis listed j with
        |false=>rfl
        |true=>
         obtain⟨_,hok,hx3⟩:=behind j r' hr' hj hlj;obtain⟨ob',hw'⟩:=hs;have hwr:r'.d.wr=some b:=by rw[hx3,hw'];rfl
         obtain⟨_,_,_,_,_,hik2,_⟩:=Gz<|(U2 hok hwr).2.2 hwd;rw[hik]at hik2;cases hik2
       .rw[if_neg eb];exact hother b λ⟨ob2,h3⟩=>by rw[hw]at h3;cases h3;exact eb rfl
     .cases hw:r.wr with
      |none=>exact hat.len
      |some p=>
       obtain⟨b',ob⟩:=p;have hlt':=hblt b' ob hw;show(setH h b' ob).length=h1.length
       unfold setH;rw[(show Nat.blt b' h.length=true by rw[ZTw];exact hlt'),cond_true,ZTP]
       exact hat.len
    |some kv=>
     obtain⟨kx,vx⟩:=kv;obtain⟨b,ks,vs,hw,hbi⟩:=k12 kx vx hik;have hlt':=hblt b _ hw;have hwd:r.d.wr=some b:=by rw[hrd,hw];rfl
     obtain⟨hs,hslen⟩:=Rv k1;have hA:∃kA vA,LF (lis listed) b 0 (rc.take i) (Qs h0 h1.length b)=some (.map kA vA)/\∀x∈kA,x∈ks:=by
      have e1:LF (below i) b 0 (rc.take i) (h0[b]?)=some (.map ks vs):=by
       have:=VO (S:=below i) (b:=b) (rc.take i) (r::rc.drop (i+1)) 0<|h0[b]?;rw[<-hs,hslen]at this;rw[<-hbi,k9 b,this];refine(U0 _ _ _ λm rm hm _=>?_).symm
       simp[below]
      have e2:=Tn (S0:=below i) (S:=lis listed) (b:=b) (rc.take i) 0 (h0[b]?) (Qs h0 h1.length b) (λj rj hj ha=>?_)<|Tz h0 h1.length b
      .rw[e1]at e2;rcases e2 with e2|e2|⟨ks0,vs0,ks2,vs2,q1,q2,q3⟩
       .exact⟨ks,vs,e2,λx hx=>hx⟩
       .cases e2
       .cases q1;exact⟨ks2,vs2,q2,q3⟩
      .have hjlt:=(ZSA.1 hj).1;rw[hslen]at hjlt;have hj':rc[j]?=some rj:=by rw[ZTK hjlt]at hj;exact hj
       rw[ZSE];refine⟨by simp[below,hjlt],?_⟩
       rcases before j hjlt with e|⟨_,y,_,hy,_,hok⟩
       .exact .inl e
       .rw[hj']at hy;cases hy;obtain⟨ob',hw'⟩:=ha;obtain⟨_,_,_,hx3⟩:=hdst j rj hj';have hwr:rj.d.wr=some b:=by rw[hx3,hw'];rfl
        obtain⟨_,_,j2,u2,_,hik2,_⟩:=Gz<|(U2 hok hwd).2.2 hwr;exact .inr ⟨_,hik2⟩
     obtain⟨kA,vA,hA1,hA2⟩:=hA;have hB:=To (S:=lis listed) (b:=b) (Pk:=λx=>YF x kx=true) (rc.drop<|i+1) (i+1) (λj rj hj hS ha=>by
      have hj':rc[i+1+j]?=some rj:=by rw[<-ZU9];exact hj
      obtain⟨_,hok,hx3⟩:=behind (i+1+j) rj hj' (by omega) hS
      obtain⟨ob',hw'⟩:=ha;have hwr:rj.d.wr=some b:=by rw[hx3,hw'];rfl
      obtain⟨k2,v2,j2,u2,hik1,hik2,hne⟩:=Gz<|(U2 hok hwr).2.2 hwd;rw[hik]at hik2;cases hik2;exact⟨k2,v2,hik1,hne⟩)
     obtain⟨K,V,hKV,hK,hB⟩:=hB;have hnow:h[b]?=some (.map (kA++K)<|vA++V):=by
      have:=VO (S:=lis listed) (b:=b) (rc.take i) (r::rc.drop (i+1)) 0<|Qs h0 h1.length b;rw[<-hs,hslen,hA1]at this;rw[hat.hp b,this];simp only[LF,ZSE,hni];exact hB _ _
     have hthen:LF (lis<|listed.setIfInBounds i true) b 0 rc (Qs h0 h1.length b)=some (.map (kA++kx::K)<|vA++vx::V):=by
      have:=VO (S:=lis<|listed.setIfInBounds i true) (b:=b) (rc.take i) (r::rc.drop (i+1)) 0<|Qs h0 h1.length b;rw[<-hs,hslen]at this;rw[this];have e1:LF (lis<|listed.setIfInBounds i true) b 0 (rc.take i) (Qs h0 h1.length b)=some (.map kA vA):=by
       rw[<-hA1];refine VN _ _ _ λj rj hj _=>?_
       have hjlt:=(ZSA.1 hj).1;rw[hslen]at hjlt;rw[ZSE,X8 hin,if_neg<|by omega]
      rw[e1];simp only[LF,ZSE,X8 hin,if_true,VM hw hik,KT];have e2:LF (lis<|listed.setIfInBounds i true) b (i+1) (rc.drop<|i+1) (some<|.map (kA++[kx])<|vA++[vx])=LF (lis listed) b (i+1) (rc.drop<|i+1) (some<|.map (kA++[kx])<|vA++[vx]):=by
       refine VN _ _ _ λj rj hj _=>?_
       rw[X8 hin,if_neg<|by omega]
      rw[e2,hB];simp
     have hlenA:kA.length=vA.length:=by
      obtain⟨rr,es,clock,l,_,_,_,_,q4,q5⟩:=JS s.c.m hnow;have l1:=Qr q4;have l2:=Qr q5;simp only[ZSJ,ZSs]at l1 l2;omega
     refine Tm ih k3 hik hread hw hnow ?_ hcr hN (ck.op1 i o q ho hq1) s _ Q ?_
     .rintro ag kk e he ⟨ks',vs',hb',hf'⟩;rw[hbi]at hb';cases hb';rw[Tp]at hf'⊢;intro x hx;rcases ZSQ.1 hx with hx|hx
      .exact hf' x<|hA2 x hx
      .exact Tq he<|hK x hx
     .intro T1 a1 w1 st1 s1;have m2:=Ts s1.c.m hlt' hlenA hKV;have s2:St E T1 X (setH h b<|.map (kA++kx::K)<|vA++vx::V) w1 (ZB fr q.dst r.v) base sz a1:=⟨⟨m2,s1.c.gl,s1.c.hX⟩,s1.f,s1.sz,s1.marks,s1.base⟩;refine ihf (listed.setIfInBounds i true) T1 w1 a1 _ _ Q (by simpa using hsize) hhi2 hclosed2 hcount2 ⟨hfr2,λb'=>?_,?_⟩ s2 (λT2 a2 w2 st2 s2=>hq T2 a2 w2 (st1.trans st2) s2)
      .rw[Ks h b _<|by omega]
       by_cases eb:b'=b
       .subst eb;rw[if_pos rfl,hthen]
       .rw[if_neg eb];exact hother b' λ⟨ob2,h3⟩=>by rw[hw]at h3;cases h3;exact eb rfl
      .unfold setH;rw[(show Nat.blt b h.length=true by rw[ZTw];exact hlt'),cond_true,ZTP]
       exact hat.len
end Go.AM
namespace Go.AM
open Go
variable [Dr]
variable {P:Program} {E:Env} {T:Ty} {X:Xt} {w:World} {h:Hp} {fr:Fr} {a:Act}
def TH(m:M T X h w)(n:Nat):M T X (h++List.replicate n .dead) w where
 inj:=m.inj
 lt:=m.lt
 notX:=m.notX
 obj b:=by
  rcases ZTI b h.length with hb|hb
  .rw[ZT2 hb];exact m.obj b
  .rw[ZTd hb,JR m<|.inl<|ZTj hb,ZUx];split
   .trivial
   .trivial
def GA(n k:Nat):lis (Array.replicate n false) k=false:=by
 unfold lis;rw[ZTf,Array.getElem?_replicate];split<;>rfl
def TI(m:M T X h w)(k:Nat)(a:Dr.d->w.drawn<=k):M T X h {w with drawn:=k}:=Xr m ((Step.refl T w).drew k a)<|λ_ _=>rfl
def TJ{k:Nat}(p:∀j,j<=k->AllOk P E j):L7 P E k:=by
 intro un Z p2 fr h O h' l T X w a N id y u sz ro n B K z s Q W;have F:=Tw z;simp only[Ze]at l;split at l
 .next Y A C=>
  simp only[ZSD,Prod.mk.injEq]at l;obtain⟨⟨H,h2⟩,l,_,rfl,rfl⟩:=l;obtain⟨rc,x⟩:=BX (λq fr h v d J l=>Tk q fr h v d J l) C
  cases k with
  |zero=>simp[ZS]at l
  |succ k=>
   refine wpIn_region_any F.mix ?_;have e:Step T w T {w with drawn:=w.drawn+1}:=(Step.refl T w).drew _ (λ_=>ZTu _)
   have L:M T X (h++List.replicate (A.length-h.length) .dead) {w with drawn:=w.drawn+1}:=TH (TI s.c.m _<|λ_=>ZTu _) _
   have R:St E T X (h++List.replicate (A.length-h.length) .dead) {w with drawn:=w.drawn+1} fr u sz a:=
    ⟨⟨L,λg=>⟨HR e _ _ (s.c.gl g).1,ZPP e (s.c.gl g).1 (s.c.gl g).2⟩,s.c.hX⟩,Kr e s.f,s.sz,s.marks.step e,s.base⟩
   refine TG B K F (p k<|by omega) (λj hj=>p j<|by omega) x l y.size (Array.replicate y.size false) T _ a fr _ Q (by simp) (λj _=>GA _ j) ?_ ?_ ?_ R
    (λS V w' G U=>W S V w' (e.trans G) U)
   .intro i o _ D;rw[GA]at D;cases D
   .rw[Array.toList_replicate,List.count_replicate_self];exact ZSr _
   .refine⟨λt=>?_,λb=>?_,?_⟩
    .rw[Rt _ _ _<|λk r _ _=>GA _ _]
    .rw[U0 _ _ _<|λk r _ _=>GA _ _]
     unfold Qs;rcases ZTI b h.length with hb|hb
     .rw[ZT2 hb,ZSu hb];rfl
     .rw[ZTd hb,ZTj hb,ZUx];by_cases z:b<A.length
      .rw[if_pos z,if_pos<|by omega];rfl
      .rw[if_neg z,if_neg<|by omega];rfl
    .rw[ZSJ,ZV0];have:=x.grow;omega
 .cases l
def TK(g:EnvOk P E):AllOk P E 0:=by
 constructor
 .exact g.rs
 .intro f c h v h' a;simp[Qz]at a
 .intro f c h v h' a;simp[QX]at a
 .intro p f c h v h' a;simp[Qm]at a
 .intro b c h v h' a;simp[YG]at a
 .intro p f c h v h' a;simp[QQ]at a
 .intro q fr h d h' a;simp[Q5]at a
 .intro i fr h d h' a;simp[ZS]at a
 .intro q fr h e d h' a;simp[Ze]at a
 .intro live q fr h e d h' a;simp[Ze]at a
def TL(B:EnvOk P E):∀k,∀j,j<=k->AllOk P E j:=by
 intro k;induction k with
 |zero=>intro j G;rw[Nat.le_zero.1 G];exact TK B
 |succ k D=>
  intro j G;rcases ZTI j (k+1)with hlt|hge
  .exact D j<|by omega
  .have:j=k+1:=by omega
   subst this;have i:=D k<|ZSr _;constructor
   .exact B.rs
   .intro f r h v h' m T X w d g c u;exact Bl B i m d g c u
   .intro f r h v h' m T X w d g c u;exact Bo B i m d g c u
   .intro p f r h v h' m T X w d g c u;exact Bq B i m d g c u
   .intro b r h v h' m T X w d l g c u L;exact BD i m d l g c u L
   .intro p f r h v h' m T X w K d g c H u;exact Br i m K d g c H u
   .intro q fr h z h' m T X w a N F o t sz ro n g y A s next Q J
    exact BA i m g y A s next Q J
   .intro O fr h z h' m T X w a N F R t sz ro n g y A s Q C;exact BB i m g y A s Q C
   .intro q fr h e z h' m T X w a N c t sz M ro n g y A x s Q C;exact BN B.gl (TJ D) i m g y A x s Q C
   .intro live q fr h e z h' m T X w a N c t sz M ro n g y A x s Q C;exact L5 i m g y A x s Q C
def TM(a:EnvOk P E)(k:Nat):AllOk P E k:=TL a k k<|ZSr _
end Go.AM
namespace Go.AM
open Go
variable {E:Env}
structure MonoAt(E:Env)(n:Nat):Prop where
 fn:∀f args h r,Qz E n f args h=some r->Qz E (n+1) f args h=some r
 body:∀f args h r,QX E n f args h=some r->QX E (n+1) f args h=some r
 call:∀p f args h r,Qm E n p f args h=some r->Qm E (n+1) p f args h=some r
 yield:∀b args h r,YG E n b args h=some r->YG E (n+1) b args h=some r
 callv:∀p f args h r,QQ E n p f args h=some r->QQ E (n+1) p f args h=some r
 op:∀o fr h r,Q5 E n o fr h=some r->Q5 E (n+1) o fr h=some r
 ops:∀os fr h r,ZS E n os fr h=some r->ZS E (n+1) os fr h=some r
 dop:∀o fr h r,Zk E n o fr h=some r->Zk E (n+1) o fr h=some r
 code:∀c fr h r,Ze E n c fr h=some r->Ze E (n+1) c fr h=some r
def Lq{e ex':AOper->Fr->Hp->Option (AV×DRec×Option (Nat×AObj))}(j:∀o fr h r,e o fr h=some r->ex' o fr h=some r):
 ∀(c:List AOper)(us:List<|List Nat)(fr:Fr)(h:Hp)(a:List DRec)(r:Fr×Hp),QH e c us fr h a=some r->QH ex' c us fr h a=some r:=by
 intro c;induction c with
 |nil=>intro us fr h a r b;simpa only[QH]using b
 |cons o c i=>
  intro us fr h a r b;cases us with
  |nil=>simp[QH]at b
  |cons u us=>
   simp only[QH]at b⊢;cases f:e o fr h with
   |none=>rw[f]at b;cases b
   |some p=>
    obtain⟨v,d,k⟩:=p;rw[f]at b;rw[j _ _ _ _ f];dsimp only at b⊢;cases g:(Zv d a u&&Ya h k)with
    |false=>rw[g]at b;cases b
    |true=>rw[g]at b;exact i _ _ _ _ _ b
variable {n:Nat}
def TN(d:MonoAt E n)(f:Nat)(a:List AV)(h:Hp)(r:AV×Hp)(b:Qz E (n+1) f a h=some r):Qz E (n+2) f a h=some r:=by
 simp only[Qz]at b⊢;cases c:E.sum f with
 |some s=>rw[c]at b;exact b
 |none=>rw[c]at b;exact d.body _ _ _ _ b
def TO(e:MonoAt E n)(f:Nat)(a:List AV)(h:Hp)(r:AV×Hp)(b:QX E (n+1) f a h=some r):QX E (n+2) f a h=some r:=by
 simp only[QX]at b⊢;cases d:E.fn f with
 |none=>rw[d]at b;cases b
 |some fn=>
  rw[d]at b;dsimp only at b⊢;cases c:Ze E n fn.body (QP 0 a) h with
  |none=>rw[c]at b;cases b
  |some p=>rw[c]at b;rw[e.code _ _ _ _ c];exact b
def TP(d:MonoAt E n)(p:Bool)(f:Nat)(a:List AV)(h:Hp)(r:AV×Hp)(b:Qm E (n+1) p f a h=some r):Qm E (n+2) p f a h=some r:=by
 cases p with
 |false=>simp only[Qm]at b⊢;exact d.fn _ _ _ _ b
 |true=>
  simp only[Qm]at b⊢;cases e:Ql h a with
  |none=>rw[e]at b;cases b
  |some as=>
   rw[e]at b;dsimp only at b⊢;cases c:Qz E n f as []with
   |none=>rw[c]at b;cases b
   |some p=>rw[c]at b;rw[d.fn _ _ _ _ c];exact b
def TQ(i:MonoAt E n)(b:Nat)(c:List AV)(h:Hp)(r:AV×Hp)(a:YG E (n+1) b c h=some r):YG E (n+2) b c h=some r:=by
 simp only[YG]at a⊢;split at a
 .next fr ps assign body t=>
  split at a
  .next k u=>
   split at a
   .next j s q=>
    rw[i.code _ _ _ _ q];dsimp only at a⊢;split at a
    .next o p d g l=>
     split at a
     .next e m v f=>rw[i.code _ _ _ _ f];exact a
     .cases a
    .cases a
   .cases a
  .cases a
 .cases a
def TR(d:MonoAt E n)(p:Bool)(f:AV)(a:List AV)(h:Hp)(r:AV×Hp)(c:QQ E (n+1) p f a h=some r):QQ E (n+2) p f a h=some r:=by
 cases f with
 |clo fn first cap=>
  cases fn<;>simp only[QQ,reduceCtorEq]at c⊢
  exact d.call _ _ _ _ _ c
 |yld b=>
  cases p
  .simp only[QQ,cond_false]at c⊢;exact d.yield _ _ _ _ c
  .simp[QQ]at c
 |_=>simp[QQ]at c
def TS(k:MonoAt E n)(o:AOper)(fr:Fr)(h:Hp)(r:Fr×Hp)(c:Q5 E (n+1) o fr h=some r):Q5 E (n+2) o fr h=some r:=by
 obtain⟨d,l,g⟩:=o;cases e:ZJ fr g with
 |none=>simp[Q5,e]at c
 |some b=>
  cases b with
  |false=>simpa[Q5,e]using c
  |true=>
   cases l<;>try (simpa only[Q5,e]using c)
   case call p f args=>
    simp only[Q5,e,ZSD]at c⊢;obtain⟨a,i,j⟩:=c;exact⟨a,k.call _ _ _ _ _ i,j⟩
   case callv p f args=>
    simp only[Q5,e,ZSD]at c⊢;obtain⟨a,i,j⟩:=c;exact⟨a,k.callv _ _ _ _ _ i,j⟩
def TT(d:MonoAt E n)(b:List AOper)(fr:Fr)(h:Hp)(r:Fr×Hp)(a:ZS E (n+1) b fr h=some r):ZS E (n+2) b fr h=some r:=by
 cases b with
 |nil=>simpa only[ZS]using a
 |cons o b=>
  simp only[ZS]at a⊢;cases c:Q5 E n o fr h with
  |none=>rw[c]at a;cases a
  |some p=>rw[c]at a;rw[d.op _ _ _ _ c];exact d.ops _ _ _ _ a
def TU(i:MonoAt E n)(o:AOper)(fr:Fr)(h:Hp)(r:AV×DRec×Option (Nat×AObj))(a:Zk E (n+1) o fr h=some r):Zk E (n+2) o fr h=some r:=by
 obtain⟨d,k,g⟩:=o;cases c:ZJ fr g with
 |none=>simp[Zk,c]at a
 |some b=>
  cases b with
  |false=>simpa[Zk,c]using a
  |true=>
   cases k<;>try (simpa only[Zk,c]using a)
   case call p f args=>
    simp only[Zk,c]at a⊢;cases p with
    |false=>exact a
    |true=>
     rw[cond_true]at a⊢;split at a
     .next v j e=>rw[i.call _ _ _ _ _ e];exact a
     .cases a
   case callv p x args=>
    simp only[Zk,c]at a⊢;cases p with
    |false=>cases a
    |true=>
     rw[cond_true]at a⊢;split at a
     .next g first cap l=>
      split at a
      .next v j e=>rw[i.call _ _ _ _ _ e];exact a
      .cases a
     .cases a
def Lr(n:Nat)(a:List AOper)(fr:Fr)(h:Hp):Ze E (n+1) (.region a) fr h=(ZS E n a fr h).map λr=>(.normal,r.1,r.2):=rfl
def Ls(n:Nat)(c:List<|List Nat)(a b:List AOper)(fr:Fr)(h:Hp):Ze E (n+1) (.draw c a b) fr h =
 (match QH (λo fr h=>Zk E n o fr h) a c fr h []with
  |some (fr,h)=>(ZS E n b fr h).map λr=>(.normal,r.1,r.2)
  |none=>none):=rfl
def Lt(n:Nat)(a b:ACode)(fr:Fr)(h:Hp):Ze E (n+1) (.seq a b) fr h=(match Ze E n a fr h with|some (.normal,fr,h)=>Ze E n b fr h|r=>r):=rfl
def Lu(n:Nat)(x:Arg)(a b:ACode)(fr:Fr)(h:Hp):Ze E (n+1) (.cond x a b) fr h=(match ev E fr x with| .bool true=>Ze E n a fr h| .bool false=>Ze E n b fr h|_=>none):=rfl
def Lv(n:Nat)(a:Nat)(b:ACode)(fr:Fr)(h:Hp):Ze E (n+1) (.block a b) fr h=(match Ze E n b fr h with|some (.exit i,fr,h)=>bif i==a then some (.normal,fr,h)else some (.exit i,fr,h)|r=>r):=rfl
def Lw(n:Nat)(live:List Nat)(b:ACode)(fr:Fr)(h:Hp):Ze E (n+1) (.loop live b) fr h=(match Ze E n b (Z2 live fr) h with|some (.normal,fr,h)=>Ze E n (.loop live b) fr h|r=>r):=rfl
def Ly(n:Nat)(live:List Nat)(b:ACode)(fr:Fr)(h:Hp):Ze E (n+1) (.keep live b) fr h=(match Ze E n b fr h with|some (e,fr',h')=>some (e,Z2 live fr',Xq h.length (Z2 live fr') h')|none=>none):=rfl
def Lz(n:Nat)(f:Arg)(ps:List Nat)(assign body:ACode)(fr:Fr)(h:Hp):Ze E (n+1) (.rangeFunc f ps assign body) fr h =
 (match ev E fr f with
  | .clo (.func g) first cap=>
   match QX E n g (first++[.yld h.length]++cap) (h++[.loop .ready .normal fr ps assign body])with
   |some (_,h')=>
    match h'[h.length]? with
    |some (.loop .busy _ _ _ _ _)=>none
    |some (.loop _ pend fr' ps assign body)=>some (pend,fr,setH h' h.length<|.loop .exhausted pend fr' ps assign body)
    |_=>none
   |none=>none
  |_=>none):=rfl
def ZPU(n d off s:Nat)(b:ACode)(fr:Fr)(h:Hp):Ze E (n+1) (.ghost d off s b) fr h=(match Ze E n b fr h with|some (.normal,fr',h')=>(ghW d off s fr' h').map λa=>(.normal,fr',a)|_=>none):=rfl
def Rz(n:Nat)(fr:Fr)(h:Hp):Ze E (n+1) .skip fr h=some (.normal,fr,h):=rfl
def RA(n:Nat)(i:Nat)(fr:Fr)(h:Hp):Ze E (n+1) (.exit i) fr h=some (.exit i,fr,h):=rfl
def RB(n:Nat)(fr:Fr)(h:Hp):Ze E (n+1) .ret fr h=some (.ret,fr,h):=rfl
def TV(l:MonoAt E n)(c:ACode)(fr:Fr)(h:Hp)(r:AExit×Fr×Hp)(j:Ze E (n+1) c fr h=some r):Ze E (n+2) c fr h=some r:=by
 cases c with
 |skip=>exact j
 |region A=>
  rw[Lr,ZSD]at j⊢;obtain⟨a,m,u⟩:=j;exact⟨a,l.ops _ _ _ _ m,u⟩
 |draw C y D=>
  rw[Ls]at j⊢;cases t:QH (λo fr h=>Zk E n o fr h) y C fr h []with
  |none=>rw[t]at j;cases j
  |some p=>
   rw[t]at j;rw[Lq (ex':=λo fr h=>Zk E (n+1) o fr h) (λo fr h r w=>l.dop _ _ _ _ w) _ _ _ _ _ _ t]
   simp only[ZSD]at j⊢;obtain⟨a,m,u⟩:=j;exact⟨a,l.ops _ _ _ _ m,u⟩
 |seq a b=>
  rw[Lt]at j⊢;cases k:Ze E n a fr h with
  |none=>rw[k]at j;cases j
  |some p=>
   obtain⟨e,q,m⟩:=p;rw[k]at j;rw[l.code _ _ _ _ k];cases e with
   |normal=>exact l.code _ _ _ _ j
   |exit i=>exact j
   |ret=>exact j
 |cond x a b=>
  rw[Lu]at j⊢;split at j
  .exact l.code _ _ _ _ j
  .exact l.code _ _ _ _ j
  .cases j
 |block F b=>
  rw[Lv]at j⊢;cases k:Ze E n b fr h with
  |none=>rw[k]at j;cases j
  |some p=>rw[k]at j;rw[l.code _ _ _ _ k];exact j
 |loop live b=>
  rw[Lw]at j⊢;cases k:Ze E n b (Z2 live fr) h with
  |none=>rw[k]at j;cases j
  |some p=>
   obtain⟨e,q,m⟩:=p;rw[k]at j;rw[l.code _ _ _ _ k];cases e with
   |normal=>exact l.code _ _ _ _ j
   |exit i=>exact j
   |ret=>exact j
 |rangeFunc f ps assign body=>
  rw[Lz]at j⊢;split at j
  .next g first cap w=>
   split at j
   .next v h' B=>rw[l.body _ _ _ _ B];exact j
   .cases j
  .cases j
 |exit i=>exact j
 |ret=>exact j
 |bad=>cases j
 |zbox d sz z ps=>exact j
 |nils s d off p=>exact j
 |ghost d off s b=>
  rw[ZPU]at j⊢;cases k:Ze E n b fr h with
  |none=>rw[k]at j;cases j
  |some p=>rw[k]at j;rw[l.code _ _ _ _ k];exact j
 |keep live b=>
  rw[Ly]at j⊢;cases k:Ze E n b fr h with
  |none=>rw[k]at j;cases j
  |some p=>rw[k]at j;rw[l.code _ _ _ _ k];exact j
def W0(E:Env):∀n,MonoAt E n:=by
 intro n;induction n with
 |zero=>
  constructor
  .intro f d h r a;simp[Qz]at a
  .intro f d h r a;simp[QX]at a
  .intro p f d h r a;simp[Qm]at a
  .intro b d h r a;simp[YG]at a
  .intro p f d h r a;simp[QQ]at a
  .intro o fr h r a;simp[Q5]at a
  .intro g fr h r a;simp[ZS]at a
  .intro o fr h r a;simp[Zk]at a
  .intro c fr h r a;simp[Ze]at a
 |succ n e=>exact⟨TN e,TO e,TP e,TQ e,TR e,TS e,TT e,TU e,TV e⟩
end Go.AM
namespace Go.AM
open Go
variable {α β:Type} {E:Env}
def Qu(g:Nat->Option α):Prop:=∀n x,g n=some x->g (n+1)=some x
variable {g:Nat->Option α}
def Qu.le(b:Qu g){n m:Nat}(h:n<=m){x:α}(c:g n=some x):g m=some x:=by
 induction h with
 |refl=>omega
 |step _ a=>exact b _ _ a
open Classical in
noncomputable def lim(g:Nat->Option α):Option α:=if h:∃x n,g n=some x then some (Classical.choose h)else none
def Yr(c:Qu g){x:α}:lim g=some x↔∃n,g n=some x:=by
 unfold lim;constructor
 .intro h;split at h
  all_goals grind
 .rintro⟨n,b⟩;have d:∃x n,g n=some x:=⟨x,n,b⟩;obtain⟨m,a⟩:=Classical.choose_spec d;have e:=c.le (Nat.le_max_left n m) b;have f:=c.le (Nat.le_max_right n m) a
  grind
def U3(h:∀n,g n=none):lim g=none:=by grind [lim]
def GB{a b:Option α}(h:∀x,a=some x↔b=some x):a=b:=by
 cases a with
 |none=>
  cases b with
  |none=>rfl
  |some y=>simp_all
 |some x=>grind
def TW{f g:Nat->Option α}(a:Qu f)(b:Qu g)(h:∀x,(∃n,f n=some x)↔∃n,g n=some x):lim f=lim g:=
 GB λx=>by rw[Yr a,Yr b,h]
def QA(a:Option α):lim (λ_=>a)=a:=GB λx=>by
 rw[Yr (g:=λ_=>a)<|λ_ _ h=>h]
 grind
def Qh(a:Qu g)(c:g 0=none):lim g=lim (λn=>g<|n+1):=by
 refine TW a (λn x h=>a _ _ h) λx=>⟨?_,?_⟩
 .rintro⟨n,b⟩;cases n with
  |zero=>grind
  |succ n=>grind
 grind
def thn(a:Option α)(k:α->Option β):Option β:=match a with|some x=>k x|none=>none
def ZM(x:α)(k:α->Option β):thn (some x) k=k x:=rfl
def LA(k:α->Option β):thn none k=none:=rfl
@[congr] def Z9w{a a':Option α}{k:α->Option β}(h:a=a'):thn a k=thn a' k:=by rw[h]
def TX{a:Nat->Option α}{k:Nat->α->Option β}(c:Qu a)(d:∀x,Qu<|λn=>k n x):Qu (λn=>thn (a n)<|k n):=by
 intro n y h;cases b:a n with
 |none=>grind [thn]
 |some x=>
  simp[b]at h;simp[c _ _ b];exact d x _ _ h
def KW{a:Nat->Option α}{k:Nat->α->Option β}(c:Qu a)(d:∀x,Qu<|λn=>k n x):lim (λn=>thn (a n)<|k n)=thn (lim a) (λx=>lim<|λn=>k n x):=by
 refine GB λy=>?_
 rw[Yr<|TX c d];constructor
 .rintro⟨n,e⟩;cases b:a n with
  |none=>grind [thn]
  |some x=>
   simp[thn]at e;rw[(Yr c).2 ⟨n,b⟩,ZM,Yr<|d x]
   grind
 .intro h;cases b:lim a with
  |none=>rw[b]at h;cases h
  |some x=>
   rw[b,ZM,Yr<|d x]at h;obtain⟨n,e⟩:=(Yr c).1 b;obtain⟨m,f⟩:=h;refine⟨max n m,?_⟩;simp[c.le (Nat.le_max_left n m) e];exact(d x).le (Nat.le_max_right n m) f
def W3{a:Nat->Option α}{k:α->Option β}(b:Qu a):lim (λn=>thn (a n) k)=thn (lim a) k:=by
 rw[KW b (k:=λ_=>k)<|λx _ _ h=>h]
 simp_all[QA]
noncomputable def fnV(E:Env)(f:Nat)(a:List AV)(h:Hp):Option (AV×Hp):=lim λn=>Qz E n f a h
noncomputable def VP(E:Env)(f:Nat)(a:List AV)(h:Hp):Option (AV×Hp):=lim λn=>QX E n f a h
noncomputable def YU(E:Env)(p:Bool)(f:Nat)(a:List AV)(h:Hp):Option (AV×Hp):=lim λn=>Qm E n p f a h
noncomputable def U4(E:Env)(b:Nat)(a:List AV)(h:Hp):Option (AV×Hp):=lim λn=>YG E n b a h
noncomputable def Xy(E:Env)(p:Bool)(f:AV)(a:List AV)(h:Hp):Option (AV×Hp):=lim λn=>QQ E n p f a h
noncomputable def opV(E:Env)(o:AOper)(fr:Fr)(h:Hp):Option (Fr×Hp):=lim λn=>Q5 E n o fr h
noncomputable def Z9(E:Env)(a:List AOper)(fr:Fr)(h:Hp):Option (Fr×Hp):=lim λn=>ZS E n a fr h
noncomputable def Xz(E:Env)(o:AOper)(fr:Fr)(h:Hp):Option (AV×DRec×Option (Nat×AObj)):=lim λn=>Zk E n o fr h
noncomputable def Zm(E:Env)(b:List AOper)(us:List<|List Nat)(fr:Fr)(h:Hp)(a:List DRec):Option (Fr×Hp):=lim λn=>QH (λo fr h=>Zk E n o fr h) b us fr h a
noncomputable def Zb(E:Env)(c:ACode)(fr:Fr)(h:Hp):Option (AExit×Fr×Hp):=lim λn=>Ze E n c fr h
def GC(f:Nat)(a:List AV)(h:Hp):Qu λn=>Qz E n f a h:=λn x b=>(W0 E n).fn _ _ _ _ b
def LB(f:Nat)(a:List AV)(h:Hp):Qu λn=>QX E n f a h:=λn x b=>(W0 E n).body _ _ _ _ b
def U5(p:Bool)(f:Nat)(a:List AV)(h:Hp):Qu λn=>Qm E n p f a h:=λn x b=>(W0 E n).call _ _ _ _ _ b
def TY(b:Nat)(a:List AV)(h:Hp):Qu λn=>YG E n b a h:=λn x c=>(W0 E n).yield _ _ _ _ c
def RC(p:Bool)(f:AV)(a:List AV)(h:Hp):Qu λn=>QQ E n p f a h:=λn x b=>(W0 E n).callv _ _ _ _ _ b
def KX(o:AOper)(fr:Fr)(h:Hp):Qu λn=>Q5 E n o fr h:=λn x a=>(W0 E n).op _ _ _ _ a
def VQ(o:List AOper)(fr:Fr)(h:Hp):Qu λn=>ZS E n o fr h:=λn x a=>(W0 E n).ops _ _ _ _ a
def KY(o:AOper)(fr:Fr)(h:Hp):Qu λn=>Zk E n o fr h:=λn x a=>(W0 E n).dop _ _ _ _ a
def QI(c:ACode)(fr:Fr)(h:Hp):Qu λn=>Ze E n c fr h:=λn x a=>(W0 E n).code _ _ _ _ a
def LC(c:List AOper)(us:List<|List Nat)(fr:Fr)(h:Hp)(a:List DRec):Qu λn=>QH (λo fr h=>Zk E n o fr h) c us fr h a:=
 λn x b=>Lq (λo fr h r d=>(W0 E n).dop _ _ _ _ d) _ _ _ _ _ _ b
def U6(a:Option α):Qu λ_=>a:=λ_ _ h=>h
def VR(a:Option α)(f:α->β):a.map f=thn a (λx=>some<|f x):=rfl
variable {a:List AV}{f:Nat}{h:Hp}
def TZ(b:E.sum f=none):fnV E f a h=VP E f a h:=by
 unfold fnV VP;rw[Qh (GC f a h) rfl]
 grind [Qz]
def V8{s:List AV->Hp->Option (AV×Hp)}(b:E.sum f=some s):fnV E f a h=s a h:=by
 unfold fnV;rw[Qh (GC f a h) rfl]
 simp_all[Qz,QA]
def fin(rs:List ResVar)(r:Option<|AExit×Fr×Hp):Option (AV×Hp):=
 match r with
 |some (.normal,fr,h)=>thn (QO fr h rs) λv=>some (v,h)
 |some (.ret,fr,h)=>thn (QO fr h rs) λv=>some (v,h)
 |_=>none
def S1(rs:List ResVar)(fr:Fr)(h:Hp):fin rs (some (.normal,fr,h))=thn (QO fr h rs) λv=>some (v,h):=rfl
def S2(rs:List ResVar)(fr:Fr)(h:Hp):fin rs (some (.ret,fr,h))=thn (QO fr h rs) λv=>some (v,h):=rfl
def LD{fn:AFun}(b:E.fn f=some fn):VP E f a h=fin fn.res (Zb E fn.body (QP 0 a) h):=by
 unfold VP Zb;rw[Qh (LB f a h) rfl];have e:(λn=>QX E (n+1) f a h)=λn=>thn (Ze E n fn.body (QP 0 a) h) λp=>fin fn.res (some p):=by
  funext n
  simp[QX,b];cases Ze E n fn.body (QP 0 a) h with
  |none=>rfl
  |some p=>obtain⟨e,fr,h⟩:=p;cases e<;>rfl
 rw[e,W3<|QI _ _ _];cases lim (λn=>Ze E n fn.body (QP 0 a) h)<;>rfl
noncomputable def pfn(E:Env)(f:Nat)(a:List AV):Option AV:=thn (fnV E f a []) λr=>YE r.2 r.1
def GD:YU E true f a h=thn (Ql h a) λas=>thn (pfn E f as) λv=>some (v,h):=by
 unfold YU pfn fnV;rw[Qh (U5 true f a h) rfl];simp[Qm];cases Ql h a with
 |none=>exact QA _
 |some as=>
  simp[ZM];have e:(λn=>(match Qz E n f as []with|some (v,h')=>Option.map (λv=>(v,h)) (YE h' v)|none=>none))=λn=>thn (Qz E n f as []) λr=>thn (YE r.2 r.1) λv=>some (v,h):=by
   funext n
   cases Qz E n f as []with
   |none=>rfl
   |some p=>rfl
  refine(congrArg lim e).trans ?_;rw[W3<|GC _ _ _];cases lim (λn=>Qz E n f as [])<;>rfl
def LE:YU E false f a h=fnV E f a h:=by
 unfold YU fnV;rw[Qh (U5 false f a h) rfl];rfl
variable {p:Bool}
def RD{g:Nat}{first cap a:List AV}:Xy E p (.clo (.func g) first cap) a h=YU E p g (first++a++cap) h:=by
 unfold Xy YU;rw[Qh (RC p _ a h) rfl];rfl
def S3{b:Nat}:Xy E false (.yld b) a h=U4 E b a h:=by
 unfold Xy U4;rw[Qh (RC false _ a h) rfl];rfl
def grd(v:AV)(b:Bool)(x y:Option α):Option α:=match v with| .bool c=>bif c==b then x else y| .tup []=>y|_=>none
@[congr] def Z9C{v v':AV}{b:Bool}{x y:Option α}(h:v=v'):grd v b x y=grd v' b x y:=by rw[h]
variable {d:Option Nat}{fr:Fr}
def S4{e:AOp}{t:Nat}{b:Bool}:opV E ⟨d,e,some (t,b)⟩ fr h=grd (get fr t) b (opV E ⟨d,e,none⟩ fr h) (some (ZB fr d<|.tup [],h)):=by
 unfold opV;rw[Qh (KX _ fr h) rfl,Qh (KX ⟨d,e,none⟩ fr h) rfl];cases g:get fr t with
 |bool c=>
  cases f:(c==b)with
  |true=>
   have a:ZJ fr (some (t,b))=some true:=by grind [ZJ]
   simp only[grd,f,cond_true];congr 1
   funext n
   cases e<;>simp only[Q5,a]<;>rfl
  |false=>
   have a:ZJ fr (some (t,b))=some false:=by grind [ZJ]
   simp only[grd,f,cond_false];rw[<-QA (some (ZB fr d<|.tup [],h))];congr 1
   funext n
   cases e<;>simp only[Q5,a]
 |tup vs=>
  cases vs with
  |nil=>
   have a:ZJ fr (some (t,b))=some false:=by grind [ZJ]
   simp only[grd];rw[<-QA (some (ZB fr d<|.tup [],h))];congr 1
   funext n
   cases e<;>simp only[Q5,a]
  |cons _ _=>
   have a:ZJ fr (some (t,b))=none:=by grind [ZJ]
   simp only[grd];refine U3 λn=>?_
   cases e<;>simp only[Q5,a]
 |_=>
  have a:ZJ fr (some (t,b))=none:=by simp only[ZJ,g]
  simp only[grd];refine U3 λn=>?_
  cases e<;>simp only[Q5,a]
def GE{a:AOp}(b:a.isCall=false):opV E ⟨d,a,none⟩ fr h=thn (Z8 E fr h h.length a) λr=>some (ZB fr d r.1,ZH h r.2.2):=by
 unfold opV;rw[Qh (KX _ fr h) rfl];rw[<-QA (thn (Z8 E fr h h.length a) λr=>some (ZB fr d r.1,ZH h r.2.2))]
 congr 1;cases a<;>first|(simp[AOp.isCall]at b;done)|(simp[Q5,ZJ,VR])
def ZGD{sz a:Nat}{s x:Arg}:opV E ⟨d,.apa sz a s x,none⟩ fr h=thn (ZE9 h sz a (ev E fr s)<|ev E fr x) λr=>some (ZB fr d r.1,r.2):=by
 unfold opV;rw[Qh (KX _ fr h) rfl];rw[<-QA (thn (ZE9 h sz a (ev E fr s)<|ev E fr x) λr=>some (ZB fr d r.1,r.2))]
 rfl
def RE{a:List Arg}:opV E ⟨d,.call p f a,none⟩ fr h=thn (YU E p f (a.map<|ev E fr) h) λr=>some (ZB fr d r.1,r.2):=by
 unfold opV YU;rw[Qh (KX _ fr h) rfl];simp[Q5,ZJ,VR];rw[W3<|U5 _ _ _ _]
variable {x:Arg}
def RF{a:List Arg}:opV E ⟨d,.callv p x a,none⟩ fr h=thn (Xy E p (ev E fr x) (a.map<|ev E fr) h) λr=>some (ZB fr d r.1,r.2):=by
 unfold opV Xy;rw[Qh (KX _ fr h) rfl];simp[Q5,ZJ,VR];rw[W3<|RC _ _ _ _]
def KZ:Z9 E [] fr h=some (fr,h):=by
 unfold Z9;rw[Qh (VQ _ fr h) rfl]
 simp_all[ZS,QA]
def V9{o:AOper}{r:List AOper}:Z9 E (o::r) fr h=thn (opV E o fr h) λp=>Z9 E r p.1 p.2:=by
 unfold Z9 opV;rw[Qh (VQ _ fr h) rfl];have e:(λn=>ZS E (n+1) (o::r) fr h)=λn=>thn (Q5 E n o fr h) λp=>ZS E n r p.1 p.2:=by
  funext n
  simp[ZS];cases Q5 E n o fr h<;>rfl
 rw[e,KW (KX _ _ _)<|λx=>VQ _ _ _]
def S5{e:AOp}{t:Nat}{b:Bool}:Xz E ⟨d,e,some (t,b)⟩ fr h=grd (get fr t) b (Xz E ⟨d,e,none⟩ fr h) (some (.tup [],⟨false,[],none,none⟩,none)):=by
 unfold Xz;rw[Qh (KY _ fr h) rfl,Qh (KY ⟨d,e,none⟩ fr h) rfl];cases g:get fr t with
 |bool c=>
  cases f:(c==b)with
  |true=>
   have a:ZJ fr (some (t,b))=some true:=by grind [ZJ]
   simp only[grd,f,cond_true];congr 1;cases e<;>simp only[Zk,a]<;>rfl
  |false=>
   have a:ZJ fr (some (t,b))=some false:=by grind [ZJ]
   simp only[grd,f,cond_false];rw[<-QA (some (AV.tup [],(⟨false,[],none,none⟩:DRec),(none:Option<|Nat×AObj)))];congr 1
   funext n
   cases e<;>simp only[Zk,a]
 |tup vs=>
  cases vs with
  |nil=>
   have a:ZJ fr (some (t,b))=some false:=by grind [ZJ]
   simp only[grd];rw[<-QA (some (AV.tup [],(⟨false,[],none,none⟩:DRec),(none:Option<|Nat×AObj)))];congr 1
   funext n
   cases e<;>simp only[Zk,a]
  |cons _ _=>
   have a:ZJ fr (some (t,b))=none:=by grind [ZJ]
   simp only[grd];refine U3 λn=>?_
   cases e<;>simp only[Zk,a]
 |_=>
  have a:ZJ fr (some (t,b))=none:=by simp only[ZJ,g]
  simp only[grd];refine U3 λn=>?_
  cases e<;>simp only[Zk,a]
def LG{a:AOp}(b:a.isCall=false):
 Xz E ⟨d,a,none⟩ fr h=thn (Z8 E (Z2 a.slots fr) h h.length a) λr=>some (r.1,QG E (Z2 a.slots fr) h a r.2.2,r.2.2):=by
 unfold Xz;rw[Qh (KY _ fr h) rfl];rw[<-QA (thn (Z8 E (Z2 a.slots fr) h h.length a) λr=>some (r.1,QG E (Z2 a.slots fr) h a r.2.2,r.2.2))]
 congr 1;cases a<;>first|(simp[AOp.isCall]at b;done)|(simp[Zk,ZJ,VR])
def S6{a:List Arg}:
 Xz E ⟨d,.call true f a,none⟩ fr h=thn (YU E true f (a.map<|ev E fr) h) λr=>some (r.1,ZO9 h<|a.map<|ev E fr,none):=by
 unfold Xz YU;rw[Qh (KY _ fr h) rfl];have e:(λn=>Zk E (n+1) ⟨d,.call true f a,none⟩ fr h)=λn=>thn (Qm E n true f (a.map<|ev E fr) h) λr=>some (r.1,ZO9 h<|a.map<|ev E fr,(none:Option<|Nat×AObj)):=by
  funext n
  simp[Zk,cond_true];cases Qm E n true f (a.map<|ev E fr) h<;>rfl
 rw[e,W3<|U5 _ _ _ _]
def rsD(o:Option<|List AV->Nat->List AV->Option (List AV))(h:Hp)(a:List AV):Option (AV×DRec×Option (Nat×AObj)):=match o with
 |some s=>ZEn s h a
 |none=>none
def ZIH{a:List Arg}:Xz E ⟨d,.call false f a,none⟩ fr h=rsD (E.rs f) h (a.map<|ev E fr):=by
 unfold Xz;rw[Qh (KY _ fr h) rfl,<-QA (rsD (E.rs f) h<|a.map<|ev E fr)];rfl
noncomputable def dcv(E:Env)(b:AV)(a:List AV)(h:Hp):Option (AV×DRec×Option (Nat×AObj)):=
 match b with
 | .clo (.func g) first cap=>thn (YU E true g (first++a++cap) h) λr=>some (r.1,⟨!Zi (first++a++cap),[],none,none⟩,none)
 |_=>none
def S7{a:List Arg}:Xz E ⟨d,.callv true x a,none⟩ fr h=dcv E (ev E fr x) (a.map<|ev E fr) h:=by
 unfold Xz dcv YU;rw[Qh (KY _ fr h) rfl];simp only[Zk,cond_true];generalize ev E fr x=v;generalize a.map (ev E fr)=vs;cases v with
 |clo fn first cap=>
  cases fn with
  |func g=>
   refine Eq.trans ?_<|W3<|U5 (E:=E) true g (first++vs++cap) h
   congr 1
   funext n
   dsimp only;cases Qm E n true g (first++vs++cap) h<;>rfl
  |_=>exact QA _
 |_=>exact QA _
def S8{us:List (List Nat)}{a:List DRec}:Zm E [] us fr h a=some (fr,h):=by
 simp_all[Zm,QH,QA]
def okd(a:List DRec)(u:List Nat)(h:Hp)(d:DRec)(b:Option<|Nat×AObj)(k:Option α):Option α:=bif Zv d a u&&Ya h b then k else none
variable {u:List Nat}
def Z9E{a:List DRec}{d:DRec}{b:Option (Nat×AObj)}{k:Option α}(c:Zv d a u=true)(e:Ya h b=true):okd a u h d b k=k:=by grind [okd]
@[congr] def Z9F{recs:List DRec}{d:DRec}{wr:Option (Nat×AObj)}{k:Option α}:okd recs u h d wr k=okd recs u h d wr k:=rfl
def VS{o:AOper}{r:List AOper}{us:List (List Nat)}{a:List DRec}:
 Zm E (o::r) (u::us) fr h a=thn (Xz E o fr h) λp=>okd a u h p.2.1 p.2.2 (Zm E r us (ZB fr o.dst p.1) (ZH h p.2.2)<|a++[p.2.1]):=by
 unfold Zm Xz;have e:(λn=>QH (λo fr h=>Zk E n o fr h) (o::r) (u::us) fr h a)=λn=>thn (Zk E n o fr h) λp=>okd a u h p.2.1 p.2.2 (QH (λo fr h=>Zk E n o fr h) r us (ZB fr o.dst p.1) (ZH h p.2.2)<|a++[p.2.1]):=by
  funext n
  simp[QH];cases Zk E n o fr h<;>rfl
 rw[e,KW (KY _ _ _) ?_]
 .congr 1
  funext p
  unfold okd;cases(Zv p.2.1 a u&&Ya h p.2.2)with
  |true=>rfl
  |false=>exact QA _
 .intro p;unfold okd;cases(Zv p.2.1 a u&&Ya h p.2.2)with
  |true=>simp_all[LC]
  |false=>exact U6 _
def nrm(r:Option<|Fr×Hp):Option (AExit×Fr×Hp):=match r with|some p=>some (.normal,p.1,p.2)|none=>none
def S9(fr:Fr)(h:Hp):nrm (some (fr,h))=some (.normal,fr,h):=rfl
def W4(r:Option<|AExit×Fr×Hp)(k:Fr->Hp->Option (AExit×Fr×Hp)):Option (AExit×Fr×Hp):=
 match r with
 |some (.normal,fr,h)=>k fr h
 |r=>r
@[congr] def Z9K{r r':Option (AExit×Fr×Hp)}{k:Fr->Hp->Option (AExit×Fr×Hp)}(h:r=r'):W4 r k=W4 r' k:=by rw[h]
def cnd(v:AV)(x y:Option α):Option α:=match v with| .bool true=>x| .bool false=>y|_=>none
@[congr] def Z9N{v v':AV}{x y:Option α}(h:v=v'):cnd v x y=cnd v' x y:=by rw[h]
def blk(a:Nat)(r:Option<|AExit×Fr×Hp):Option (AExit×Fr×Hp):=
 match r with
 |some (.exit i,fr,h)=>bif i==a then some (.normal,fr,h)else some (.exit i,fr,h)
 |r=>r
def Sa(a:Nat)(fr:Fr)(h:Hp):blk a (some (.normal,fr,h))=some (.normal,fr,h):=rfl
def Sb(a:Nat)(fr:Fr)(h:Hp):blk a (some (.ret,fr,h))=some (.ret,fr,h):=rfl
def Sc(a i:Nat)(fr:Fr)(h:Hp):blk a (some (.exit i,fr,h))=bif i==a then some (.normal,fr,h)else some (.exit i,fr,h):=rfl
def kp(live:List Nat)(n:Nat)(r:Option<|AExit×Fr×Hp):Option (AExit×Fr×Hp):=
 match r with
 |some (e,fr,h)=>some (e,Z2 live fr,Xq n (Z2 live fr) h)
 |none=>none
def Sd(live:List Nat)(n:Nat)(e:AExit)(fr:Fr)(h:Hp):kp live n (some (e,fr,h))=some (e,Z2 live fr,Xq n (Z2 live fr) h):=rfl
def lp(r:Option<|AExit×Fr×Hp)(k:Fr->Hp->Option (AExit×Fr×Hp)):Option (AExit×Fr×Hp):=W4 r k
def Se:Zb E .skip fr h=some (.normal,fr,h):=by
 unfold Zb;rw[Qh (QI _ fr h) rfl]
 simp_all[Rz,QA]
def zbW(d sz:Nat)(ps:List<|Nat×Nat)(z:AV)(fr:Fr)(h:Hp):Option (AExit×Fr×Hp):=bif fits sz (Zvr h.length ps z)then some (.normal,put fr d<|.ptr (h.length+ps.length) 0 0 1,h++Zvo ps++[.row sz [Zvr h.length ps z]])else none
def Zzm(d sz:Nat)(ps:List<|Nat×Nat)(z:AV)(fr:Fr)(h:Hp)(a:fits sz (Zvr h.length ps z)=true):zbW d sz ps z fr h=some (.normal,put fr d<|.ptr (h.length+ps.length) 0 0 1,h++Zvo ps++[.row sz [Zvr h.length ps z]]):=by grind [zbW]
def Zzn{d sz:Nat}{z:AV}{ps:List (Nat×Nat)}:Zb E (.zbox d sz z ps) fr h=zbW d sz ps z fr h:=by
 unfold Zb;rw[Qh (QI _ fr h) rfl];exact QA _
def Sf{i:Nat}:Zb E (.exit i) fr h=some (.exit i,fr,h):=by
 unfold Zb;rw[Qh (QI _ fr h) rfl]
 simp_all[RA,QA]
def Sg:Zb E .ret fr h=some (.ret,fr,h):=by
 unfold Zb;rw[Qh (QI _ fr h) rfl]
 simp_all[RB,QA]
def Sh{a:List AOper}:Zb E (.region a) fr h=nrm (Z9 E a fr h):=by
 unfold Zb Z9;rw[Qh (QI _ fr h) rfl];simp[Lr,VR];rw[W3<|VQ _ _ _];cases lim (λn=>ZS E n a fr h)<;>rfl
def Si{c:List (List Nat)}{b a:List AOper}:Zb E (.draw c b a) fr h=nrm (thn (Zm E b c fr h []) λp=>Z9 E a p.1 p.2):=by
 have e:Zb E (.draw c b a) fr h=lim λn=>thn (QH (λo fr h=>Zk E n o fr h) b c fr h []) λp=>nrm (ZS E n a p.1 p.2):=by
  unfold Zb;rw[Qh (QI _ fr h) rfl];congr 1
  funext n
  rw[Ls];cases QH (λo fr h=>Zk E n o fr h) b c fr h []with
  |none=>rfl
  |some p=>
   simp[ZM];cases ZS E n a p.1 p.2<;>rfl
 have f:∀p:Fr×Hp,Qu λn=>nrm (ZS E n a p.1 p.2):=by
  intro p n x g;cases d:ZS E n a p.1 p.2 with
  |none=>grind [nrm]
  |some q=>simp only[d,nrm]at g;simp only[VQ _ _ _ _ _ d,nrm];omega
 rw[e];refine(KW (k:=λn p=>nrm<|ZS E n a p.1 p.2) (LC b c fr h []) f).trans ?_
 show thn (Zm E b c fr h []) _=_
 cases Zm E b c fr h []with
 |none=>rfl
 |some p=>
  simp[ZM];refine GB λx=>?_
  rw[Yr<|f p];unfold Z9;constructor
  .rintro⟨n,i⟩;cases d:ZS E n a p.1 p.2 with
   |none=>grind [nrm]
   |some q=>rw[(Yr<|VQ _ _ _).2 ⟨n,d⟩];grind
  .cases d:lim (λn=>ZS E n a p.1 p.2)with
   |none=>grind [nrm]
   |some q=>
    obtain⟨n,i⟩:=(Yr<|VQ _ _ _).1 d
    grind
def Sj{a b:ACode}:Zb E (.seq a b) fr h=W4 (Zb E a fr h) λfr h=>Zb E b fr h:=by
 unfold Zb;rw[Qh (QI _ fr h) rfl];have e:(λn=>Ze E (n+1) (.seq a b) fr h)=λn=>thn (Ze E n a fr h) λp=>match p with|(.normal,fr,h)=>Ze E n b fr h|p=>some p:=by
  funext n
  rw[Lt];cases Ze E n a fr h with
  |none=>rfl
  |some p=>obtain⟨e,fr,h⟩:=p;cases e<;>rfl
 rw[e,KW (QI _ _ _) ?_]
 .cases lim (λn=>Ze E n a fr h)with
  |none=>rfl
  |some p=>
   obtain⟨e,fr,h⟩:=p;cases e with
   |normal=>rfl
   |exit i=>exact QA _
   |ret=>exact QA _
 .intro p;obtain⟨e,fr,h⟩:=p;cases e with
  |normal=>exact QI _ _ _
  |exit i=>exact U6 _
  |ret=>exact U6 _
def Sk{a b:ACode}:Zb E (.cond x a b) fr h=cnd (ev E fr x) (Zb E a fr h) (Zb E b fr h):=by
 unfold Zb;rw[Qh (QI _ fr h) rfl];simp[Lu];generalize ev E fr x=v;cases v with
 |bool c=>cases c<;>rfl
 |_=>exact QA _
variable {b:ACode}
def Sl{a:Nat}:Zb E (.block a b) fr h=blk a (Zb E b fr h):=by
 unfold Zb;rw[Qh (QI _ fr h) rfl];have e:(λn=>Ze E (n+1) (.block a b) fr h)=λn=>thn (Ze E n b fr h) λp=>blk a (some p):=by
  funext n
  rw[Lv];cases Ze E n b fr h with
  |none=>rfl
  |some p=>obtain⟨e,fr,h⟩:=p;cases e<;>rfl
 rw[e,W3<|QI _ _ _];cases lim (λn=>Ze E n b fr h)<;>rfl
variable {live:List Nat}
def Sm:Zb E (.keep live b) fr h=kp live h.length (Zb E b fr h):=by
 unfold Zb;rw[Qh (QI _ fr h) rfl];have e:(λn=>Ze E (n+1) (.keep live b) fr h)=λn=>thn (Ze E n b fr h) λp=>kp live h.length (some p):=by
  funext n
  rw[Ly];cases Ze E n b fr h<;>rfl
 rw[e,W3<|QI _ _ _];cases lim (λn=>Ze E n b fr h)<;>rfl
def gh(d off s:Nat)(r:Option<|AExit×Fr×Hp):Option (AExit×Fr×Hp):=
 match r with
 |some (.normal,fr,h)=>(ghW d off s fr h).map λa=>(.normal,fr,a)
 |_=>none
def ZQG(d off s:Nat)(fr:Fr)(h:Hp):gh d off s (some (.normal,fr,h))=(ghW d off s fr h).map λa=>(.normal,fr,a):=rfl
def ZQH{d off s:Nat}:Zb E (.ghost d off s b) fr h=gh d off s (Zb E b fr h):=by
 unfold Zb;rw[Qh (QI _ fr h) rfl];have e:(λn=>Ze E (n+1) (.ghost d off s b) fr h)=λn=>thn (Ze E n b fr h) λp=>gh d off s (some p):=by
  funext n
  rw[ZPU];cases Ze E n b fr h with
  |none=>rfl
  |some p=>obtain⟨e,fr,h⟩:=p;cases e<;>rfl
 rw[e,W3<|QI _ _ _];cases lim (λn=>Ze E n b fr h)<;>rfl
theorem RG:Zb E (.loop live b) fr h=lp (Zb E b (Z2 live fr) h) λfr h=>Zb E (.loop live b) fr h:=by
 unfold Zb;rw[Qh (QI _ fr h) rfl];have e:(λn=>Ze E (n+1) (.loop live b) fr h)=λn=>thn (Ze E n b (Z2 live fr) h) λp=>match p with|(.normal,fr,h)=>Ze E n (.loop live b) fr h|p=>some p:=by
  funext n
  rw[Lw];cases Ze E n b (Z2 live fr) h with
  |none=>rfl
  |some p=>obtain⟨e,fr,h⟩:=p;cases e<;>rfl
 rw[e,KW (QI _ _ _) ?_]
 .cases lim (λn=>Ze E n b (Z2 live fr) h)with
  |none=>rfl
  |some p=>
   obtain⟨e,fr,h⟩:=p;cases e with
   |normal=>rfl
   |exit i=>exact QA _
   |ret=>exact QA _
 .intro p;obtain⟨e,fr,h⟩:=p;cases e with
  |normal=>exact QI _ _ _
  |exit i=>exact U6 _
  |ret=>exact U6 _
def Sn(fr:Fr)(live:List Nat)(t:Nat):get (live.map λt=>(t,get fr t)) t=if t∈live then get fr t else .bot:=by
 induction live with
 |nil=>rfl
 |cons d r a=>
  simp[get]
  grind
theorem Sp(live:List Nat)(fr:Fr):Z2 live (Z2 live fr)=Z2 live fr:=by
 unfold Z2;apply ZTZ;intro t a;rw[Sn,if_pos a]
def GF:Zb E (.loop live b) fr h=Zb E (.loop live b) (Z2 live fr) h:=by grind [RG,Z2,Sp]
def J0(fr:Fr)(b:Nat)(r:Option<|AV×Hp):Option (AExit×Fr×Hp):=
 match r with
 |some (_,h')=>
  match h'[b]? with
  |some (.loop .busy _ _ _ _ _)=>none
  |some (.loop _ pend fr' ps assign body)=>some (pend,fr,setH h' b<|.loop .exhausted pend fr' ps assign body)
  |_=>none
 |none=>none
noncomputable def rf(E:Env)(a:AV)(ps:List Nat)(assign body:ACode)(fr:Fr)(h:Hp):Option (AExit×Fr×Hp):=
 match a with
 | .clo (.func g) first cap=>J0 fr h.length<|VP E g (first++[.yld h.length]++cap)<|h++[.loop .ready .normal fr ps assign body]
 |_=>none
def Sq{g:Nat}{first cap:List AV}{ps:List Nat}{assign body:ACode}:
 rf E (.clo (.func g) first cap) ps assign body fr h=J0 fr h.length (VP E g (first++[.yld h.length]++cap)<|h++[.loop .ready .normal fr ps assign body]):=rfl
def Sr{f:Arg}{ps:List Nat}{assign body:ACode}:Zb E (.rangeFunc f ps assign body) fr h=rf E (ev E fr f) ps assign body fr h:=by
 unfold Zb rf VP;rw[Qh (QI _ fr h) rfl];simp only[Lz];generalize ev E fr f=v;cases v with
 |clo fn first cap=>
  cases fn with
  |func g=>
   dsimp only;generalize a:(λn=>QX E n g (first++[.yld h.length]++cap)<|h++[.loop .ready .normal fr ps assign body])=r
   have b:Qu r:=by rw[<-a];exact LB _ _ _
   have e:J0 fr h.length (lim r)=thn (lim r) λp=>J0 fr h.length (some p):=by cases lim r<;>rfl
   rw[e,<-W3 b,<-a];congr 1
   funext n
   dsimp only;cases QX E n g (first++[.yld h.length]++cap) (h++[.loop .ready .normal fr ps assign body])<;>rfl
  |_=>exact QA _
 |_=>exact QA _
def Ss{b:Nat}{fr g o t:Fr}{r s:Hp}{e:AExit}{ps j k:List Nat}{assign body d c p f:ACode}{l:Fr}{u:LoopState}{q:AExit}{i:Fr}
 (F:h[b]?=some (.loop .ready .normal fr ps assign body)) (C:WY ps a fr=some g)
 (A:Zb E assign g h=some (.normal,o,r)) (x:r[b]?=some (.loop .ready .normal i j d c))
 (w:Zb E body o (setH r b<|.loop .busy .normal i j d c)=some (e,t,s)) (v:s[b]?=some (.loop u q l k p f)):
 U4 E b a h=some (match e with
  | .normal=>(.bool true,setH s b<|.loop .ready .normal l k p f)
  |e=>(.bool false,setH s b<|.loop .done e l k p f)):=by
 unfold U4;rw[Yr<|TY _ _ _];obtain⟨n,y⟩:=(Yr<|QI _ _ _).1 A;obtain⟨m,D⟩:=(Yr<|QI _ _ _).1 w;refine⟨max n m+1,?_⟩;simp[YG,F,C];have B:=(QI (E:=E) assign g h).le (Nat.le_max_left n m) y;have z:=(QI (E:=E) body o<|setH r b<|.loop .busy .normal i j d c).le (Nat.le_max_right n m) D;simp[B,x,z,v];cases e<;>rfl
end Go.AM
namespace Go.AM
instance iDr:Dr:=⟨False⟩
open Go Go.Sort
variable {P:Program}
def grown_of{a b:World}(e:b.os=a.os)(g:b.tape=a.tape)(j:b.output=a.output)(n:a.heap.size<=b.heap.size)(m:a.drawn<=b.drawn)(d:∀k,k<a.heap.size->b.heap[k]?=a.heap[k]?):∃q l,b=grow (a.drewN q) l:=by
 refine⟨b.drawn-a.drawn,b.heap.extract a.heap.size b.heap.size,?_⟩;have h:b.heap=a.heap++b.heap.extract a.heap.size b.heap.size:=by
  apply Array.ext_getElem?;intro i;by_cases c:i<a.heap.size
  .rw[ZUt c,d i c]
  .rw[Array.getElem?_append_right (by omega),Array.getElem?_extract]
   by_cases o:i<b.heap.size
   .rw[if_pos<|by omega]
    congr 1;omega
   .rw[if_neg (by omega),ZV1<|by omega]
 have f:b.drawn=a.drawn+(b.drawn-a.drawn):=by omega
 cases a;cases b;simp only[grow,World.drewN]at*;subst e g j;rw[World.mk.injEq];exact⟨h,rfl,f,rfl,rfl⟩
def Zzp{i:Env}{g:Nat}{c:List AV}{n:Int}{h':Hp}(o:@EnvOk dT P i)(p:∀k,i.gl k=.bot)(f:i.sum g=none)(d:fnV i g c []=some (.int .i64 n,h'))(W:World)(X2:Xt)(v:∀r,X2 r->r<W.heap.size)(j:X2.cr=Chk P)
 (a:Array Value) (h:Rs Ty.empty X2 W c a.toList):Calls P g a W λe w'=>e=.returned (.int .i64 n)/\∃q x,w'=grow (W.drewN q) x:=by
 letI:Dr:=dT
 obtain⟨k,l⟩:=(Yr<|GC g c []).1 d;cases k with
 |zero=>simp[Qz]at l
 |succ k=>
  simp only[Qz,f]at l;have u:Ctx i Ty.empty X2 [] W:=by
   refine⟨⟨λb c' y u r t=>(by cases t),λr h=>(XX r h).elim,λr h=>(XX r h).elim,λb=>?_⟩,λz=>?_,v⟩
   .simp only[List.getElem?_nil];trivial
   .rw[p];trivial
  have w:=((TM o k).body g c [] (.int .i64 n) h' l Ty.empty X2 W a j u h).2;refine w.mono ?_;rintro e w' ⟨rv,rfl,T',st,m,hv⟩;have s:rv=.int .i64 n:=hv;subst s;exact⟨rfl,grown_of st.os st.tape st.output st.size (st.drawn trivial)<|λb t=>st.keep b t<|XX b⟩
end Go.AM
namespace Go.AM
open Go
variable [Dr]
variable {P:Program} {E E1:Env}
def Ctx.env{T:Ty}{X:Xt}{h:Hp}{w:World}(c:Ctx E T X h w)(a:∀g,E1.gl g=E.gl g):Ctx E1 T X h w:=
 ⟨c.m,λg=>by rw[a];exact c.gl g,c.hX⟩
def ZFH(e:EnvOk P E1)(j:∀g,E1.gl g=E.gl g){f:Nat}{s:List AV->Nat->List AV->Option (List AV)}(l:∀a h v i,ZE8 s h a=some (v,i)->fnV E1 f a h=some (v,ZH h i)):ZEs P E f s:=by
 intro a h v i o T X w b d c m;obtain⟨k,n⟩:=(Yr<|GC f a h).1 (l _ _ _ _ o);exact(TM e k).fn f a h v _ n T X w b d (c.env j) m
def ZEo(s:List AV->Nat->List AV->Option (List AV))(a:List AV)(h:Hp):Option (AV×Hp):=(ZE8 s h a).map λr=>(r.1,ZH h r.2)
def ZFI{f:Nat}{s:List AV->Nat->List AV->Option (List AV)}(i:ZEs P E f s):Qn P E f (ZEo s):=by
 intro b h v h' e T X w a d c g;unfold ZEo at e;simp only[ZSD,Prod.mk.injEq]at e;obtain⟨⟨v',j⟩,h1,rfl,rfl⟩:=e;exact i b h v' j h1 T X w a d c g
end Go.AM
namespace Go.AM
open Go
variable [Dr]
variable {P:Program} {E E1:Env} {T T2:Ty} {X X2:Xt} {w:World} {h:Hp}
end Go.AM
namespace Go.AM
open Go
variable [Dr]
variable {P:Program} {E E1:Env}
variable {f:Nat}
def ZQI(e:EnvOk P E1)(i:∀g,E1.gl g=E.gl g){s:List AV->Hp->Option (AV×Hp)}(j:∀a h v h',s a h=some (v,h')->YU E1 true f a h=some (v,h')):Qn P E f s:=by
 intro a h v h' n T X w b d c l;obtain⟨k,m⟩:=(Yr<|U5 true f a h).1 (j _ _ _ _ n);exact(TM e k).call true f a h v h' m T X w b d (c.env i) l
def ZOe(g:List AV->Option AV)(a:List AV)(h:Hp):Option (AV×Hp):=bif Z4 a then(g a).map λv=>(v,h)else none
def ZOB(c:EnvOk P E1)(d:∀g,E1.gl g=E.gl g){g:List AV->Option AV}(j:∀a v,g a=some v->pfn E1 f a=some v):Qn P E f (ZOe g):=by
 refine ZQI c d<|λa h v h' b=>?_
 unfold ZOe at b;cases e:Z4 a with
 |false=>rw[e]at b;cases b
 |true=>
  rw[e,cond_true,ZSD]at b;obtain⟨v',i,k⟩:=b;cases k;rw[GD];unfold Ql;rw[e,cond_true,ZM,j a v i,ZM]
def ZP3(E:Env)(n f:Nat)(a:List AV):Option AV:=(Qz E n f a []).bind λr=>YE r.2 r.1
def ZQJ{n f:Nat}{a:List AV}{v:AV}(h:ZP3 E n f a=some v):pfn E f a=some v:=by
 unfold ZP3 at h;obtain⟨r,b,c⟩:=ZUl.1 h;unfold pfn fnV;rw[(Yr<|GC f a []).2 ⟨n,b⟩,ZM];exact c
mutual
def same:AV->AV->Bool
 | .bot,.bot=>true
 | .bool a,.bool b=>a==b
 | .int j a,.int k b=>decide (j=k)&&decide (a=b)
 | .str a,.str b=>decide (a.data.toList=b.data.toList)
 | .nilp,.nilp=>true
 | .nilsl,.nilsl=>true
 | .nilmap,.nilmap=>true
 | .nilfn,.nilfn=>true
 | .nilif,.nilif=>true
 | .agg a,.agg b=>ZOd a b
 | .tup a,.tup b=>ZOd a b
 | .iptr a x,.iptr b y=>a==b&&ZOd x y
 | .isl a b c x,.isl d e f y=>a==d&&(b==e&&(c==f&&ZOd x y))
 |_,_=>false
def ZOd:List AV->List AV->Bool
 |[],[]=>true
 |a::r,b::s=>same a b&&ZOd r s
 |_,_=>false
end
mutual
def same_eq:∀(a b:AV),same a b=true->a=b
 | .bot,b,h=>by cases b<;>first|rfl|(simp[same]at h)
 | .bool a,b,h=>by cases b<;>simp[same]at h;rw[h]
 | .int j a,b,h=>by cases b<;>simp[same]at h;rw[h.1,h.2]
 | .str a,b,h=>by
  cases b<;>simp[same]at h
  exact congrArg AV.str<|ByteArray.ext h
 | .nilp,b,h=>by cases b<;>first|rfl|(simp[same]at h)
 | .nilsl,b,h=>by cases b<;>first|rfl|(simp[same]at h)
 | .nilmap,b,h=>by cases b<;>first|rfl|(simp[same]at h)
 | .nilfn,b,h=>by cases b<;>first|rfl|(simp[same]at h)
 | .nilif,b,h=>by cases b<;>first|rfl|(simp[same]at h)
 | .agg a,b,h=>by cases b<;>simp[same]at h;rw[ZOq _ _ h]
 | .tup a,b,h=>by cases b<;>simp[same]at h;rw[ZOq _ _ h]
 | .iptr a x,b,h=>by cases b<;>simp[same]at h;rw[h.1,ZOq _ _ h.2]
 | .isl a b c x,d,h=>by cases d<;>simp[same]at h;rw[h.1,h.2.1,h.2.2.1,ZOq _ _ h.2.2.2]
 | .imap ..,b,h=>by cases b<;>simp[same]at h
 | .ifc ..,b,h=>by cases b<;>simp[same]at h
 | .clo ..,b,h=>by cases b<;>simp[same]at h
 | .ptr ..,b,h=>by cases b<;>simp[same]at h
 | .sl ..,b,h=>by cases b<;>simp[same]at h
 | .mp _,b,h=>by cases b<;>simp[same]at h
 | .it _,b,h=>by cases b<;>simp[same]at h
 | .yld _,b,h=>by cases b<;>simp[same]at h
def ZOq:∀(a b:List AV),ZOd a b=true->a=b
 |[],[],_=>rfl
 |[],_::_,h=>by simp[ZOd]at h
 |_::_,[],h=>by simp[ZOd]at h
 |a::r,b::s,h=>by
  simp only[ZOd,ZSq]at h;rw[same_eq a b h.1,ZOq r s h.2]
end
def ZOC(l:List<|List AV×AV)(a:List AV):Option AV:=(l.find? λp=>ZOd p.1 a).map (·.2)
def ZP4{l:List (List AV×AV)}(h:∀p∈l,pfn E f p.1=some p.2)(a:List AV)(v:AV)(b:ZOC l a=some v):pfn E f a=some v:=by
 unfold ZOC at b;obtain⟨p,c,rfl⟩:=ZSD.1 b;have d:=ZUI c;rw[<-ZOq _ _ d];exact h p<|ZUm c
def okP(E:Env)(n f:Nat)(a:List AV)(v:AV):Bool:=match ZP3 E n f a with|some x=>same x v|none=>false
def ZO7{n f:Nat}{a:List AV}{v:AV}(h:okP E n f a v=true):pfn E f a=some v:=by
 unfold okP at h;split at h
 .next x e=>rw[<-same_eq _ _ h];exact ZQJ e
 .cases h
end Go.AM
namespace Go.AM
open Go
variable {E:Env}
def emp:ByteArray:=⟨#[]⟩
def B(l:List UInt8):ByteArray:=⟨⟨l⟩⟩
abbrev o(d:Nat)(op:AOp):AOper:=⟨some d,op,none⟩
abbrev og(d:Nat)(op:AOp)(t:Nat)(b:Bool):AOper:=⟨some d,op,some (t,b)⟩
def Su(t:Nat):get [] t=.bot:=rfl
def Sv(k:Nat)(v:AV)(r:Fr)(t:Nat):get ((k,v)::r) t=bif k==t then v else get r t:=rfl
def GG(fr:Fr)(d:Nat)(v:AV):ZB fr (some d) v=(d,v)::fr:=rfl
def RH(fr:Fr)(v:AV):ZB fr none v=fr:=rfl
def Sw(fr:Fr)(t:Nat):ev E fr (.t t)=get fr t:=rfl
def Sx(fr:Fr)(v:AV):ev E fr (.c v)=v:=rfl
def Sy(fr:Fr)(f:Nat):ev E fr (.f f)=.clo (.func f) [] []:=rfl
def SA(fr:Fr):Z2 [] fr=[]:=rfl
def SB(t:Nat)(l:List Nat)(fr:Fr):Z2 (t::l) fr=(t,get fr t)::Z2 l fr:=rfl
def SC(i:Nat):QP i []=[]:=rfl
def SD(i:Nat)(v:AV)(r:List AV):QP i (v::r)=(i,v)::QP (i+1) r:=rfl
def J1(h:Hp)(x:AObj):setH h h.length x=h++[x]:=by
 unfold setH;have:Nat.blt h.length h.length=false:=by rw[ZTW];simp
 rw[this,cond_false]
def SE(n:Nat)(fr:Fr):Xq n fr []=[]:=by
 unfold Xq;cases Zd n (fr.map (·.2))&&X4 n (List.take n [])<;>simp
def GH(fr:Fr)(h:Hp):Xq h.length fr h=h:=by
 unfold Xq;cases Zd h.length (fr.map (·.2))&&X4 h.length (List.take h.length h)<;>simp
def evs(E:Env)(fr:Fr)(l:List Arg):List AV:=l.map<|ev E fr
def SF(fr:Fr):evs E fr []=[]:=rfl
def SG(fr:Fr)(x:Arg)(l:List Arg):evs E fr (x::l)=ev E fr x::evs E fr l:=rfl
noncomputable def sq(E:Env)(b:ACode)(r:Option<|AExit×Fr×Hp):Option (AExit×Fr×Hp):=W4 r λfr h=>Zb E b fr h
def SH(b:ACode)(fr:Fr)(h:Hp):sq E b (some (.normal,fr,h))=Zb E b fr h:=rfl
def SI(b:ACode)(i:Nat)(fr:Fr)(h:Hp):sq E b (some (.exit i,fr,h))=some (.exit i,fr,h):=rfl
def SJ(b:ACode)(fr:Fr)(h:Hp):sq E b (some (.ret,fr,h))=some (.ret,fr,h):=rfl
variable {fr:Fr}{h:Hp}
def SK{a b:ACode}:Zb E (.seq a b) fr h=sq E b (Zb E a fr h):=Sj
noncomputable def cn(E:Env)(a b:ACode)(fr:Fr)(h:Hp)(v:AV):Option (AExit×Fr×Hp):=cnd v (Zb E a fr h)<|Zb E b fr h
def SM(a b:ACode)(fr:Fr)(h:Hp):cn E a b fr h (.bool true)=Zb E a fr h:=rfl
def SN(a b:ACode)(fr:Fr)(h:Hp):cn E a b fr h (.bool false)=Zb E b fr h:=rfl
variable {x:Arg}
def SO{a b:ACode}:Zb E (.cond x a b) fr h=cn E a b fr h (ev E fr x):=Sk
noncomputable def lpc(E:Env)(live:List Nat)(b:ACode)(r:Option<|AExit×Fr×Hp):Option (AExit×Fr×Hp):=W4 r λfr h=>Zb E (.loop live b) fr h
def LH(live:List Nat)(b:ACode)(fr:Fr)(h:Hp):lpc E live b (some (.normal,fr,h))=Zb E (.loop live b) fr h:=rfl
def SP(live:List Nat)(b:ACode)(i:Nat)(fr:Fr)(h:Hp):lpc E live b (some (.exit i,fr,h))=some (.exit i,fr,h):=rfl
def SQ(live:List Nat)(b:ACode)(fr:Fr)(h:Hp):lpc E live b (some (.ret,fr,h))=some (.ret,fr,h):=rfl
def J2{live:List Nat}{b:ACode}:Zb E (.loop live b) fr h=lpc E live b (Zb E b (Z2 live fr) h):=RG
noncomputable def stp(E:Env)(r:List AOper)(d:Option Nat)(fr:Fr)(h:Hp)(v:Option AV):Option (Fr×Hp):=thn v λv=>Z9 E r (ZB fr d v) h
def SR(r:List AOper)(d:Option Nat)(fr:Fr)(h:Hp)(v:AV):stp E r d fr h (some v)=Z9 E r (ZB fr d v) h:=rfl
noncomputable def stw(E:Env)(r:List AOper)(d:Option Nat)(fr:Fr)(x:Option<|AV×Hp):Option (Fr×Hp):=thn x λp=>Z9 E r (ZB fr d p.1) p.2
def LI(r:List AOper)(d:Option Nat)(fr:Fr)(v:AV)(h:Hp):stw E r d fr (some (v,h))=Z9 E r (ZB fr d v) h:=rfl
noncomputable def gst(E:Env)(d:Option Nat)(a:AOp)(r:List AOper)(fr:Fr)(h:Hp)(b:Bool)(v:AV):Option (Fr×Hp):=
 thn (grd v b (opV E ⟨d,a,none⟩ fr h)<|some (ZB fr d<|.tup [],h)) λp=>Z9 E r p.1 p.2
variable {d:Option Nat}{r:List AOper}
def J3{a:AOp}:Z9 E (⟨d,a,none⟩::r) fr h=thn (opV E ⟨d,a,none⟩ fr h) λp=>Z9 E r p.1 p.2:=V9
def SS{a:AOp}{t:Nat}{b:Bool}:Z9 E (⟨d,a,some (t,b)⟩::r) fr h=gst E d a r fr h b (get fr t):=by
 rw[V9,S4];rfl
def LJ(d:Option Nat)(a:AOp)(r:List AOper)(fr:Fr)(h:Hp):gst E d a r fr h true (.bool true)=Z9 E (⟨d,a,none⟩::r) fr h:=by rw[V9];rfl
def LK(d:Option Nat)(a:AOp)(r:List AOper)(fr:Fr)(h:Hp):gst E d a r fr h false (.bool false)=Z9 E (⟨d,a,none⟩::r) fr h:=by rw[V9];rfl
def LL(d:Option Nat)(a:AOp)(r:List AOper)(fr:Fr)(h:Hp):gst E d a r fr h true (.bool false)=Z9 E r (ZB fr d<|.tup []) h:=rfl
def LM(d:Option Nat)(a:AOp)(r:List AOper)(fr:Fr)(h:Hp):gst E d a r fr h false (.bool true)=Z9 E r (ZB fr d<|.tup []) h:=rfl
def ST(d:Option Nat)(a:AOp)(r:List AOper)(fr:Fr)(h:Hp)(b:Bool):gst E d a r fr h b (.tup [])=Z9 E r (ZB fr d<|.tup []) h:=rfl
def QB{a:AOp}{v:Option AV}{rs:AV->List Nat}(c:a.isCall=false)(b:Z8 E fr h h.length a=v.map λx=>(x,rs x,none)):Z9 E (⟨d,a,none⟩::r) fr h=stp E r d fr h v:=by
 rw[J3,GE c,b];cases v<;>rfl
def X9{a:AOp}{v:Option (AV×Hp)}(c:a.isCall=false)(b:(thn (Z8 E fr h h.length a) λx=>some (x.1,ZH h x.2.2))=v):Z9 E (⟨d,a,none⟩::r) fr h=stw E r d fr v:=by
 rw[J3,GE c,<-b];cases Z8 E fr h h.length a<;>rfl
def SU:Z9 E (⟨d,.mv x,none⟩::r) fr h=Z9 E r (ZB fr d<|ev E fr x) h:=
 QB (v:=some<|ev E fr x) (rs:=λ_=>[]) rfl rfl
variable {sz:Nat}
def SV:Z9 E (⟨d,.own sz,none⟩::r) fr h=Z9 E r (ZB fr d<|.sl h.length 0 0 0 false) (h++[.row sz []]):=
 X9 (v:=some (_,h++[.row sz []])) rfl (by simp only[Z8,ZM,ZH,J1])
def SW:Z9 E (⟨d,.mkm,none⟩::r) fr h=Z9 E r (ZB fr d<|.mp h.length) (h++[.map [] []]):=
 X9 (v:=some (_,h++[.map [] []])) rfl (by simp only[Z8,ZM,ZH,J1])
def RI:AV->AV->AV->Option AV
 | .bool true,a,_=>some a
 | .bool false,_,b=>some b
 |_,_,_=>none
def SX(a b:AV):RI (.bool true) a b=some a:=rfl
def SY(a b:AV):RI (.bool false) a b=some b:=rfl
def SZ{c a b:Arg}:Z9 E (⟨d,.pick c a b,none⟩::r) fr h=stp E r d fr h (RI (ev E fr c) (ev E fr a)<|ev E fr b):=
 QB (rs:=λ_=>[]) rfl (by
  simp only[Z8];generalize ev E fr c=v;cases v<;>first|rfl|skip
  case bool b=>cases b<;>rfl)
def A0{f:BinOp}{x y:Arg}:Z9 E (⟨d,.bin f x y,none⟩::r) fr h=stp E r d fr h (YZ f (ev E fr x)<|ev E fr y):=
 QB (rs:=λ_=>[]) rfl rfl
def A1{f:UnOp}:Z9 E (⟨d,.un f x,none⟩::r) fr h=stp E r d fr h (Vy f<|ev E fr x):=
 QB (rs:=λ_=>[]) rfl rfl
def GI(neg:Bool):Option Bool->Option AV
 |some b=>some<|.bool<|bif neg then !b else b
 |none=>none
def A2(b:Bool):GI true (some b)=some (.bool<|!b):=rfl
def A3(b:Bool):GI false (some b)=some (.bool b):=rfl
def A4{neg a:Bool}{b:List Nat}{x y:Arg}:Z9 E (⟨d,.eqv neg a b x y,none⟩::r) fr h=stp E r d fr h (GI neg<|Zz a b (ev E fr x)<|ev E fr y):=
 QB (rs:=λ_=>[]) rfl (by
  simp only[Z8,GI,Zl];cases Zz a b (ev E fr x) (ev E fr y)<;>cases neg<;>rfl)
def RJ:Option IntKind->AV->Option AV
 |some k,.int _ n=>some<|.int k<|k.wrap n
 |none,.str s=>some<|.str s
 |_,_=>none
def A5(k j:IntKind)(n:Int):RJ (some k) (.int j n)=some (.int k<|k.wrap n):=rfl
def A7{k:Option IntKind}:Z9 E (⟨d,.conv k x,none⟩::r) fr h=stp E r d fr h (RJ k<|ev E fr x):=
 QB (rs:=λ_=>[]) rfl (by
  simp only[Z8];generalize ev E fr x=v;cases k<;>cases v<;>rfl)
def LO(i:Nat):AV->Option AV
 | .tup vs=>vs[i]?
 |_=>none
def Aa(i:Nat)(vs:List AV):LO i (.tup vs)=vs[i]?:=rfl
def Ab{i:Nat}:Z9 E (⟨d,.ext x i,none⟩::r) fr h=stp E r d fr h (LO i<|ev E fr x):=
 QB (rs:=λ_=>[]) rfl (by
  simp only[Z8];generalize ev E fr x=v;cases v<;>rfl)
def Ac{fn:Fn}{f c:List Arg}:Z9 E (⟨d,.mkf fn f c,none⟩::r) fr h=Z9 E r (ZB fr d<|.clo fn (evs E fr f)<|evs E fr c) h:=
 QB (v:=some<|.clo fn (evs E fr f)<|evs E fr c) (rs:=λ_=>[]) rfl rfl
def mmV(mx:Bool):AV->AV->Option AV
 | .int k a,.int _ b=>some<|.int k<|bif mx then(if b>a then b else a)else(if b<a then b else a)
 |_,_=>none
def Ae(k j:IntKind)(a b:Int):mmV false (.int k a) (.int j b)=some (.int k<|min a b):=by
 have e:(if b<a then b else a)=min a b:=by omega
 simp only[mmV,cond_false,e]
def Af(k j:IntKind)(a b:Int):mmV true (.int k a) (.int j b)=some (.int k<|max a b):=by
 have e:(if b>a then b else a)=max a b:=by omega
 simp only[mmV,cond_true,e]
def Ag{mx:Bool}{x y:Arg}:Z9 E (⟨d,.mm mx x y,none⟩::r) fr h=stp E r d fr h (mmV mx (ev E fr x)<|ev E fr y):=
 QB (rs:=λ_=>[]) rfl (by
  simp only[Z8];generalize ev E fr x=v;generalize ev E fr y=u;cases v<;>cases u<;>rfl)
def evp(E:Env)(fr:Fr)(ps:List<|Nat×Nat×Arg):List (Nat×Nat×AV):=ps.map λp=>(p.1,p.2.1,ev E fr p.2.2)
def Ah(fr:Fr):evp E fr []=[]:=rfl
def Ai(fr:Fr)(a b:Nat)(x:Arg)(l:List<|Nat×Nat×Arg):evp E fr ((a,b,x)::l)=(a,b,ev E fr x)::evp E fr l:=rfl
def U7:Option (List AV)->Option AV
 |some cs=>some<|.agg cs
 |none=>none
def Aj(cs:List AV):U7 (some cs)=some (.agg cs):=rfl
def Ak{z:List AV}{ps:List (Nat×Nat×Arg)}:Z9 E (⟨d,.build z ps,none⟩::r) fr h=stp E r d fr h (U7<|fill z<|evp E fr ps):=
 QB (rs:=λ_=>[]) rfl (by
  simp only[Z8,Zl,evp,U7];cases fill z (ps.map λp=>(p.1,p.2.1,ev E fr p.2.2))<;>rfl)
def evq(E:Env)(fr:Fr)(ps:List<|Nat×Arg):List (Nat×AV):=ps.map λp=>(p.1,ev E fr p.2)
def Al(fr:Fr):evq E fr []=[]:=rfl
def Am(fr:Fr)(a:Nat)(x:Arg)(l:List<|Nat×Arg):evq E fr ((a,x)::l)=(a,ev E fr x)::evq E fr l:=rfl
def GJ(a:Bool)(sz:Nat)(z:AV):Option (List AV)->Option AV
 |some es=>bif fits sz z&&Z4 es then some (.isl false a sz es)else none
 |none=>none
def Ao(a:Bool)(sz:Nat)(z:AV)(es:List AV)(b:fits sz z=true)(c:Z4 es=true):GJ a sz z (some es)=some (.isl false a sz es):=by simp[GJ,b,c]
variable {z:AV}{n:Nat}
def Ap{a:Bool}{ps:List (Nat×Arg)}:Z9 E (⟨d,.bsl true a sz z n ps,none⟩::r) fr h=stp E r d fr h (GJ a sz z<|YC sz (List.replicate n z)<|evq E fr ps):=
 QB (rs:=λ_=>[]) rfl (by
  simp only[Z8,evq,GJ];cases YC sz (List.replicate n z) (ps.map λp=>(p.1,ev E fr p.2))with
  |none=>rfl
  |some es=>
   simp only[cond_true];cases fits sz z<;>cases Z4 es<;>rfl)
def GK(ex:Bool)(h:Hp)(sz:Nat)(z:AV)(n:Nat):Option (List AV)->Option (AV×Hp)
 |some es=>bif fits sz z then some (.sl h.length n 0 n<|!ex,h++[.row sz es])else none
 |none=>none
def Aq(h:Hp)(sz:Nat)(z:AV)(n:Nat)(es:List AV)(h1:fits sz z=true):GK false h sz z n (some es)=some (.sl h.length n 0 n true,h++[.row sz es]):=by simp[GK,h1]
def ZMd(h:Hp)(sz:Nat)(z:AV)(n:Nat)(es:List AV)(h1:fits sz z=true):GK true h sz z n (some es)=some (.sl h.length n 0 n false,h++[.row sz es]):=by simp[GK,h1]
def Ar{ex:Bool}{ps:List (Nat×Arg)}:Z9 E (⟨d,.bsl false ex sz z n ps,none⟩::r) fr h=stw E r d fr (GK ex h sz z n<|YC sz (List.replicate n z)<|evq E fr ps):=
 X9 rfl (by
  simp only[Z8,evq,GK];cases YC sz (List.replicate n z) (ps.map λp=>(p.1,ev E fr p.2))with
  |none=>rfl
  |some es=>
   simp only[cond_false];cases fits sz z
   .rfl
   .simp only[cond_true,ZM,ZH,J1])
def rowAt(h:Hp)(b g:Nat):Option (Nat×List AV):=match h[b]? with|some (.row sz es)=>bif es.length==g then some (sz,es)else none|_=>none
def rowAt_zero(sz:Nat)(es:List AV)(h:Hp)(g:Nat):rowAt (.row sz es::h) 0 g=bif es.length==g then some (sz,es)else none:=rfl
def Au(x:AObj)(h:Hp)(b g:Nat):rowAt (x::h) (b+1) g=rowAt h b g:=rfl
def Av(h:Hp)(sz:Nat)(es:List AV)(g:Nat):rowAt (h++[.row sz es]) h.length g=bif es.length==g then some (sz,es)else none:=by simp[rowAt]
def ldE(n:Option Nat)(i off:Nat):Option (Nat×List AV)->Option AV
 |some (_,es)=>thn es[i]? λe=>takeC n<|e.cells.drop off
 |none=>none
def ldQ(n:Option Nat)(off:Nat):Option AV->Option AV
 |some e=>takeC n<|e.cells.drop off
 |none=>none
def Aw(n:Option Nat)(off:Nat)(e:AV):ldQ n off (some e)=takeC n (e.cells.drop off):=rfl
def Ax(n:Option Nat)(i off sz:Nat)(es:List AV):ldE n i off (some (sz,es))=ldQ n off es[i]?:=by
 simp only[ldE,ldQ];cases es[i]?<;>rfl
def ldV(h:Hp)(n:Option Nat):AV->Option AV
 | .iptr _ cs=>takeC n cs
 | .ptr b i off g=>ldE n i off<|rowAt h b g
 |_=>none
def Ay(h:Hp)(n:Option Nat)(bw:Bool)(cs:List AV):ldV h n (.iptr bw cs)=takeC n cs:=rfl
def Az(h:Hp)(n:Option Nat)(b i off g:Nat):ldV h n (.ptr b i off g)=ldE n i off (rowAt h b g):=rfl
def AA{n:Option Nat}:Z9 E (⟨d,.load n x,none⟩::r) fr h=stp E r d fr h (ldV h n<|ev E fr x):=
 QB (rs:=λ_=>match ev E fr x with| .ptr b _ _ _=>[b]|_=>[]) rfl (by
  simp only[Z8];generalize ev E fr x=v;cases v<;>first|rfl|skip
  case ptr b i off g=>
   simp only[ldV,rowAt];cases h[b]? with
   |none=>rfl
   |some o=>
    cases o<;>first|rfl|skip
    case row sz es=>
     dsimp only;cases(es.length==g)
     .rfl
     .simp only[cond_true,ldE];cases es[i]?<;>rfl)
def ckV(h:Hp):AV->Option AV
 | .iptr bw cs=>some<|.iptr bw cs
 | .ptr b i off g=>match rowAt h b g with|some _=>some (.ptr b i off g)|none=>none
 | .clo (.func f) a c=>some<|.clo (.func f) a c
 |_=>none
def AB(h:Hp)(bw:Bool)(cs:List AV):ckV h (.iptr bw cs)=some (.iptr bw cs):=rfl
def ckP(b i off g:Nat):Option (Nat×List AV)->Option AV
 |some _=>some<|.ptr b i off g
 |none=>none
def AD(b i off g:Nat)(p:Nat×List AV):ckP b i off g (some p)=some (.ptr b i off g):=rfl
def AE(h:Hp)(b i off g:Nat):ckV h (.ptr b i off g)=ckP b i off g (rowAt h b g):=by
 simp only[ckV,ckP]
def AF:Z9 E (⟨d,.nilck x,none⟩::r) fr h=stp E r d fr h (ckV h<|ev E fr x):=
 QB (rs:=λ_=>match ev E fr x with| .ptr b _ _ _=>[b]|_=>[]) rfl (by
  simp only[Z8];generalize ev E fr x=v;cases v<;>first|rfl|(rename_i fn _ _;cases fn<;>rfl)|skip
  case ptr b i off g=>
   simp only[ckV,rowAt];cases h[b]? with
   |none=>rfl
   |some o=>
    cases o<;>first|rfl|skip
    case row sz es=>dsimp only;cases(es.length==g)<;>rfl)
def faV(h:Hp)(k:Nat):AV->Option AV
 | .iptr bw cs=>some<|.iptr bw<|cs.drop k
 | .ptr b i off g=>ckP b i (off+k) g<|rowAt h b g
 |_=>none
def AG(h:Hp)(k:Nat)(bw:Bool)(cs:List AV):faV h k (.iptr bw cs)=some (.iptr bw<|cs.drop k):=rfl
def AH(h:Hp)(k b i off g:Nat):faV h k (.ptr b i off g)=ckP b i (off+k) g (rowAt h b g):=rfl
def AI{k:Nat}:Z9 E (⟨d,.fadr k x,none⟩::r) fr h=stp E r d fr h (faV h k<|ev E fr x):=
 QB (rs:=λ_=>match ev E fr x with| .ptr b _ _ _=>[b]|_=>[]) rfl (by
  simp only[Z8];generalize ev E fr x=v;cases v<;>first|rfl|skip
  case ptr b i off g=>
   simp only[faV,rowAt,ckP];cases h[b]? with
   |none=>rfl
   |some o=>
    cases o<;>first|rfl|skip
    case row sz es=>dsimp only;cases(es.length==g)<;>rfl)
def ixG(es:List AV)(n:Int):Option AV:=if 0<=n then es[n.toNat]? else none
def LP(es:List AV)(n:Nat):ixG es (n:Int)=es[n]?:=by simp[ixG]
def RK(b:List AV)(x:AV)(a:List AV):ixG (b++x::a) (b.length:Int)=some x:=by simp[ixG]
def iaE(bw:Bool)(sz a:Nat):Option AV->Option AV
 |some e=>bif a==sz then some (.iptr bw e.cells)else none
 |none=>none
def AJ(bw:Bool)(sz:Nat)(e:AV):iaE bw sz sz (some e)=some (.iptr bw e.cells):=by simp[iaE]
def iaP(b g off sz:Nat)(n:Int)(a:Nat):Option (Nat×List AV)->Option AV
 |some (sz',_)=>if 0<=n/\n<(a:Int)then(bif sz'==sz then some (.ptr b (off+n.toNat) 0 g)else none)else none
 |none=>none
def VT(b g off sz:Nat)(n:Int)(a:Nat)(es:List AV)(c:0<=n/\n<(a:Int)):iaP b g off sz n a (some (sz,es))=some (.ptr b (off+n.toNat) 0 g):=by simp[iaP,c]
def iaV(h:Hp)(sz:Nat):AV->AV->Option AV
 | .isl bw _ sz' es,.int _ n=>iaE bw sz sz'<|ixG es n
 | .sl b g off len _,.int _ n=>iaP b g off sz n len<|rowAt h b g
 |_,_=>none
def AK(h:Hp)(sz:Nat)(bw b:Bool)(a:Nat)(es:List AV)(k:IntKind)(n:Int):iaV h sz (.isl bw b a es) (.int k n)=iaE bw sz a (ixG es n):=rfl
def AL(h:Hp)(sz b g off a:Nat)(c:Bool)(k:IntKind)(n:Int):iaV h sz (.sl b g off a c) (.int k n)=iaP b g off sz n a (rowAt h b g):=rfl
def AN{x i:Arg}:Z9 E (⟨d,.iadr sz x i,none⟩::r) fr h=stp E r d fr h (iaV h sz (ev E fr x)<|ev E fr i):=
 QB (rs:=λ_=>match ev E fr x with| .sl b _ _ _ _=>[b]|_=>[]) rfl (by
  simp only[Z8];generalize ev E fr x=v;generalize ev E fr i=u;cases v<;>cases u<;>first|rfl|skip
  case isl.int bw ex sz' es k n=>
   simp only[iaV,ixG,iaE];by_cases a:0<=n
   .rw[if_pos a,if_pos a];cases es[n.toNat]? with
    |none=>rfl
    |some e=>simp only;cases(sz'==sz)<;>rfl
   .rw[if_neg a,if_neg a];rfl
  case sl.int b g off c ex k n=>
   simp only[iaV,rowAt];by_cases a:0<=n/\n<(c:Int)
   .rw[if_pos a];cases h[b]? with
    |none=>rfl
    |some o=>
     cases o<;>first|rfl|skip
     case row sz' es=>
      simp only;cases(es.length==g)<;>cases f:(sz'==sz)<;>simp[iaP,a,f]
   .rw[if_neg a];cases h[b]? with
    |none=>rfl
    |some o=>
     cases o<;>first|rfl|skip
     case row sz' es=>
      simp only;cases(es.length==g)<;>simp[iaP,a])
def aaV(h:Hp)(sz a:Nat):AV->AV->Option AV
 | .iptr bw cs,.int _ n=>if 0<=n/\n<(a:Int)then some (.iptr bw<|cs.drop<|n.toNat*sz)else none
 | .ptr b j off g,.int _ n=>if 0<=n/\n<(a:Int)then ckP b j (off+n.toNat*sz) g (rowAt h b g)else none
 |_,_=>none
def AO(h:Hp)(sz a:Nat)(bw:Bool)(cs:List AV)(k:IntKind)(n:Int):aaV h sz a (.iptr bw cs) (.int k n)=if 0<=n/\n<(a:Int)then some (.iptr bw<|cs.drop<|n.toNat*sz)else none:=rfl
def AP(h:Hp)(sz a b j off g:Nat)(k:IntKind)(n:Int):aaV h sz a (.ptr b j off g) (.int k n)=if 0<=n/\n<(a:Int)then ckP b j (off+n.toNat*sz) g (rowAt h b g)else none:=rfl
def AQ{sz a:Nat}{x i:Arg}:Z9 E (⟨d,.aadr sz a x i,none⟩::r) fr h=stp E r d fr h (aaV h sz a (ev E fr x)<|ev E fr i):=
 QB (rs:=λ_=>match ev E fr x with| .ptr b _ _ _=>[b]|_=>[]) rfl (by
  simp only[Z8];generalize ev E fr x=v;generalize ev E fr i=u;cases v<;>cases u<;>first|rfl|skip
  case iptr.int bw cs k n=>
   simp only[aaV];split<;>rfl
  case ptr.int b j off g k n=>
   simp only[aaV,rowAt,ckP];cases h[b]? with
   |none=>simp
   |some o=>
    cases o<;>first|(simp;done)|skip
    case row sz' es=>
     simp only;cases(es.length==g)<;>by_cases c:0<=n/\n<(a:Int)<;>simp[c])
def aiV(n:Option Nat)(sz a:Nat):AV->AV->Option AV
 | .agg cs,.int _ k=>if 0<=k/\k<(a:Int)then takeC n (cs.drop<|k.toNat*sz)else none
 |_,_=>none
def LQ(n:Option Nat)(sz a:Nat)(cs:List AV)(j:IntKind)(k:Int):aiV n sz a (.agg cs) (.int j k)=if 0<=k/\k<(a:Int)then takeC n (cs.drop<|k.toNat*sz)else none:=rfl
def AR{n:Option Nat}{sz a:Nat}{x i:Arg}:Z9 E (⟨d,.aidx n sz a x i,none⟩::r) fr h=stp E r d fr h (aiV n sz a (ev E fr x)<|ev E fr i):=
 QB (rs:=λ_=>[]) rfl (by
  simp only[Z8];generalize ev E fr x=v;generalize ev E fr i=u;cases v<;>cases u<;>first|rfl|skip
  simp only[aiV];split<;>rfl)
def siV:AV->AV->Option AV
 | .str s,.int _ n=>if 0<=n then(s.data[n.toNat]?).map λb=>.int .u8 b.toNat else none
 |_,_=>none
def AS(s:ByteArray)(k:IntKind)(n:Int):siV (.str s) (.int k n)=if 0<=n then(s.data[n.toNat]?).map λb=>.int .u8 b.toNat else none:=rfl
def AT{x i:Arg}:Z9 E (⟨d,.sidx x i,none⟩::r) fr h=stp E r d fr h (siV (ev E fr x)<|ev E fr i):=
 QB (rs:=λ_=>[]) rfl (by
  simp only[Z8];generalize ev E fr x=v;generalize ev E fr i=u;cases v<;>cases u<;>first|rfl|skip
  case str.int s k n=>
   simp only[siV,Zl];split
   .cases s.data[n.toNat]?<;>rfl
   .rfl)
def lnP(a:Nat):Option (Nat×List AV)->Option AV
 |some _=>some<|.int .i64 a
 |none=>none
def AU(a:Nat)(p:Nat×List AV):lnP a (some p)=some (.int .i64 a):=rfl
def lnM(h:Hp)(b:Nat):Option AV:=match h[b]? with|some (.map ks _)=>some (.int .i64 ks.length)|_=>none
def lnV(h:Hp):Nat->AV->Option AV
 |0,.str s=>some<|.int .i64 s.size
 |1,.nilsl=>some<|.int .i64 0
 |1,.isl _ _ _ es=>some<|.int .i64 es.length
 |1,.sl b g _ len _=>lnP len<|rowAt h b g
 |2,.nilmap=>some<|.int .i64 0
 |2,.imap _ ks _=>some<|.int .i64 ks.length
 |2,.mp b=>lnM h b
 |_,_=>none
def AW(h:Hp)(s:ByteArray):lnV h 0 (.str s)=some (.int .i64 s.size):=rfl
def AX(h:Hp)(bw a:Bool)(sz:Nat)(es:List AV):lnV h 1 (.isl bw a sz es)=some (.int .i64 es.length):=rfl
def AY(h:Hp)(b g off a:Nat)(c:Bool):lnV h 1 (.sl b g off a c)=lnP a (rowAt h b g):=rfl
def AZ(h:Hp)(b:Nat):lnV h 2 (.mp b)=lnM h b:=rfl
def E1{k:Nat}:Z9 E (⟨d,.len k x,none⟩::r) fr h=stp E r d fr h (lnV h k<|ev E fr x):=
 QB (rs:=λ_=>match ev E fr x with| .sl b _ _ _ _=>[b]| .mp b=>[b]|_=>[]) rfl (by
  simp only[Z8];generalize ev E fr x=v;rcases k with _|_|_|k<;>cases v<;>first|rfl|skip
  case succ.zero.sl b g off len ex=>
   simp only[VC,cond_true,X1,lnV,rowAt,lnP];cases h[b]? with
   |none=>rfl
   |some o=>
    cases o<;>first|rfl|skip
    case row sz es=>dsimp only;cases(es.length==g)<;>rfl
  case succ.succ.zero.mp b=>
   simp only[VC,cond_true,X1,lnV,lnM];cases h[b]? with
   |none=>rfl
   |some o=>cases o<;>rfl)
def GL(h:Hp)(sz:Nat)(v:AV):Option (AV×Hp):=bif fits sz v then some (.ptr h.length 0 0 1,h++[.row sz [v]])else none
def E2(h:Hp)(sz:Nat)(v:AV)(a:fits sz v=true):GL h sz v=some (.ptr h.length 0 0 1,h++[.row sz [v]]):=by simp[GL,a]
def E3:Z9 E (⟨d,.box sz x,none⟩::r) fr h=stw E r d fr (GL h sz<|ev E fr x):=
 X9 rfl (by
  simp only[Z8,GL];cases fits sz (ev E fr x)
  .rfl
  .simp only[cond_true,ZM,ZH,J1])
def Va(h:Hp)(sz:Nat)(v:AV):Option (AV×Hp):=bif fits sz v then(bif Z4 v.cells then some (.iptr false v.cells,h)else bif Zi v.cells then some (.iptr true v.cells,h)else some (.ptr h.length 0 0 1,h++[.row sz [v]]))else none
def E4(h:Hp)(sz:Nat)(v:AV)(a:fits sz v=true)(b:Z4 v.cells=true):Va h sz v=some (.iptr false v.cells,h):=by simp[Va,a,b]
def E6(h:Hp)(sz:Nat)(v:AV)(a:fits sz v=true)(c:Z4 v.cells=false)(b:Zi v.cells=false):Va h sz v=some (.ptr h.length 0 0 1,h++[.row sz [v]]):=by simp[Va,a,c,b]
def E7:Z9 E (⟨d,.ibox sz x,none⟩::r) fr h=stw E r d fr (Va h sz<|ev E fr x):=
 X9 rfl (by
  simp only[Z8,Va];cases fits sz (ev E fr x)
  .rfl
  .simp only[cond_true];cases Z4 (ev E fr x).cells
   .simp only[cond_false];cases Zi (ev E fr x).cells
    .simp only[cond_false,ZM,ZH,J1]
    .rfl
   .rfl)
def stE(off n:Nat)(v:AV):AV->Option AV
 | .agg old=>bif Nat.ble (off+n) old.length then some (.agg<|old.take off++v.cells++old.drop (off+n))else none
 |_=>match v.cells with|[c]=>bif off==0 then some c else none|_=>none
def E8(off n:Nat)(v:AV)(a:List AV):stE off n v (.agg a)=bif Nat.ble (off+n) a.length then some (.agg<|a.take off++v.cells++a.drop (off+n))else none:=rfl
def stS(h:Hp)(b sz:Nat)(es:List AV)(i:Nat):Option AV->Option (AV×Hp)
 |some e=>some (.bot,setH h b<|.row sz<|es.set i e)
 |none=>none
def E9(h:Hp)(b sz:Nat)(es:List AV)(i:Nat)(e:AV):stS h b sz es i (some e)=some (.bot,setH h b<|.row sz<|es.set i e):=rfl
def stO(off n:Nat)(v:AV):Option AV->Option AV
 |some e=>stE off n v e
 |none=>none
def Ea(off n:Nat)(v e:AV):stO off n v (some e)=stE off n v e:=rfl
def stP(h:Hp)(b i off n:Nat)(v:AV):Option (Nat×List AV)->Option (AV×Hp)
 |some (sz,es)=>bif fits n v then stS h b sz es i (stO off n v es[i]?)else none
 |none=>none
def Eb(h:Hp)(b i off n:Nat)(v:AV)(sz:Nat)(es:List AV)(a:fits n v=true):stP h b i off n v (some (sz,es))=stS h b sz es i (stO off n v es[i]?):=by simp[stP,a]
def stV(h:Hp)(n:Nat)(v:AV):AV->Option (AV×Hp)
 | .ptr b i off g=>stP h b i off n v<|rowAt h b g
 |_=>none
def Ec(h:Hp)(n:Nat)(v:AV)(b i off g:Nat):stV h n v (.ptr b i off g)=stP h b i off n v (rowAt h b g):=rfl
def LR{a x:Arg}:Z9 E (⟨d,.store n a x,none⟩::r) fr h=stw E r d fr (stV h n (ev E fr x)<|ev E fr a):=
 X9 rfl (by
  simp only[Z8];generalize ev E fr a=u;generalize ev E fr x=v;cases u<;>first|rfl|skip
  case ptr b i off g=>
   simp only[stV,rowAt];cases h[b]? with
   |none=>rfl
   |some o=>
    cases o<;>first|rfl|skip
    case row sz es=>
     simp only;cases(es.length==g)
     .rfl
     .cases f:fits n v
      .simp[stP,f,thn]
      .simp only[ZTl,cond_true,stP,f];cases es[i]? with
       |none=>rfl
       |some e=>
        rcases hc:v.cells with _|⟨c,_|⟨c2,cs⟩⟩<;>cases e<;>simp only[stO,stE,hc]<;>first
         |rfl
         |(generalize Nat.ble (off+n) _=q;cases q<;>rfl)
         |(generalize(off==0)=q;cases q<;>rfl))
def GM(x y:AObj)(h:Hp):setH (x::h) 0 y=y::h:=rfl
def GN(x y:AObj)(h:Hp)(b:Nat):setH (x::h) (b+1) y=x::setH h b y:=by
 unfold setH;have e:Nat.blt (b+1) (x::h).length=Nat.blt b h.length:=by
  rw[ZUJ];simp[ZTw]
 rw[e];cases Nat.blt b h.length<;>rfl
def slF(h:Hp)(sz:Nat)(x:AV):Option (Nat×Nat×Option Nat)->Option AV
 |some (l,hh,m)=>
  match x with
  | .nilsl=>some .nilsl
  | .isl bw ex sz' es=>bif sz'==sz then some (.isl bw (match m with|none=>ex&&hh==es.length|some m=>m==hh) sz<|(es.drop l).take (hh-l))else none
  | .sl b g off len ex=>(match rowAt h b g with|some (sz',_)=>bif sz'==sz then some (.sl b g (off+l) (hh-l) (match m with|none=>ex&&hh==len|some m=>m==hh))else none|none=>none)
  |_=>none
 |none=>none
def Ed(h:Hp)(sz:Nat)(bw b:Bool)(es:List AV)(l a:Nat)(m:Option Nat):slF h sz (.isl bw b sz es) (some (l,a,m))=some (.isl bw (match m with|none=>b&&a==es.length|some m=>m==a) sz<|(es.drop l).take (a-l)):=by simp[slF]
def GO:AV->Option Nat
 | .nilsl=>some 0
 | .isl _ _ _ es=>some es.length
 | .sl _ _ _ len _=>some len
 |_=>none
def evo(E:Env)(fr:Fr)(x:Option Arg):Option AV:=x.map<|ev E fr
def Ee(fr:Fr):evo E fr none=none:=rfl
def Ef(fr:Fr)(x:Arg):evo E fr (some x)=some (ev E fr x):=rfl
def slV(h:Hp)(sz:Nat)(x:AV)(a b mx:Option AV):Option AV:=thn (GO x) λn=>slF h sz x<|bounds a b mx n
def Eg(h:Hp)(sz:Nat)(bw b:Bool)(a:Nat)(es:List AV)(c d mx:Option AV):slV h sz (.isl bw b a es) c d mx=slF h sz (.isl bw b a es) (bounds c d mx es.length):=rfl
def Eh(h:Hp)(sz b g off a:Nat)(c:Bool)(d e mx:Option AV):slV h sz (.sl b g off a c) d e mx=slF h sz (.sl b g off a c) (bounds d e mx a):=rfl
def Ei{c a mx:Option Arg}:Z9 E (⟨d,.slc sz x c a mx,none⟩::r) fr h=stp E r d fr h (slV h sz (ev E fr x) (evo E fr c) (evo E fr a)<|evo E fr mx):=
 QB (rs:=λ_=>match ev E fr x with| .sl b _ _ _ _=>[b]|_=>[]) rfl (by
  simp only[Z8,evo];generalize ev E fr x=v;generalize c.map (ev E fr)=lo';generalize a.map (ev E fr)=hi';generalize mx.map (ev E fr)=mx';cases v<;>first|rfl|skip
  case nilsl=>
   simp only[slV,GO,ZM];cases bounds lo' hi' mx' 0<;>rfl
  case isl bw ex sz' es=>
   simp only[slV,GO,ZM];cases bounds lo' hi' mx' es.length with
   |none=>rfl
   |some p=>
    obtain⟨l,f,m⟩:=p;simp only[slF];cases(sz'==sz)<;>rfl
  case sl b g off len ex=>
   simp only[slV,GO,ZM];cases bounds lo' hi' mx' len with
   |none=>rfl
   |some p=>
    obtain⟨l,f,m⟩:=p;simp only[slF,rowAt];cases h[b]? with
    |none=>rfl
    |some o=>
     cases o<;>first|rfl|skip
     case row sz' es=>
      simp only;cases(es.length==g)<;>cases e:(sz'==sz)<;>simp[e]<;>cases m<;>rfl)
def ssF(s:ByteArray):Option (Nat×Nat×Option Nat)->Option AV
 |some (l,hh,_)=>some<|.str<|s.extract l hh
 |none=>none
def Ej(s:ByteArray)(l a:Nat)(m:Option Nat):ssF s (some (l,a,m))=some (.str<|s.extract l a):=rfl
def ssV(x:AV)(a b:Option AV):Option AV:=match x with| .str s=>ssF s (bounds a b none s.size)|_=>none
def Ek(s:ByteArray)(a b:Option AV):ssV (.str s) a b=ssF s (bounds a b none s.size):=rfl
def El{a b:Option Arg}:Z9 E (⟨d,.ssl x a b,none⟩::r) fr h=stp E r d fr h (ssV (ev E fr x) (evo E fr a)<|evo E fr b):=
 QB (rs:=λ_=>[]) rfl (by
  simp only[Z8,evo];generalize ev E fr x=v;generalize a.map (ev E fr)=lo';generalize b.map (ev E fr)=hi';cases v<;>first|rfl|skip
  case str s=>
   simp only[ssV];cases bounds lo' hi' none s.size<;>rfl)
def appW(h:Hp)(fz:Bool)(sz a:Nat)(s x:AV):Option (AV×Hp):=thn (Qt h h.length fz sz a s x) λr=>some (r.1,ZH h r.2.2)
def Em{fz:Bool}{sz a:Nat}{s x:Arg}:Z9 E (⟨d,.app fz sz a s x,none⟩::r) fr h=stw E r d fr (appW h fz sz a (ev E fr s)<|ev E fr x):=
 X9 rfl rfl
def Zwk(h:Hp)(sz a:Nat)(s x:AV):Option Zt:=match Qt h h.length false sz a s x with|some r=>ZvE h r|none=>none
def ZwE(h:Hp)(sz a:Nat)(s x:AV):Option (AV×Hp):=thn (Zwk h sz a s x) λr=>some (r.1,ZH h r.2.2)
def Zzq{sz a:Nat}{s x:Arg}:Z9 E (⟨d,.apr sz a s x,none⟩::r) fr h=stw E r d fr (ZwE h sz a (ev E fr s)<|ev E fr x):=
 X9 rfl rfl
attribute [go_sem] Zzq
def ZGJ{sz a:Nat}{s x:Arg}:Z9 E (⟨d,.apa sz a s x,none⟩::r) fr h=stw E r d fr (ZE9 h sz a (ev E fr s)<|ev E fr x):=by
 rw[J3,ZGD];unfold stw;cases ZE9 h sz a (ev E fr s) (ev E fr x)<;>rfl
attribute [go_sem] ZGJ
def W5(h:Hp)(c:Bool)(a:List Nat)(d:Bool)(z:AV)(m k:AV):Option AV:=
 match m with
 | .nilmap=>(QW c a d z [] [] [] k).map (·.1)
 | .imap _ ks vs=>(QW c a d z [] ks vs k).map (·.1)
 | .mp b=>(match h[b]? with|some (.map ks vs)=>(QW c a d z [b] ks vs k).map (·.1)|_=>none)
 |_=>none
variable {a:List Nat}{c:Bool}
def LS{e:Bool}{rs:List Nat}{d vs:List AV}{k:AV}:QW c a e z rs d vs k=((QW c a e z rs d vs k).map (·.1)).map λx=>(x,rs,none):=by
 unfold QW;cases Zz c a k k with
 |none=>rfl
 |some b=>
  cases ZW c a k d 0 with
  |none=>rfl
  |some o=>
   cases o with
   |none=>rfl
   |some i=>simp only;cases vs[i]?<;>rfl
def En{e:Bool}{m k:Arg}:Z9 E (⟨d,.lkp c a e z m k,none⟩::r) fr h=stp E r d fr h (W5 h c a e z (ev E fr m)<|ev E fr k):=
 QB (rs:=λ_=>match ev E fr m with| .mp b=>[b]|_=>[]) rfl (by
  simp only[Z8];generalize ev E fr m=v;generalize ev E fr k=u;cases v<;>first|rfl|exact LS|skip
  case mp b=>
   simp only[W5];cases h[b]? with
   |none=>rfl
   |some o=>cases o<;>first|rfl|exact LS)
def YK(h:Hp)(c:Bool)(a:List Nat)(m k v:AV):Option (AV×Hp):=
 match m with
 | .mp b=>(match h[b]? with|some (.map ks vs)=>thn (Yo c a b ks vs k v) λr=>some (r.1,ZH h r.2.2)|_=>none)
 |_=>none
def Eo{m k v:Arg}:Z9 E (⟨d,.mupd c a m k v,none⟩::r) fr h=stw E r d fr (YK h c a (ev E fr m) (ev E fr k)<|ev E fr v):=
 X9 rfl (by
  simp only[Z8,YK];generalize ev E fr m=x;cases x<;>first|rfl|skip
  case mp b=>
   simp only;cases h[b]? with
   |none=>rfl
   |some o=>cases o<;>rfl)
def Ep{m k v:Arg}:Z9 E (⟨d,.ins c a m k v,none⟩::r) fr h=stw E r d fr (YK h c a (ev E fr m) (ev E fr k)<|ev E fr v):=
 X9 rfl (by
  simp only[Z8,YK];generalize ev E fr m=x;cases x<;>first|rfl|skip
  case mp b=>
   simp only;cases h[b]? with
   |none=>rfl
   |some o=>cases o<;>rfl)
def Er:Z9 E (⟨d,.rng x,none⟩::r) fr h=stw E r d fr (match ev E fr x with| .str s=>some (.it h.length,h++[.iter s 0])|_=>none):=
 X9 rfl (by
  simp only[Z8];generalize ev E fr x=v;cases v<;>first|rfl|simp only[ZM,ZH,J1])
def U8(h:Hp)(v:AV):Option (AV×Hp):=
 match v with
 | .it b=>
  (match h[b]? with
   |some (.iter s pos)=>bif Nat.blt pos s.size then some (.tup [.bool true,.int .i64 pos,.int .i32 (Utf8.decode s pos).1],setH h b<|.iter s<|pos+(Utf8.decode s pos).2)else some (.tup [.bool false],h)
   |_=>none)
 |_=>none
def Es:Z9 E (⟨d,.nxt x,none⟩::r) fr h=stw E r d fr (U8 h<|ev E fr x):=
 X9 rfl (by
  simp only[Z8,U8];generalize ev E fr x=v;cases v<;>first|rfl|skip
  case it b=>
   simp only;cases h[b]? with
   |none=>rfl
   |some o=>
    cases o<;>first|rfl|skip
    case iter s pos=>simp only;cases Nat.blt pos s.size<;>rfl)
noncomputable def pcl(E:Env)(f:Nat)(as:Option<|List AV):Option AV:=thn as λas=>pfn E f as
def Et(f:Nat)(as:List AV):pcl E f (some as)=pfn E f as:=rfl
def Eu(h:Hp)(as:List AV)(a:Z4 as=true):Ql h as=some as:=by simp[Ql,a]
def ZDW(h:Hp)(as:List AV)(a:Z4 as=false):Ql h as=ZC true h 40 as:=by simp[Ql,a]
variable {f:Nat}
def Ew{a:List Arg}:Z9 E (⟨d,.call true f a,none⟩::r) fr h=stp E r d fr h (pcl E f<|Ql h<|evs E fr a):=by
 rw[J3,RE,GD];unfold evs pcl stp;cases Ql h (a.map<|ev E fr)with
 |none=>rfl
 |some as=>
  simp only[ZM];cases pfn E f as<;>rfl
def Ex{a:List Arg}:Z9 E (⟨d,.call false f a,none⟩::r) fr h=stw E r d fr (fnV E f (evs E fr a) h):=by
 rw[J3,RE,LE];unfold evs stw;cases fnV E f (a.map<|ev E fr) h<;>rfl
noncomputable def pcv(E:Env)(h:Hp)(a:List AV)(f:AV):Option AV:=
 match f with
 | .clo (.func g) first cap=>pcl E g<|Ql h<|first++a++cap
 |_=>none
def LT(h:Hp)(a:List AV)(g:Nat)(first cap:List AV):pcv E h a (.clo (.func g) first cap)=pcl E g (Ql h<|first++a++cap):=rfl
def LU{p:Bool}{f:AV}{d:List AV}(e:∀g a c,f≠.clo (.func g) a c)(i:∀b,f=.yld b->p=true):Xy E p f d h=none:=by
 unfold Xy;refine U3 λn=>?_
 cases n with
 |zero=>rfl
 |succ n=>
  cases f with
  |clo fn a c=>cases fn<;>first|exact absurd rfl (e _ _ _)|rfl
  |yld b=>rw[i b rfl];rfl
  |_=>rfl
def Ey{b:List Arg}:Z9 E (⟨d,.callv true x b,none⟩::r) fr h=stp E r d fr h (pcv E h (evs E fr b)<|ev E fr x):=by
 rw[J3,RF];unfold evs;generalize ev E fr x=v;generalize b.map (ev E fr)=as;by_cases f:∃g a c,v=.clo (.func g) a c
 .obtain⟨g,a,c,rfl⟩:=f;rw[RD,GD,LT];unfold pcl stp;cases Ql h (a++as++c)with
  |none=>rfl
  |some i=>
   simp only[ZM];cases pfn E g i<;>rfl
 .rw[LU (λg a c e=>f ⟨g,a,c,e⟩)<|λ_ _=>rfl]
  have:pcv E h as v=none:=by
   unfold pcv;split
   .next g a c=>exact absurd ⟨g,a,c,rfl⟩ f
   .rfl
  rw[this];rfl
def Ez{a:List Arg}:Z9 E (⟨d,.callv false x a,none⟩::r) fr h=stw E r d fr (Xy E false (ev E fr x) (evs E fr a) h):=by
 rw[J3,RF];unfold evs stw;cases Xy E false (ev E fr x) (a.map<|ev E fr) h<;>rfl
def RL{g:Nat}{first cap a:List AV}:Xy E false (.clo (.func g) first cap) a h=fnV E g (first++a++cap) h:=by rw[RD,LE]
def frz(r:Option<|AV×Hp):Option AV:=thn r λr=>YE r.2 r.1
def EA(v:AV)(h:Hp):frz (some (v,h))=YE h v:=rfl
def EB(h:Hp)(v:AV)(a:clean v=true):YE h v=some v:=by simp[YE,a]
def EC(h:Hp)(v:AV)(a:clean v=false):YE h v=freeze false h 40 v:=by simp[YE,a]
def fnd(rs:List ResVar)(r:Option<|AExit×Fr×Hp):Option (AV×Hp):=fin rs r
def RM(h:Hp):Option AV->Option (AV×Hp)
 |some v=>some (v,h)
 |none=>none
def ED(h:Hp)(v:AV):RM h (some v)=some (v,h):=rfl
def EE(rs:List ResVar)(fr:Fr)(h:Hp):fnd rs (some (.normal,fr,h))=RM h (QO fr h rs):=by
 simp only[fnd,S1];cases QO fr h rs<;>rfl
def EF(rs:List ResVar)(fr:Fr)(h:Hp):fnd rs (some (.ret,fr,h))=RM h (QO fr h rs):=by
 simp only[fnd,S2];cases QO fr h rs<;>rfl
def EG(fr:Fr)(h:Hp)(t:Nat):QO fr h [.tmp t]=some (get fr t):=rfl
def EH(fr:Fr)(h:Hp):QO fr h []=some (.tup []):=rfl
def EI(fr:Fr)(h:Hp)(t u:Nat):QO fr h [.tmp t,.tmp u]=some (.tup [get fr t,get fr u]):=rfl
def EJ(fr:Fr)(h:Hp)(t u v:Nat):QO fr h [.tmp t,.tmp u,.tmp v]=some (.tup [get fr t,get fr u,get fr v]):=rfl
def Q6{a:List AV}{rs:List ResVar}{c:ACode}(d:E.sum f=none)(b:E.fn f=some ⟨rs,c⟩):fnV E f a h=fnd rs (Zb E c (QP 0 a) h):=by
 rw[TZ d,LD b];rfl
def Z5{a:List AV}{rs:List ResVar}{c:ACode}(d:E.sum f=none)(b:E.fn f=some ⟨rs,c⟩):pfn E f a=frz (fnd rs<|Zb E c (QP 0 a) []):=by
 unfold pfn frz;rw[Q6 d b]
attribute [go_sem] Su Sv GG RH Sw Sx Sy SA SB SC SD SE SF SG SH SI SJ SK SM SN SO LH SP SQ Zzn Zzm Zvr Zw7 Zvo Se Sf Sg Sh Sl Sm S9 Sa Sb Sc Sd KZ SR LI SS LJ LK LL LM ST SU SV SW SX SY SZ A0 A1 A2 A3 A4 A5 A7 Aa Ab Ac Ae Af Ag Ah Ai Aj Ak Al Am Ao Ap Aq ZMd Ar rowAt_zero Au Av Ax Aw Ay Az AA AB AD AE AF AG AH AI LP AJ AK AL AN AO AP AQ LQ AR AS AT AU AW AX AY AZ E1 E2 E3 E4 E6 E7 E8 E9 Ea Eb Ec LR GM GN Ed Ee Ef Eg Eh Ei Ej Ek El Em En Eo Ep Er Es Et Eu ZDW Ew Ex LT Ey Ez RL EA EB EC ED EE EF EG EH EI EJ cond_true cond_false YZ JO UR Vy Zz ZE eq1
end Go.AM
namespace Go.AM
open Go
def Yc(p:UInt8->Bool):List UInt8->Int->Int
 |[],_=>-1
 |c::r,i=>bif p c then i else Yc p r<|i+1
def U9(a:List AV)(h:Hp):Option (AV×Hp):=match a with
 |[.str s,.int .u8 c]=>bif decide (0<=c)&&decide (c<256)then some (.int .i64<|Yc (λx=>(x.toNat:Int)==c) s.data.toList 0,h)else none
 |_=>none
def W6(b:UInt8):Bool:=decide (48<=b.toNat)&&decide (b.toNat<=57)
def J4(l:List UInt8)(n:Int):Int:=l.foldl (λn c=>10*n+((c.toNat:Int)-48)) n
def J5(a:List AV)(h:Hp):Option (AV×Hp):=match a with
 |[.str s]=>bif s.data.toList.all W6&&(!s.data.toList.isEmpty&&Nat.ble s.size 18)then some (.tup [.int .i64<|J4 s.data.toList 0,.nilif],h)else none
 |_=>none
def J6(a:List AV)(h:Hp):Option (AV×Hp):=match a with
 |[.str s,.str c]=>bif Nat.blt s.size 4294967281&&(Nat.beq c.size 2&&c.data.toList.all (λb=>Nat.blt b.toNat 128))then some (.int .i64 (Yc (λx=>c.data.toList.any (·==x)) s.data.toList 0),h)else none
 |_=>none
def Qd(l:List UInt8):AV:=.str ⟨l.toArray⟩
def WB:AV->Bool
 | .str _=>true
 |_=>false
def GP:AV->AV->Bool
 | .str a,.str b=>!WW b a
 | .int _ a,.int _ b=>decide (a<=b)
 |_,_=>true
def Vb(x:AV):List AV->List AV
 |[]=>[x]
 |y::r=>bif GP x y then x::y::r else y::Vb x r
def Yk:List AV->List AV
 |[]=>[]
 |x::r=>Vb x<|Yk r
def J7(a:List AV)(h:Hp):Option (AV×Hp):=match a with
 |[.sl b g off len _]=>match h[b]? with
  |some (.row sz es)=>bif sz==1&&(es.length==g&&(off==0&&(len==g&&(es.all WB&&Nat.ble es.length 1000000))))then some (.tup [],setH h b<|.row 1<|Yk es)else none
  |_=>none
 |_=>none
def sameKey:AV->AV->Bool
 | .str a,.str b=>Z3 a b
 | .int _ a,.int _ b=>a==b
 |_,_=>false
def Ys:List AV->List AV
 |[]=>[]
 |a::r=>match Ys r with
  |[]=>[a]
  |b::s=>bif sameKey a b then b::s else a::b::s
def J8(a:List AV)(h:Hp):Option (AV×Hp):=match a with
 |[.sl b g off len _]=>match h[b]? with
  |some (.row sz es)=>bif sz==1&&(es.length==g&&(off==0&&(len==g&&(es.all WB&&Nat.ble es.length 1000000))))then
   some (.sl b g 0 (Ys es).length false,setH h b<|.row 1<|Ys es++List.replicate (g-(Ys es).length) (Qd []))else none
  |_=>none
 |_=>none
def J9(a:List AV)(h:Hp):Option (AV×Hp):=match a with
 |[x]=>match Q2 h x with
  |some es=>bif Qq h 1 x&&(es.all (fits 1)&&Nat.ble es.length 1000000)then some (.sl h.length es.length 0 es.length false,h++[.row 1 es])else none
  |none=>none
 |_=>none
def Q4(a:UInt8):List UInt8->List (List UInt8)
 |[]=>[[]]
 |c::r=>bif c==a then []::Q4 a r else match Q4 a r with|w::ws=>(c::w)::ws|[]=>[[c]]
def Ja(a:List AV)(h:Hp):Option (AV×Hp):=match a with
 |[.str s,.str c]=>match c.data.toList with
  |[x]=>bif Nat.blt s.size 4294967281 then some (.sl h.length (Q4 x s.data.toList).length 0 (Q4 x s.data.toList).length false,h++[.row 1<|(Q4 x s.data.toList).map Qd])else none
  |_=>none
 |_=>none
def Zp2:AV->Bool
 | .int .i64 n=>decide (-9223372036854775808<=n)&&decide (n<=9223372036854775807)
 |_=>false
def ZoZ(c:Nat)(a:List AV)(h:Hp):Option (AV×Hp):=match a with
 |[.clo (.func g) [] [.ptr k 0 0 1]]=>match h[k]? with
  |some (.row 1 [.mp b])=>match h[b]? with
   |some (.map ks _)=>bif Nat.beq g c&&(ks.all Zp2&&Nat.ble ks.length 1000000)then some (.sl h.length ks.length 0 ks.length false,h++[.row 1<|Yk ks])else none
   |_=>none
  |_=>none
 |_=>none
def lexB:List Int->List Int->Bool
 |[],[]=>false
 |[],_::_=>true
 |_::_,[]=>false
 |a::r,b::s=>decide (a<b)||(a==b&&lexB r s)
def cmpL(a b:List Int):Int:=bif lexB a b then -1 else bif lexB b a then 1 else 0
def ZvI(x:List Int×AV):List (List Int×AV)->List (List Int×AV)
 |[]=>[x]
 |y::r=>bif lexB x.1 y.1 then x::y::r else y::ZvI x r
def ZvN:List (List Int×AV)->List (List Int×AV)
 |[]=>[]
 |x::r=>ZvI x<|ZvN r
def keysOf(a:AV->Option (List Int)):List AV->Option (List<|List Int×AV)
 |[]=>some []
 |e::r=>match a e,keysOf a r with
  |some k,some l=>some<|(k,e)::l
  |_,_=>none
def ZvJ:List (List Int×AV)->Bool
 |[]=>true
 |x::r=>r.all (λy=>!(x.1==y.1))&&ZvJ r
def Zwl:AV->Bool
 | .agg _=>true
 |_=>false
def ZvW(g sz:Nat)(c:List AV->AV->Option (List Int))(a:List AV)(h:Hp):Option (AV×Hp):=match a with
 |[.isl _ _ _ [],.clo _ _ _]=>some (.tup [],h)
 |[.sl b gg off len _,.clo (.func f) [] caps]=>match h[b]? with
  |some (.row sz' es)=>bif es.isEmpty then(bif gg==0&&(off==0&&len==0)then some (.tup [],h)else none)else match keysOf (c caps) es with
   |some l=>bif Nat.beq f g&&(sz'==sz&&(es.length==gg&&(off==0&&(len==gg&&(!es.isEmpty&&(Zi caps&&(Z4 es&&(es.all Zwl&&(es.all (fits sz)&&(ZvJ l&&Nat.ble es.length 1000000))))))))))then some (.tup [],setH h b (.row sz ((ZvN l).map (·.2))))else none
   |none=>none
  |_=>none
 |_=>none
def ZEt(g:Nat)(c:List AV->Bool)(a:List AV)(h:Hp):Option (AV×Hp):=match a with
 |[.isl _ _ _ [],.clo _ _ _]=>some (.tup [],h)
 |[.sl b gg off len _,.clo (.func f) [] caps]=>match h[b]? with
  |some (.row sz es)=>bif Nat.beq f g&&(sz==1&&(es.length==gg&&(off==0&&(len==gg&&(c caps&&(Z4 caps&&(es.all WB&&Nat.ble es.length 1000000)))))))then some (.tup [],setH h b<|.row 1<|Yk es)else none
  |_=>none
 |_=>none
def ZE7(g:Nat):List AV->Nat->List AV->Option (List AV)
 |[.clo (.func k) [] []],sz,es=>bif Nat.beq k g&&(sz==1&&(es.all WB&&Nat.ble es.length 1000000))then some (Yk es)else none
 |_,_,_=>none
def ZEe(g sz:Nat)(a:AV->Option (List Int)):List AV->Nat->List AV->Option (List AV)
 |[.clo (.func k) [] []],sz',es=>match keysOf a es with
  |some l=>bif Nat.beq k g&&(sz'==sz&&(Z4 es&&(es.all Zwl&&(es.all (fits sz)&&(ZvJ l&&Nat.ble es.length 1000000)))))then some ((ZvN l).map (·.2))else none
  |none=>none
 |_,_,_=>none
def ZO3(sz:Nat)(a:List AV)(h:Hp):Option (AV×Hp):=match a with
 |[x]=>match Q2 h x with
  |some es=>bif Qq h sz x&&(es.all (fits sz)&&Nat.ble es.length 1000000)then some (.sl h.length es.length 0 es.length false,h++[.row sz es])else none
  |none=>none
 |_=>none
end Go.AM
namespace Go.Proofs
open Go
def ZOo(f:Nat->Int):Nat->Int
 |0=>0
 |k+1=>bits .or .u64 (IntKind.u64.wrap<|ZOo f k*256)<|f k
def ZP5(y:Int):Int:=IntKind.u64.wrap<|bits .xor .u64 y (y/2147483648)*11400714819323198485
def ZP6(y:Int):Int:=IntKind.u64.wrap<|bits .xor .u64 y (y/134217728)*15074714826142052245
def ZOK(x n:Int):Int:=bits .xor .u64 (ZP6<|ZP5<|bits .xor .u64 x n)<|ZP6 (ZP5<|bits .xor .u64 x n)/8589934592
def ZOk(l:List UInt8)(i:Nat):Int:=match l[i]? with|some b=>(b.toNat:Int)|none=>0
def ZOl(l:List UInt8)(x:Int):Nat->Int
 |0=>x
 |k+1=>ZOK (ZOl l x k)<|ZOo (ZOk<|l.drop<|8*k) 8
def ZP7(n:Nat):UInt8:=if n<10 then UInt8.ofNat (48+n)else UInt8.ofNat<|87+n
def ZOr(u:Nat):Nat->List UInt8
 |0=>[]
 |k+1=>ZP7 (u/16 ^ k%16)::ZOr u k
def ZO5:Nat->Nat->Nat
 |0,_=>0
 |f+1,u=>if 16<=u then ZO5 f (u/16)+1 else 0
def ZO6(u:Nat):List UInt8:=ZOr u<|ZO5 16 u+1
def ZOs(l:List UInt8):Int:=ZOl l (bits .xor .u64 7640891576956012809 (l.length:Int))<|l.length/8+1
def ZOD(l:List UInt8):List UInt8:=Lib.repeatL [48] (16-(ZO6 (ZOs l).toNat).length)++ZO6 (ZOs l).toNat
def joinL:List ByteArray->List UInt8
 |[]=>[]
 |s::r=>Lib.itoa (s.size:Int)++58::s.data.toList++joinL r
def ZOL(l:List ByteArray):List UInt8:=ZOD<|joinL l
end Go.Proofs
namespace Go.AM
open Go Go.Proofs
def ZOp:List AV->Option (List ByteArray)
 |[]=>some []
 | .str s::r=>(ZOp r).map (s::·)
 |_=>none
def ZOM(a:List AV)(h:Hp):Option (AV×Hp):=match a with
 |[x]=>match Q2 h x with
  |some es=>bif Qq h 1 x&&!es.isEmpty then(match ZOp es with|some b=>bif b.all (λs=>Nat.ble s.size 140737488355328)&&(Nat.ble (joinL b).length 140737488355328&&Nat.ble b.length 140737488355328)then some (.str ⟨(ZOL b).toArray⟩,h)else none|none=>none)else none
  |none=>none
 |_=>none
def ZON(a:List AV)(h:Hp):Option (AV×Hp):=match a with
 |[.int .i64 n]=>if -9223372036854775808<=n/\n<=9223372036854775807 then some (.str ⟨(Lib.itoa n).toArray⟩,h)else none
 |_=>none
def ZOO(a:List AV)(h:Hp):Option (AV×Hp):=match a with
 |[x,.str sep]=>match Q2 h x with
  |some es=>bif Qq h 1 x&&!es.isEmpty then(match ZOp es with|some b=>bif Nat.ble (Lib.join (b.map (·.data.toList)) sep.data.toList).length 140737488355328&&Nat.ble b.length 140737488355328 then some (.str ⟨(Lib.join (b.map (·.data.toList)) sep.data.toList).toArray⟩,h)else none|none=>none)else none
  |none=>none
 |_=>none
def ZOt(a:List AV)(h:Hp):Option (AV×Hp):=match a with
 |[.str s,.str c]=>bif Nat.ble s.size 9223372036854775807&&(Nat.blt c.size 4294967281&&c.data.toList.all (λb=>Nat.blt b.toNat 128))then some (.str ⟨(Lib.trimS s.data.toList c.data.toList).toArray⟩,h)else none
 |_=>none
def ZOu(a:List AV)(h:Hp):Option (AV×Hp):=match a with
 |[.str s]=>bif s.data.toList.all W6&&(!s.data.toList.isEmpty&&Nat.ble s.size 18)then some (.tup [.int .i64<|J4 s.data.toList 0,.nilif],h)
  else bif Nat.ble s.size 281474976710656 then some (match Lib.atoiAll s.data.toList with| .ok v=>.tup [.int .i64 v,.nilif]|Go.Lib.NumEnd.syntax=>.tup [.int .i64 0,.bot]| .range=>.tup [.int .i64<|Lib.atoiSat s.data.toList,.bot],h)else none
 |_=>none
end Go.AM
namespace Go.AM
open Go
def Zwm:∀a,lexB a a=false
 |[]=>rfl
 |a::r=>by simp[lexB,Zwm r]
def ZvZ:∀a b c,lexB a b=true->lexB b c=true->lexB a c=true
 |[],[],_,h,_=>by cases h
 |[],_::_,[],_,h=>by cases h
 |[],_::_,_::_,_,_=>rfl
 |_::_,[],_,h,_=>by cases h
 |_::_,_::_,[],_,h=>by cases h
 |a::r,b::s,c::t,h,k=>by
  simp only[lexB,ZTL,decide_eq_true_eq,ZSq,beq_iff_eq]at h k⊢;rcases h with h|⟨rfl,h⟩
  .rcases k with k|⟨rfl,k⟩
   .exact .inl<|by omega
   .exact .inl h
  .rcases k with k|⟨rfl,k⟩
   .exact .inl k
   .exact .inr ⟨rfl,ZvZ r s t h k⟩
def Zwn:∀a b,lexB a b=false->lexB b a=false->a=b
 |[],[],_,_=>rfl
 |[],_::_,h,_=>by cases h
 |_::_,[],_,h=>by cases h
 |a::r,b::s,h,k=>by
  simp only[lexB,ZU0,decide_eq_false_iff_not,Bool.and_eq_false_iff,beq_eq_false_iff_ne]at h k;have c:a=b:=by omega
  subst c;rw[Zwn r s (h.2.resolve_left<|λd=>d rfl)<|k.2.resolve_left<|λd=>d rfl]
def Zzw(a b c:List Int)(h:lexB a b=false)(k:lexB b c=false):lexB a c=false:=by
 cases e:lexB a c with
 |false=>rfl
 |true=>
  cases d:lexB c b with
  |true=>rw[ZvZ a c b e d]at h;cases h
  |false=>rw[Zwn b c k d,e]at h;cases h
def ZxW(a b:List Int):decide (cmpL a b<0)=lexB a b:=by
 unfold cmpL;cases lexB a b with
 |true=>rfl
 |false=>cases lexB b a<;>rfl
def ZwF(x:List Int×AV):∀l,(ZvI x l).Perm (x::l)
 |[]=>.refl _
 |y::r=>by
  unfold ZvI;cases lexB x.1 y.1 with
  |true=>exact .refl _
  |false=>exact((ZwF x r).cons y).trans (.swap ..)
def ZwG:∀l,(ZvN l).Perm l
 |[]=>.refl _
 |x::r=>(ZwF x _).trans ((ZwG r).cons x)
def ltK(x y:List Int×AV):Prop:=lexB x.1 y.1=true
def ZxX(x:List Int×AV):∀l:List<|List Int×AV,l.Pairwise ltK->(∀y∈l,x.1≠y.1)->(ZvI x l).Pairwise ltK
 |[],_,_=>by simp[ZvI]
 |y::r,h,hd=>by
  unfold ZvI;rw[ZTr]at h;cases c:lexB x.1 y.1 with
  |true=>
   rw[cond_true,ZTr,ZTr];refine⟨λz a=>?_,h⟩
   rcases ZST.1 a with rfl|a
   .exact c
   .exact ZvZ _ _ _ c<|h.1 z a
  |false=>
   rw[cond_false,ZTr];refine⟨λz a=>?_,ZxX x r h.2<|λz a=>hd z<|ZT4 _ a⟩
   rcases ZST.1 ((ZwF x r).mem_iff.1 a)with rfl|a
   .show lexB y.1 z.1=true
    cases e:lexB y.1 z.1 with
    |true=>rfl
    |false=>exact((hd y<|ZSV ..) (Zwn _ _ c e)).elim
   .exact h.1 z a
def ZwH:∀{l},ZvJ l=true↔l.Pairwise (λx y=>x.1≠y.1)
 |[]=>by simp[ZvJ]
 |x::r=>by
  rw[ZvJ,ZSq,ZTr,ZwH,ZSw];simp
def ZwI:∀l,ZvJ l=true->(ZvN l).Pairwise ltK
 |[],_=>.nil
 |x::r,h=>by
  rw[ZvJ,ZSq,ZSw]at h;refine ZxX x _ (ZwI r h.2)<|λy a=>?_
  have:=h.1 y<|(ZwG r).mem_iff.1 a;simpa using this
def Zzx:∀{a b:List (List Int×AV)},a.Perm b->a.Pairwise ltK->b.Pairwise ltK->a=b:=by
 intro a b f c e;refine List.Perm.eq_of_pairwise (le:=ltK) (λx y _ _ g d=>?_) c e f
 have:=ZvZ _ _ _ g d;rw[Zwm]at this;cases this
def ZxY{c:AV->Option (List Int)}:∀{es:List AV}{l},keysOf c es=some l->es=l.map (·.2)/\∀x∈l,c x.2=some x.1
 |[],l,h=>by
  cases h;exact⟨rfl,λx a=>by cases a⟩
 |e::r,l,h=>by
  unfold keysOf at h;cases b:c e with
  |none=>rw[b]at h;cases h
  |some k=>
   cases d:keysOf c r with
   |none=>rw[b,d]at h;cases h
   |some i=>
    rw[b,d]at h;cases h;obtain⟨g,f⟩:=ZxY d;refine⟨by rw[g];rfl,λx a=>?_⟩
    rcases ZST.1 a with rfl|a
    .exact b
    .exact f x a
end Go.AM
