/- What the functions of the program compute, part 3, for RouteEnds. No condition. -/
import Derived.Test.YtaeppjlndecijabGreatDoorP3b
import Derived.Lib.ItoaLen
set_option linter.unusedVariables false
set_option linter.defProp false
set_option linter.unusedSimpArgs false
set_option linter.unusedSectionVars false
namespace Go.AM
open Go
variable [REdz]
def VaS.isD{l:List Off}(h:VaS l){f:Nat}(hf:f<l.length):IsD l f (spD l f):=(ZPR true l h.lk f hf).2
def VaS.l64{l:List Off}(h:VaS l):l.length<=64:=h.lk.1
def VaS.back{l:List Off}(h:VaS l){f:Nat}(hf:f<l.length):∀(n v:Nat),v<l.length->gI (spD l 0) v=n->gI (spD l f) v≠64->gI (spD l f) 0≠64
 |n,v,hv,e,hr=>by
  have h0:=h.isD (f:=0)<|by omega
  have hl:=h.l64;by_cases hv0:v=0
  .subst hv0;exact hr
  .obtain⟨u,h1,h2⟩:=h0.pre v (by omega) (h.con v hv) hv0
   have hu:=ZOS h1;have hu0:=(h0.rng u<|by omega).1
   have hru:=((h.isD hf).done v (by omega) hr u (h.sym _ _ h1)).1
   match n,e with
   |0,e=>exact absurd e<|by omega
   |n+1,e=>exact VaS.back h hf n u hu (by omega) hru
def VaS.fwd{l:List Off}(h:VaS l){f:Nat}(hf:f<l.length)(hz:gI (spD l f) 0≠64):∀(n v:Nat),v<l.length->gI (spD l 0) v=n->gI (spD l f) v≠64
 |n,v,hv,e=>by
  have h0:=h.isD (f:=0)<|by omega
  have hl:=h.l64;by_cases hv0:v=0
  .subst hv0;exact hz
  .obtain⟨u,h1,h2⟩:=h0.pre v (by omega) (h.con v hv) hv0
   have hu:=ZOS h1;have hu0:=(h0.rng u<|by omega).1
   match n,e with
   |0,e=>exact absurd e<|by omega
   |n+1,e=>exact((h.isD hf).done u (by omega) (VaS.fwd h hf hz n u hu<|by omega) v h1).1
def VaS.all{l:List Off}(h:VaS l){f v:Nat}(hf:f<l.length)(hv:v<l.length):gI (spD l f) v≠64/\0<=gI (spD l f) v/\gI (spD l f) v<=64:=by
 have h0:=h.isD (f:=0)<|by grind
 have hl:=h.l64;have hD:=h.isD hf;have hs:gI (spD l f) f≠64:=by rw[hD.src];decide
 have h1:=h0.rng f<|by omega
 have h2:=h0.rng v<|by omega
 have hz:=h.back hf (gI (spD l 0) f).toNat f hf (by omega) hs
 exact⟨h.fwd hf hz (gI (spD l 0) v).toNat v hv (by omega),hD.rng v<|by omega⟩
def VaS.shift{l:List Off}(h:VaS l){u v:Nat}(huv:u∈lkN l v):∀(n w:Nat),w<l.length->gI (spD l u) w=n->gI (spD l v) w<=gI (spD l u) w+1
 |n,w,hw,e=>by
  have hv:=ZOS huv;have hu:=ZOR h.lk huv;have hl:=h.l64;have hDu:=h.isD hu;have hDv:=h.isD hv;by_cases hwu:w=u
  .subst hwu;have:=(hDv.done v (by omega) (h.all hv hv).1 w huv).2
   rw[hDv.src]at this
   grind
  .obtain⟨x,h1,h2⟩:=hDu.pre w (by omega) (h.all hu hw).1 hwu
   have hx:=ZOS h1;have hx0:=(hDu.rng x<|by omega).1
   match n,e with
   |0,e=>grind
   |n+1,e=>
    have ih:=VaS.shift h huv n x hx<|by omega
    have:=(hDv.done x (by omega) (h.all hv hx).1 w h1).2
    omega
def VaS.le{l:List Off}(h:VaS l){f:Nat}(hf:f<l.length):∀(n v:Nat),v<l.length->gI (spD l f) v=n->gI (spD l v) f<=gI (spD l f) v
 |n,v,hv,e=>by
  have hl:=h.l64;have hD:=h.isD hf;by_cases hvf:v=f
  .grind
  .obtain⟨u,h1,h2⟩:=hD.pre v (by omega) (h.all hf hv).1 hvf
   have hu:=ZOS h1;have hu0:=(hD.rng u<|by omega).1
   match n,e with
   |0,e=>grind
   |n+1,e=>
    have ih:=VaS.le h hf n u hu<|by omega
    have h3:=(h.all hu hf).2.1;have:=h.shift (h.sym _ _ h1) (gI (spD l u) f).toNat f hf<|by omega
    omega
def VaS.sm{l:List Off}(h:VaS l){a b:Nat}(ha:a<l.length)(hb:b<l.length):gI (spD l a) b=gI (spD l b) a:=by
 have h1:=(h.all ha hb).2.1;have h2:=(h.all hb ha).2.1;have:=h.le ha (gI (spD l a) b).toNat b hb<|by omega
 have:=h.le hb (gI (spD l b) a).toNat a ha<|by omega
 omega
def VaS.z{l:List Off}(h:VaS l){a b:Nat}(ha:a<l.length)(hb:b<l.length):gI (spD l a) b=0↔a=b:=by
 have hl:=h.l64;have hD:=h.isD ha;constructor
 .intro e;apply Decidable.byContradiction;intro hne;obtain⟨u,h1,h2⟩:=hD.pre b (by omega) (h.all ha hb).1 (λe=>hne e.symm)
  have:=(hD.rng u (by have:=ZOS h1;omega)).1
  omega
 .rintro rfl;exact hD.src
def VaS.one{l:List Off}(h:VaS l){a b:Nat}(hab:b∈lkN l a):gI (spD l a) b=1:=by
 have ha:=ZOS hab;have hb:=ZOR h.lk hab;have hl:=h.l64;have hD:=h.isD ha;have h1:=(hD.done a (by omega) (h.all ha ha).1 b hab).2
 rw[hD.src]at h1;have h2:a≠b:=by rintro rfl;exact h.ne _ hab
 have h3:=(h.all ha hb).2.1;have h4:gI (spD l a) b≠0:=λe=>h2<|(h.z ha hb).1 e
 omega
noncomputable def ZP2(l:List Off)(a b:Nat):Nat:=match lkN l a with|[]=>0|x::r=>r.foldl (minS<|spD l b) x
def ZSF(D:List Int):∀(r:List Nat)(x:Nat),(r.foldl (minS D) x∈x::r)/\∀y∈x::r,gI D (r.foldl (minS D) x)<=gI D y
 |[],x=>⟨ZXV,λy hy=>by grind⟩
 |y::r,x=>by
  obtain⟨h1,h2⟩:=ZSF D r<|minS D x y;have hm:minS D x y=x\/minS D x y=y:=by unfold minS;split<;>simp
  have hle:gI D (minS D x y)<=gI D x/\gI D (minS D x y)<=gI D y:=by unfold minS;split<;>omega
  grind
def VaS.has{l:List Off}(h:VaS l){a b:Nat}(ha:a<l.length)(hb:b<l.length)(hne:a≠b):∃u,u∈lkN l a/\gI (spD l b) a=gI (spD l b) u+1:=by
 have hl:=h.l64;obtain⟨u,h1,h2⟩:=(h.isD hb).pre a (by omega) (h.all hb ha).1 hne
 exact⟨u,h.sym _ _ h1,h2⟩
def VaS.nxt{l:List Off}(h:VaS l){a b:Nat}(ha:a<l.length)(hb:b<l.length)(hne:a≠b):ZP2 l a b∈lkN l a/\gI (spD l b) (ZP2 l a b)+1=gI (spD l b) a:=by
 have hl:=h.l64;obtain⟨u,h1,h2⟩:=h.has ha hb hne;unfold ZP2;cases hL:lkN l a with
 |nil=>grind
 |cons x r=>
  dsimp only;obtain⟨h3,h4⟩:=ZSF (spD l b) r x;have h5:r.foldl (minS<|spD l b) x∈lkN l a:=by grind
  refine⟨h3,?_⟩;rw[hL]at h1;have h6:=h4 u h1;have h7:=ZOR h.lk h5;have h8:=((h.isD hb).done _ (by omega) (h.all hb h7).1 a (h.sym _ _ h5)).2
  omega
noncomputable def nxT(l:List Off)(a b:Int):Int×Int:=bif ZOE l [a,b]then(bif a==b then(0,11)else(ZP2 l a.toNat b.toNat,0))else(0,1)
def ZV1(ex:Bool)(l:List Off)(hS:∀o∈l,OffS o)(a b:Int):pfn rE 17 [ofA ex l,I a,I b]=some (.tup [I (nxT l a b).1,I (nxT l a b).2]):=by
 have hp:=ZSB ex false l hS [a,b]<|by simp
 have hz:Z4 [ofA ex l,.isl false false 1 [I a,I b]]=true:=by simp[Z4,clean,ZP0]
 unfold nxT;cases h:ZOE l [a,b]with
 |false=>
  rw[h]at hp;have hp':pfn rE 21 [ofA ex l,.isl false false 1 [I a,I b]]=_:=hp;rw[Z5 (f:=17) rfl rfl];simp[go_sem,c17,hp',hz,cond_false]
 |true=>
  rw[h]at hp;have hp':pfn rE 21 [ofA ex l,.isl false false 1 [I a,I b]]=_:=hp;cases hab:a==b with
  |true=>
   rw[Z5 (f:=17) rfl rfl];simp only[go_sem,c17,hp',hz,hab,cond_true]
  |false=>
   obtain⟨h1,h2,h3⟩:=ZQK h;have hV:=ZPx hS h3;obtain⟨n,rfl⟩:∃n:Nat,a=n:=⟨a.toNat,by omega⟩
   obtain⟨m,rfl⟩:∃m:Nat,b=m:=⟨b.toNat,by omega⟩
   have hnm:n≠m:=by grind
   have hl:=hV.l64;obtain⟨d1,d2⟩:=ZPR ex l hV.lk m<|by omega
   obtain⟨u,hu,_⟩:=hV.has (a:=n) (b:=m) (by omega) (by omega) hnm
   have hz2:Z4 [ofA ex l,I (m:Int)]=true:=by simp[Z4,clean,ZP0]
   have hn:((n:Int)).toNat=n:=rfl;have hm:((m:Int)).toNat=m:=rfl;have hn0:(0<=(n:Int))=True:=by simp
   have ho:l[n]?=some l[n]:=ZXj<|by omega
   have hg:=Z6 (f:=Off.enc) ho;have hen:=ZSk hV.lk ho;have hlk:=(hV.lk.2 _<|ZXp ho).1;rw[hn,hm];have hmem:=λk hk=>ZOR hV.lk (q:=n) (k:=k) hk
   have hlen:(lkN l n).length=l[n].Lk.length:=by have:=congrArg List.length hen;grind
   unfold ZP2;generalize l[n]=o at*;cases hL:lkN l n with
   |nil=>grind
   |cons x r=>
    rw[hL]at hmem hen hlen;have hmin:=ZV0 false o.lx (spD l m) d2.len d2.rng x r (by grind [List.mem_cons_self]) (λy hy=>by grind)<|by grind
    rw[<-hen]at hmin;dsimp only;have hlD:=d2.len;have hlm:((spD l m).map I).length=64:=by rw[ZXg,hlD]
    have htk:List.take 64 ((spD l m).map I)=(spD l m).map I:=ZXz<|by omega
    have hall:((spD l m).map I).all scalar=true:=by
     rw[ZXs];intro x hx;obtain⟨y,_,rfl⟩:=ZXI.1 hx;rfl
    have hfit:fits 64 (.agg<|(spD l m).map I)=true:=by simp_all[fits]
    have hst:=λh b i off sz es=>Eb h b i off 64 (.agg<|(spD l m).map I) sz es hfit
    generalize spD l m=D at*;generalize r.foldl (minS D) x=z at*;have hfz:ZC true [.row 64 [.agg<|D.map I]] 35 (D.map I)=some (D.map I):=by
     unfold ZC;grind [ZPu]
    unfold nA at hmin;rw[Z5 (f:=17) rfl rfl];unfold ofA at*;unfold Off.enc at*;simp only[go_sem,c17,hp',hz,hab,hz2,d1,hn,hn0,hg,hst,htk,hlD,hmin,hfz,ZXr,cond_true,cond_false]
def ZOL:List Off->Str->Nat->Option Nat
 |[],_,_=>none
 |o::r,c,i=>bif o.Cd.any (Z3 c)then some i else ZOL r c<|i+1
abbrev ZQL(ex:Bool)(l:List Off)(c:Str):List AV:=[.iptr false [ofA ex l],.iptr false [.str c]]
abbrev ZOT(ex:Bool)(l:List Off)(c:Str):Fr:=[(4,.ptr 0 0 0 1),(5,.ptr 1 0 0 1),(12,.clo (.func 291) []<|ZQL ex l c)]
abbrev seH(ex:Bool)(l:List Off)(c:Str):Hp:=[.row 1 [I 0],.row 1 [I 0],.loop .ready .normal (ZOT ex l c) [13] c102R0a c102R0b]
abbrev seD(ex:Bool)(l:List Off)(c:Str)(i:Nat):Hp:=[.row 1 [I i],.row 1 [I 0],.loop .done .ret (ZOT ex l c) [13] c102R0a c102R0b]
def ZV2(ex:Bool)(l:List Off)(c:Str)(i:Nat)(z:AObj):U4 rE 2 [I i] (seH ex l c++[z])=some (.bool false,seD ex l c i++[z]):=by
 have h:=Ss (E:=rE) (b:=2) (args:=[I i]) (h:=seH ex l c++[z]) (fr:=ZOT ex l c) (ps:=[13]) (assign:=c102R0a) (body:=c102R0b)
  (fr0:=(13,I i)::ZOT ex l c) rfl rfl (by simp only[go_sem,c102R0a,ZXo]<;>rfl) (by rfl)
  (by simp only[go_sem,c102R0b,ZXo]<;>rfl) (by rfl)
 exact h
def ZSG(ex:Bool)(l:List Off)(hl:l.length<=64)(hS:∀o∈l,OffS o)(c:Str):
 ∀(k i:Nat),k+i=l.length->∃fr',Zg rE [0,2,6,7,8] c291L0b [(0,.yld 2),(2,.iptr false [.str c]),(6,ofA ex l),(7,I l.length),(8,I i)] (seH ex l c) =
  some (match ZOL (l.drop i) c i with|none=>(.exit 0,fr',seH ex l c)|some j=>(.ret,fr',seD ex l c j))
 |0,i,hk=>by
  have hi:i=l.length:=by omega
  subst hi;rw[ZYD<|ZXh _];exact⟨_,Q7 rfl (e:=.exit 0) (by simp[go_sem,c291L0b];rfl) (by simp)⟩
 |k+1,i,hk=>by
  have hlt:i<l.length:=by omega
  have hx:l[i]?=some l[i]:=ZXj hlt;have hg:=Z6 (f:=Off.enc) hx;have hi':=Zh hlt;have hw:=Zx (n:=i)<|by omega
  have hcd:=(hS _<|ZXp hx).cd;rw[ZXP hlt];generalize l[i]=o at*;have hh:=ZUy false o.cx o.Cd (by omega) c
  unfold ZOL;cases h:o.Cd.any (Z3 c)with
  |true=>
   rw[h]at hh;have hy:=ZV2 ex l c i<|.row 2 [o.enc];rw[cond_true];refine⟨_,Q7 rfl (e:=.ret) (by
    unfold ofA;unfold Off.enc at*;simp[ZXo]at hy;simp only[go_sem,c291L0b,S3,hg,hi',hh,hy,ZXl,ZXo];rfl) (by simp)⟩
  |false=>
   rw[h]at hh;obtain⟨fr',h1⟩:=ZSG ex l hl hS c k (i+1)<|by omega
   refine⟨fr',?_⟩;rw[cond_false,Yt rfl (fr':=[(0,.yld 2),(2,.iptr false [.str c]),(6,ofA ex l),(7,I l.length),(8,I<|i+1)]) (h':=seH ex l c) (by
    unfold ofA;unfold Off.enc at*;simp only[go_sem,c291L0b,S3,hg,hi',hw,hh];rfl)]
   exact h1
def ZV3(ex:Bool)(l:List Off)(c:Str)(h:Hp):fnV rE 189 [ofA ex l,.str c] h=some (.clo (.func 291) []<|ZQL ex l c,h):=by
 have ho:=ZSA h ex l;rw[Q6 (f:=189) rfl rfl];simp[go_sem,c189,ho,GH]
def ZPS(h:Hp)(ex:Bool)(l:List Off):lnV h 1 (ofA ex l)=some (.int .i64 (l.length:Int)):=by grind [ofA,AX,List.length_map]
def ZV4(ex:Bool)(l:List Off)(hl:l.length<=64)(hS:∀o∈l,OffS o)(c:Str):
 rf rE (.clo (.func 291) []<|ZQL ex l c) [13] c102R0a c102R0b (ZOT ex l c) [.row 1 [I 0],.row 1 [I 0]]=match ZOL l c 0 with
  |none=>some (.normal,ZOT ex l c,[.row 1 [I 0],.row 1 [I 0],.loop .exhausted .normal (ZOT ex l c) [13] c102R0a c102R0b])
  |some i=>some (.ret,ZOT ex l c,[.row 1 [I i],.row 1 [I 0],.loop .exhausted .ret (ZOT ex l c) [13] c102R0a c102R0b]):=by
 obtain⟨fr',L⟩:=ZSG ex l hl hS c l.length 0<|by omega
 rw[ZXS]at L;have L':Zg rE [0,2,6,7,8] c291L0b [(0,.yld 2),(2,.iptr false [.str c]),(6,ofA ex l),(7,I l.length),(8,.int .i64 0)] (seH ex l c)=_:=L;rw[Z1k (c:=c291) rfl];cases hc:ZOL l c 0 with
 |none=>
  rw[hc]at L';simp[go_sem,c291,c291L0,ZPS,L'];rfl
 |some i=>
  rw[hc]at L';simp[go_sem,c291,c291L0,ZPS,L'];rfl
noncomputable def ZPy(l:List Off)(c:Str):Int×Int:=bif ZO5 l then(match ZOL l c 0 with|some j=>((j:Int),0)|none=>(0,10))else(0,1)
def ZV5(ex:Bool)(l:List Off)(hS:∀o∈l,OffS o)(c:Str):pfn rE 102 [ofA ex l,.str c]=some (.tup [I (ZPy l c).1,I (ZPy l c).2]):=by
 have hv:=ZQ8 ex l hS;have hz:Z4 [ofA ex l]=true:=ZPv ex l;have h8:=λh=>ZV3 ex l c h
 unfold ZPy;cases h:ZO5 l with
 |false=>
  rw[h]at hv;rw[Z5 (f:=102) rfl rfl];simp[go_sem,c102,hv,hz]
 |true=>
  rw[h]at hv;have hl:=(ZPx hS h).l64;have hrf:=ZV4 ex l hl hS c;rw[Z5 (f:=102) rfl rfl];cases hs:ZOL l c 0 with
  |none=>
   rw[hs]at hrf;simp[go_sem,c102,hv,hz,ZQ9,h8,Sr,hrf]
  |some i=>
   rw[hs]at hrf;simp[go_sem,c102,hv,hz,ZQ9,h8,Sr,hrf]
def ZPd:Str:=B [48,49,50,51,52,53,54,55,56,57,97,98,99,100,101,102,103,104,105,106,107,108,109,110,111,112,113,114,115,116,117,118,119,120,121,122]
def ZQa(s c:Str):Str:=⟨(Go.Lib.trimS s.data.toList c.data.toList).toArray⟩
def ZV6(s:Str)(hs:s.size<=12):pfn rE 58 [.str s,.str ZPd]=some (.str<|ZQa s ZPd):=by
 have e:ZPn [.str s,.str ZPd] []=some (.str<|ZQa s ZPd,[]):=by
  have h1:Nat.ble s.size 9223372036854775807=true:=ZXH<|by omega
  show(bif (Nat.ble s.size 9223372036854775807&&_)then some _ else none)=_
  rw[h1];rfl
 unfold pfn;rw[V8 (s:=ZPn) rfl,e];rfl
def ZV7(c:Int)(h0:0<=c)(h1:c<=1000):∃t:Str,t.size<=1000/\pfn rE 127 [.str<|B [48],I c]=some (.str t):=by
 refine⟨⟨(Go.Lib.repeatL [48] c.toNat).toArray⟩,?_,?_⟩
 .grind [Go.Lib.repeatL_length,ByteArray.size]
 .have h2:decide (0<=c)=true:=decide_eq_true h0;have h3:decide (c<=9223372036854775807)=true:=decide_eq_true (by omega)
  have h4:Nat.ble ((B [48]).size*c.toNat) 140737488355328=true:=ZXH (by
   show 1*c.toNat<=_
   omega)
  have e:ZPp [.str<|B [48],I c] []=some (.str ⟨(Go.Lib.repeatL [48] c.toNat).toArray⟩,[]):=by
   show(bif decide (0<=c)&&(decide (c<=9223372036854775807)&&Nat.ble ((B [48]).size*c.toNat) 140737488355328)then some _ else none)=_
   rw[h2,h3,h4];rfl
  unfold pfn;rw[V8 (s:=ZPp) rfl,e];rfl
def ZQM(n k:Int)(h0:-9223372036854775808<=n)(h1:n<=9223372036854775807)(hk0:0<=k)(hk:k<=1000):∃t:Str,t.size<=1100/\pfn rE 60 [I n,I k]=some (.str t):=by
 have ha:=ZRV n h0 h1;have hl:=Go.Lib.itoa_length_le n h0 h1;generalize ht:(⟨(Go.Lib.itoa n).toArray⟩:Str)=t at ha;have hts:t.size<=21:=by grind [ByteArray.size]
 have hw:IntKind.i64.wrap (k-(t.size:Int))=k-(t.size:Int):=YM (by omega)<|by omega
 obtain⟨u,hu1,hu2⟩:=ZV7 (max 0<|k-(t.size:Int)) (by omega)<|by omega
 have hadd:u.size+t.size<=4611686018427387904:=by omega
 refine⟨u++t,?_,?_⟩
 .grind
 rw[Z5 (f:=60) rfl rfl];simp[go_sem,c60,ha,hw,hu2,hadd]
structure Lab where
 Ga:Str
 bz:Int
 Seen:Int
 Home:Int
 Back:Bool
def Lab.enc(x:Lab):AV:=.agg [.str x.Ga,I x.bz,I x.Seen,I x.Home,.bool x.Back]
def ZOn(n:Int):Bool:=!decide (n<0)&&!decide (n>=64)
def ZOv(d:Str):Bool:=ZZ d&&(!decide ((d.size:Int)>12)&&Z3 (ZQa d ZPd) emp)
def ZQN(x:Lab):Bool:=ZOv x.Ga&&(!decide (x.Seen < -1)&&(!decide (x.Seen>100000)&&(ZOn x.bz&&ZOn x.Home)))
def ZV8(v:AV)(a b:Int):∃fr' h',Zg rE [1,71,72,73] c32L0b [(1,v),(71,.isl false false 1 [I a,I b]),(72,.int .i64 ((2:Nat):Int)),(73,.int .i64 0)] [] =
 some (if Zu (λ_ x=>ZOn x) 0 [a,b]=true then .exit 0 else .ret,fr',h')/\(Zu (λ_ x=>ZOn x) 0 [a,b]=true->get fr' 1=v/\h'=[])/\(Zu (λ_ x=>ZOn x) 0 [a,b]=false->get fr' 2=.str emp/\get fr' 3=I 1):=by
 have h22:decide (((2:Nat):Int)<((2:Nat):Int))=false:=rfl;refine Jk (E:=rE) (live:=[1,71,72,73]) (b:=c32L0b) [a,b] (λ_ x=>ZOn x) (λi=>[(1,v),(71,.isl false false 1 [I a,I b]),(72,.int .i64 ((2:Nat):Int)),(73,I i)]) (λ_=>[]) 0 _ _ (λi=>rfl)
  (λi x hx hP=>?_) (λi x hx hP=>?_) ⟨_,_,by simp only[go_sem,c32L0b,h22];rfl,by simp only[go_sem];grind⟩
 .have hg:[I a,I b][i]?=some (I x):=Z6 (f:=I) (l:=[a,b]) hx;have hi:decide ((i:Int)<((2:Nat):Int))=true:=decide_eq_true (by grind)
  have hw:=Zx (n:=i)<|by grind
  unfold ZOn at hP;simp only[ZXf,ZXM]at hP;obtain⟨h1,h2⟩:=hP;refine⟨_,by simp only[go_sem,c32L0b,hg,hi,hw,h1,h2];rfl,?_⟩
  simp only[go_sem]
 .have hg:[I a,I b][i]?=some (I x):=Z6 (f:=I) (l:=[a,b]) hx;have hi:decide ((i:Int)<((2:Nat):Int))=true:=decide_eq_true (by grind)
  unfold ZOn at hP;cases h1:decide (x<0)with
  |true=>refine⟨_,_,by simp only[go_sem,c32L0b,hg,hi,h1];rfl,?_⟩;simp only[go_sem];grind
  |false=>
   have h2:decide (x>=64)=true:=by grind
   refine⟨_,_,by simp only[go_sem,c32L0b,hg,hi,h1,h2];rfl,?_⟩;simp only[go_sem];grind
def ZV9(a b:Int):Zu (λ_ x=>ZOn x) 0 [a,b]=(ZOn a&&ZOn b):=by simp[Zu]
def ZQO:Str:=B [48,49,50,51,52,53,54,55,56,57,97,98,99,100,101,102,103,104,105,106,107,108,109,110,111,112,113,114,115,116,117,118,119,120,121,122,45]
def ZPz:bounds none (some<|.int .i64 36) none ZQO.size=some (0,36,none):=(rfl)
def ZPA:ZQO.extract 0 36=ZPd:=by kernel_rfl
def ZVa(x:Lab):∃t:Str,pfn rE 32 [x.enc]=some (.tup [.str t,I<|bif ZQN x then 0 else 1]):=by
 obtain⟨d,of,se,ho,bk⟩:=x;have h:=Z1W d;obtain⟨fr',h',L,L2,L3⟩:=ZV8 (.iptr false [.str d,I of,I se,I ho,.bool bk]) of ho;have s159:pfn rE 59 []=some (.str ZQO):=by
  rw[Z5 (f:=59) rfl rfl];simp only[go_sem,c59];rfl
 unfold ZQN ZOv ZZ Lab.enc;dsimp only;rw[ZV9]at L L2 L3;generalize Up d=y at h⊢;obtain⟨c,e,g⟩:=y;unfold Lx.val at h;simp only at h⊢;cases b:e==0 with
 |false=>exact⟨emp,by rw[Z5 (f:=32) rfl rfl];simp only[go_sem,c32,h,b,ZXm,cond_false]⟩
 |true=>
  rcases c with _|⟨⟨tk,ta,tn,tt⟩,_|⟨t2,c⟩⟩
  .have e1:(((0:Nat):Int)==1)=false:=rfl;exact⟨emp,by rw[Z5 (f:=32) rfl rfl];simp only[go_sem,c32,h,b,e1,ZXm,ZXT,cond_false]⟩
  .have e1:(((0+1:Nat):Int)==1)=true:=rfl;have k:(0<=(0:Int))=True:=by simp
   have i:ixG [.agg [I tk,I ta,I tn,.str tt]] 0=some (.agg [I tk,I ta,I tn,.str tt]):=rfl;cases h1:tk==1 with
   |false=>exact⟨emp,by rw[Z5 (f:=32) rfl rfl];simp only[go_sem,c32,h,b,e1,i,h1,Tok.enc,ZXm,ZXT,cond_false]⟩
   |true=>
    cases h2:Z3 tt d with
    |false=>exact⟨emp,by rw[Z5 (f:=32) rfl rfl];simp only[go_sem,c32,h,b,e1,i,h1,h2,Tok.enc,ZXm,ZXT,cond_false]⟩
    |true=>
     cases h3:decide ((d.size:Int)>12)with
     |true=>exact⟨emp,by rw[Z5 (f:=32) rfl rfl];simp only[go_sem,c32,h,b,e1,i,h1,h2,h3,Tok.enc,ZXq,ZXm,ZXT,cond_false]⟩
     |false=>
      have hd:d.size<=12:=by grind
      have htr:=ZV6 d hd;cases h4:Z3 (ZQa d ZPd) emp with
      |false=>refine⟨emp,?_⟩;rw[Z5 (f:=32) rfl rfl];simp only[go_sem,c32,h,b,e1,i,h1,h2,h3,s159,ZPz,ZPA,htr,h4,Tok.enc,ZXq,ZXm,ZXT,cond_false]
      |true=>
       cases h5:decide (se < -1)with
       |true=>refine⟨emp,?_⟩;rw[Z5 (f:=32) rfl rfl];simp only[go_sem,c32,h,b,e1,i,h1,h2,h3,s159,ZPz,ZPA,htr,h4,h5,Tok.enc,ZXq,ZXm,ZXT,cond_false]
       |false=>
        cases h6:decide (se>100000)with
        |true=>refine⟨emp,?_⟩;rw[Z5 (f:=32) rfl rfl];simp only[go_sem,c32,h,b,e1,i,h1,h2,h3,s159,ZPz,ZPA,htr,h4,h5,h6,Tok.enc,ZXq,ZXm,ZXT,cond_false]
        |false=>
         have h5':=of_decide_eq_false h5;have h6':=of_decide_eq_false h6;cases h7:ZOn of&&ZOn ho with
         |false=>
          obtain⟨L4,L5⟩:=L3 h7;rw[if_neg<|by grind]at L
          refine⟨emp,?_⟩;rw[Z5 (f:=32) rfl rfl];simp only[go_sem,c32,c32L0,h,b,e1,i,h1,h2,h3,s159,ZPz,ZPA,htr,h4,h5,h6,L,L4,L5,Tok.enc,ZXq,ZXm,ZXT,cond_false]
         |true=>
          obtain⟨L4,rfl⟩:=L2 h7;rw[if_pos h7]at L;have h8:ZOn of=true/\ZOn ho=true:=by grind
          unfold ZOn at h8;simp only[ZXf,ZXM,decide_eq_false_iff_not]at h8;obtain⟨⟨h9,h10⟩,h11,h12⟩:=h8;obtain⟨t1,p1,q1⟩:=ZQM of 2 (by omega) (by omega) (by omega)<|by omega
          obtain⟨t2,p2,q2⟩:=ZQM ho 2 (by omega) (by omega) (by omega)<|by omega
          obtain⟨t3,p3,q3⟩:=ZQM (se+1) 6 (by omega) (by omega) (by omega)<|by omega
          have hw:IntKind.i64.wrap (se+1)=se+1:=YM (by omega)<|by omega
          have z1:∀u:Str,u.size<=10->u.size+t1.size<=4611686018427387904:=λu hu=>by omega
          have z2:∀u:Str,u.size<=10->u.size+t1.size+t2.size<=4611686018427387904:=λu hu=>by omega
          have z3:∀u:Str,u.size<=10->u.size+t1.size+t2.size+t3.size<=4611686018427387904:=λu hu=>by omega
          have z4:∀u:Str,u.size<=10->u.size+t1.size+t2.size+t3.size+d.size<=4611686018427387904:=λu hu=>by omega
          have s48:(B [48]).size<=10:=by decide
          have s49:(B [49]).size<=10:=by decide
          cases bk with
          |true=>
           have a1:=z1 _ s49;have a2:=z2 _ s49;have a3:=z3 _ s49;have a4:=z4 _ s49;refine⟨B [49]++t1++t2++t3++d,?_⟩;rw[Z5 (f:=32) rfl rfl];simp only[go_sem,c32,c32L0,h,b,e1,i,h1,h2,h3,s159,ZPz,ZPA,htr,h4,h5,h6,L,L4,q1,q2,q3,hw,a1,a2,a3,a4,if_true,Tok.enc,ZXv,ZXC,cond_true]
          |false=>
           have a1:=z1 _ s48;have a2:=z2 _ s48;have a3:=z3 _ s48;have a4:=z4 _ s48;refine⟨B [48]++t1++t2++t3++d,?_⟩;rw[Z5 (f:=32) rfl rfl];simp only[go_sem,c32,c32L0,h,b,e1,i,h1,h2,h3,s159,ZPz,ZPA,htr,h4,h5,h6,L,L4,q1,q2,q3,hw,a1,a2,a3,a4,if_true,Tok.enc,ZXv,ZXC,cond_true]
  .have e1:(((c.length+1+1:Nat):Int)==1)=false:=by
    grind
   exact⟨emp,by rw[Z5 (f:=32) rfl rfl];simp only[go_sem,c32,h,b,e1,ZXm,ZXT,cond_false]⟩
def ZcV{e:Gt}(h:Q9 e=true):Q8 e=true:=by
 unfold Q9 at h;simp only[ZXf]at h;exact h.2.2.2.2
def Zd3{e:Gt}(h1:(ZD e.br 1 15&&(ZD e.Day 0 100000&&(!Fb (Zq e)&&NG (Zq e))))=true):Q9 e=Q8 e:=by
 unfold Q9;simp only[ZXf]at h1;rw[h1.1,h1.2.1,h1.2.2.1,h1.2.2.2];rfl
def Zdu(x:Gk):Q9 {Jt x with br:=1}=(ZZ x.Id&&(ZD x.br 1 3&&Vh x.Ring.l)):=(Zd3<|by rfl).trans (by kernel_rfl)
def ZcW{e:Gt}{k:Int}(a:e.br=k):Q8 e=Q8 {e with br:=k}:=by rw[<-a]
def ZdP{K:List Str}{x:Str}:K.any (Z3 x)=true↔x∈K:=by
 rw[List.any_eq_true];exact⟨λ⟨y,h1,h2⟩=>by rw[(Ky _ _).1 h2];exact h1,λh=>⟨x,h,(Ky _ _).2 rfl⟩⟩
def ZbD{α:Type}{Q:α->Prop}{f:α->α}{l:List α}{k:Nat}(h:∀x∈l,Q x)(a:∀x,Q x->Q (f x)):∀x∈ZK l k f,Q x:=by
 unfold ZK;split
 .rename_i x b;intro y c;rcases List.mem_or_eq_of_mem_set c with h1|rfl
  .exact h y h1
  .exact a x<|h x<|ZXp b
 .exact h
def Zd9{α:Type}{Q:α->Prop}{l m:List α}(h:∀x∈l,Q x)(a:∀x∈m,Q x):∀x∈l++m,Q x:=λx hx=>by
 rcases ZY9.1 hx with h1|h1
 .exact h x h1
 .exact a x h1
def Zdi{α:Type}{Q:α->Prop}{y:α}(h:Q y):∀x∈[y],Q x:=λx hx=>by rw[ZXO]at hx;subst hx;exact h
structure SizeOk(s:Sta):Prop where
 rg:∀x∈s.Fa,x.bm.l.length<=100/\x.Ring.l.length<=100/\x.Id.size<=1000
 st:∀x∈s.Gm,x.bm.l.length<=100/\x.Line.l.length<=100/\x.Id.size<=1000
 bu:∀x∈s.Bt,x.Ring.l.length<=100/\x.Id.size<=1000
 dr:∀x∈s.Bc,DoS x
 un:∀x∈s.Nk,x.Id.size<=1000/\x.Ga.size<=1000/\x.Text.size<=1000
def Zdr{w:Wk}{k:Nat}{a:NL Str}(h:SizeOk w.s)(c:a.l.length<=100)(g:∀id∈a.l,id.size<=1000):SizeOk (Qf w k a).s:=by
 unfold Qf;split
 .rename_i x i;refine⟨h.rg,h.st,h.bu,ZbD h.dr<|λd hd=>⟨c,hd.id,hd.building,hd.street,hd.veil⟩,λu hu=>?_⟩
  obtain⟨v,f,rfl⟩:=ZXI.1 hu;have b:=h.un v f;unfold XO;cases Z3P x.Id v with
  |false=>exact b
  |true=>
   rw[cond_true];unfold UG;split
   .rename_i id r e;exact⟨b.1,g id (by rw[e];exact ZXV ..),b.2.2⟩
   .exact b
 .exact h
def ZdB{w:Wk}{d:Ga}(h:SizeOk w.s)(a:DoS d):SizeOk (Qw w d).s:=
 ⟨h.rg,h.st,h.bu,Zd9 h.dr<|Zdi ⟨a.after,a.id,a.building,a.street,a.veil⟩,h.un⟩
def Ze1{a:NL Str}(b:a.l.length<=100)(c:∀id∈a.l,id.size<=1000):∀(l:List Int)(w:Wk),SizeOk w.s->SizeOk (Yg w l a).s
 |[],_,h=>h
 |k::r,w,h=>Ze1 b c r (Qf w k.toNat a)<|Zdr h b c
def Ze2{w:Wk}{l:List Ga}(h:SizeOk w.s):∀i,SizeOk (Y6 w l i).s
 |0=>h
 |i+1=>by
  have a:=Ze2 (w:=w) (l:=l) h i;unfold Y6;split
  .rename_i x b;cases NV w.e.Id x with
   |false=>exact a
   |true=>exact Zdr a (ZXi _)<|λid hc=>by cases hc
  .exact a
def Ze3{D:List Ga}{l:List Ent}(h:∀x∈D,DoS x):∀i,∀x∈Yn D l i,DoS x
 |0=>h
 |i+1=>by
  have a:=Ze3 (l:=l) h i;unfold Yn;split
  .exact ZbD a<|λd hd=>⟨hd.after,hd.id,hd.building,hd.street,hd.veil⟩
  .exact a
def Ze4{s:Sta}(h:SizeOk s)(k:Nat):(JF s k).l.length<=100:=by
 unfold JF;split
 .rename_i x a;exact(h.st x<|ZXp a).1
 .exact ZXi _
def Zdj:emp.size<=1000:=ZXi _
def ZeG{w:Wk}(h:SizeOk w.s)(c:EvS w.e)(j:∀x∈w.e.Lst.l,x.Id.size<=1000):SizeOk (stepW w).s:=by
 unfold stepW;split
 .refine⟨?_,h.st,h.bu,h.dr,h.un⟩;unfold Hj;cases decide (Qo w.s w.e.Id<0)with
  |true=>exact Zd9 h.rg<|Zdi ⟨ZXi _,c.path,c.id⟩
  |false=>exact ZbD h.rg<|λx b=>⟨b.1,c.path,b.2.2⟩
 .exact⟨h.rg,Zd9 h.st<|Zdi ⟨ZXi _,c.path,c.id⟩,h.bu,h.dr,h.un⟩
 .unfold Hl;cases decide (Qo w.s w.e.Id>=0)with
  |true=>exact⟨ZbD h.rg<|λx b=>⟨c.names,b.2⟩,h.st,h.bu,h.dr,h.un⟩
  |false=>exact⟨h.rg,ZbD h.st<|λx b=>⟨c.names,b.2⟩,h.bu,h.dr,h.un⟩
 .exact⟨h.rg,ZbD (ZbD h.st<|λx b=>⟨Ze4 h _,b.2⟩)<|λx b=>⟨Ze4 h _,b.2⟩,h.bu,h.dr,h.un⟩
 .exact⟨h.rg,h.st,Zd9 h.bu<|Zdi ⟨c.path,c.id⟩,h.dr,h.un⟩
 .exact ZdB h ⟨ZXi _,c.id,c.other,c.text,Zdj⟩
 .exact⟨h.rg,h.st,h.bu,h.dr,Zd9 h.un<|Zdi ⟨c.id,c.other,c.text⟩⟩
 .exact⟨h.rg,h.st,h.bu,Ze3 h.dr _,h.un⟩
 .unfold Kb;split
  .rename_i d i;have g:=h.dr d<|ZXp i;refine Zdr (w:=Y5 w d w.e.Lst.l) ⟨h.rg,h.st,h.bu,Zd9 h.dr<|λy hy=>?_,h.un⟩ ?_ (λid hid=>?_)
   .obtain⟨x,b,rfl⟩:=ZXI.1 hy;exact⟨ZXi _,j x b,g.building,g.street,Zdj⟩
   .rw[ZXg];exact ZXW c.lst<|by decide
   .obtain⟨x,b,rfl⟩:=ZXI.1 hid;exact j x b
  .exact h
 .unfold Kd;split
  .rename_i d i;have g:=h.dr d<|ZXp i;exact Ze1 (a:=⟨false,[w.e.Id]⟩) (by simp) (λid hid=>by rw[ZXO]at hid;subst hid;exact c.id) _ _<|ZdB h ⟨ZXi _,c.id,g.building,g.street,Zdj⟩
  .exact h
 .unfold Ht;exact Ze2 (w:=JH w<|ZK w.s.Bt (Y1 w.s w.e.Id).toNat<|Ke w.e) ⟨h.rg,h.st,ZbD (f:=Ke w.e) h.bu<|λx b=>b,h.dr,h.un⟩ _
 .unfold Hy;cases Kg w.s w.e.Id with
  |true=>exact⟨ZbD h.rg<|λx b=>b,h.st,h.bu,h.dr,h.un⟩
  |false=>
  cases Kh w.s w.e.Id with
  |true=>exact⟨h.rg,ZbD h.st<|λx b=>b,h.bu,h.dr,h.un⟩
  |false=>
  cases Ki w.s w.e.Id with
  |true=>exact Zdr h (ZXi _)<|λid hc=>by cases hc
  |false=>exact⟨h.rg,h.st,h.bu,h.dr,ZbD h.un<|λx b=>b⟩
 .exact⟨h.rg,h.st,h.bu,h.dr,h.un⟩
 .exact⟨h.rg,h.st,h.bu,h.dr,h.un⟩
 .exact ZdB h ⟨ZXi _,c.id,Zdj,Zdj,c.text⟩
def ZeH(s:Sta)(b:StF s)(a:Int)(e:Gt)(c:EvS e)(f:∀x∈e.Lst.l,x.Id.size<=1000):StE (ZP s a e):=by
 unfold ZP;cases okB s a e&&(Q1 (wk0 s a e)==0&&Wh (stepW<|wk0 s a e).s.Bc)with
 |true=>
  have h:=ZeG (w:=wk0 s a e) ⟨b.e.regions,b.e.streets,b.e.buildings,b.e.doors,b.e.units⟩ c f;exact⟨FN s b a e c,h.rg,h.st,h.bu,h.dr,h.un⟩
 |false=>
  refine⟨⟨ZXi _,ZXi _,ZXi _,ZXi _,ZXi _,ZXi _,ZXi _⟩,?_,?_,?_,?_,?_⟩
  all_goals (intro x d;cases d)
def ZoO(m:List<|Int×Int)(k v:Int):List (Int×Int):=match m.findIdx? (λp=>k==p.1)with|some i=>m.set i (k,v)|none=>m++[(k,v)]
def Zos(l:List bf):List (Int×Int):=l.foldl (λm p=>ZoO m p.b p.a) []
def ZoB(m:List<|Int×Int)(k:Int):Option Int:=(m.find?<|λp=>k==p.1).map (·.2)
def ZoL(m:List<|Int×Int):Nat->Int->Option Int
 |0,_=>none
 |n+1,a=>match ZoB m a with|some b=>ZoL m n b|none=>some a
def Zpn(k:Int):∀(m:List<|Int×Int)(i:Nat),ZW false [1] (I k) (m.map<|λp=>I p.1) i=some ((m.findIdx?<|λp=>k==p.1).map (· + i))
 |[],i=>rfl
 |p::r,i=>by
  have b:=Zpn k r<|i+1;have a:Zz false [1] (I k) (I p.1)=some (k==p.1):=by simp only[go_sem,ZXC,if_true]
  rw[ZXn];unfold ZW;rw[a];dsimp only;rw[b,List.findIdx?_cons];cases k==p.1 with
  |true=>simp
  |false=>
   simp only[cond_false,ZXB,if_false];congr 1;cases List.findIdx? (λp=>k==p.1) r with
   |none=>rfl
   |some j=>simp;omega
def ZpA(k:Int):Zz false [1] (I k) (I k)=some true:=by simp only[go_sem,ZXC,beq_self_eq_true,if_true]
def Zq7(m:List<|Int×Int)(k v:Int){h:Hp}{b:Nat}(e:h[b]?=some (.map (m.map<|λp=>I p.1)<|m.map<|λp=>I p.2)):
 YK h false [1] (.mp b) (I k) (I v)=some (.bot,setH h b<|.map ((ZoO m k v).map (λp=>I p.1))<|(ZoO m k v).map (λp=>I p.2)):=by
 simp only[YK,e,Yo,ZpA];rw[Zpn k m 0];unfold ZoO;cases l:m.findIdx? (λp=>k==p.1)with
 |none=>
  simp only[Option.map_none,ZM,ZH,ZXx,ZXn,ZXD]
 |some i=>
  simp only[ZXR,ZYb,ZM,ZH,ZXJ];obtain⟨d,f,_⟩:=ZZN.1 l;have g:(m.map<|λp=>I p.1).set i (I k)=m.map (λp=>I p.1):=by
   have a:k=m[i].1:=by simpa using f
   apply ZYy;intro j;rw[List.getElem?_set];by_cases c:i=j
   .subst c;rw[if_pos rfl,if_pos (by rw[ZXg];exact d),ZY8,ZXj d,a]
    rfl
   .rw[if_neg c]
  rw[g]
def lkV:Option Int->AV
 |some v=>I v
 |none=>I 0
def look_ok(m:List<|Int×Int)(k:Int)(bw:Bool)(h:Hp):
 W5 h false [1] true (I 0) (.imap bw (m.map<|λp=>I p.1)<|m.map<|λp=>I p.2) (I k)=some (.tup [lkV<|ZoB m k,.bool (ZoB m k).isSome]):=by
 simp only[W5,QW,ZpA];rw[Zpn k m 0];unfold ZoB;cases b:m.findIdx? (λp=>k==p.1)with
 |none=>
  have e:m.find? (λp=>k==p.1)=none:=by
   rw[ZZw];intro x g;have:=List.findIdx?_eq_none_iff.1 b x g;simpa using this
  rw[e];rfl
 |some i=>
  obtain⟨c,f,a⟩:=ZZN.1 b;have d:m.find? (λp=>k==p.1)=some m[i]:=by
   rw[List.find?_eq_some_iff_getElem];exact⟨f,i,c,rfl,λj hj=>by have:=a j hj;simpa using this⟩
  rw[d];simp only[ZXR,ZYb,ZY8,ZXj c,ZZK];rfl
def Zq8(m:List<|Int×Int)(k v x:Int):ZoB (ZoO m k v) x=if x=k then some v else ZoB m x:=by
 unfold ZoO;cases l:m.findIdx? (λp=>k==p.1)with
 |none=>
  have q:∀p∈m,p.1≠k:=by
   intro p b e;have:=List.findIdx?_eq_none_iff.1 l p b;rw[e]at this;simp at this
  unfold ZoB;dsimp only;rw[List.find?_append];by_cases a:x=k
  .subst a;have:m.find? (λp=>x==p.1)=none:=by
    rw[ZZw];intro p b e;exact q p b (by simpa using e:x=p.1).symm
   rw[this,if_pos rfl];simp
  .rw[if_neg a];cases m.find? (λp=>x==p.1)with
   |some p=>rfl
   |none=>
    have:(x==k)=false:=by simpa using a
    simp[this]
 |some i=>
  obtain⟨o,b,g⟩:=ZZN.1 l;have d:k=m[i].1:=by simpa using b
  dsimp only;clear l;induction m generalizing i with
  |nil=>exact absurd o<|ZYT _
  |cons p r ih=>
   cases i with
   |zero=>
    have h:k=p.1:=d;unfold ZoB;rw[ZZL,ZZe,ZZe];by_cases a:x=k
    .subst a;rw[if_pos rfl];simp
    .rw[if_neg a];have h1:(x==k)=false:=by simpa using a
     have h2:(x==p.1)=false:=by rw[<-h];exact h1
     simp only[h1,h2]
   |succ i=>
    have s:=g 0<|Nat.succ_pos i;have f:(k==p.1)=false:=by simpa using s
    have c:=ih i (by simpa using o) (by simpa using b) (λj hj=>by have:=g (j+1) (by omega);simpa using this)<|by simpa using d
    unfold ZoB at c⊢;rw[List.set_cons_succ,ZZe,ZZe];cases a:x==p.1 with
    |true=>
     have t:x=p.1:=by simpa using a
     have n:x≠k:=by
      intro e;rw[<-e,a]at f;cases f
     rw[if_neg n]
    |false=>exact c
def Zq9(l:List bf)(h:(l.map (·.b)).Nodup)(x:Int):ZoB (Zos l) x=(l.find?<|λp=>p.b==x).map (·.a):=by
 have G:∀(l:List bf)(m:List<|Int×Int),(l.map (·.b)).Nodup->ZoB (l.foldl (λm p=>ZoO m p.b p.a) m) x=match(l.find?<|λp=>p.b==x).map (·.a)with|some v=>some v|none=>ZoB m x:=by
  intro l;induction l with
  |nil=>intro m _;rfl
  |cons p r ih=>
   intro m d;rw[ZXn,ZYo]at d;rw[ZY5,ih _ d.2,Zq8,ZZe];cases e:p.b==x with
   |true=>
    have c:p.b=x:=by simpa using e
    have i:r.find? (λp=>p.b==x)=none:=by
     rw[ZZw];intro q j g;have:q.b=x:=by simpa using g
     exact d.1 (by rw[c,<-this];exact ZZ2 (f:=(·.b)) j)
    rw[i,if_pos c.symm];rfl
   |false=>
    have c:¬x=p.b:=λg=>by rw[g]at e;simp at e
    rw[if_neg c]
 have:=G l [] h;unfold Zos;rw[this];cases(l.find?<|λp=>p.b==x).map (·.a)<;>rfl
def ZpB:∀(l:List bf)(K:List Int)(b:Int),(K.any (Vm b)=true\/∃p∈l,p.b=b)->(l.foldl (λK p=>Qi Vm K p.b) K).any (Vm b)=true
 |[],K,b,h=>h.elim id<|λ⟨p,a,_⟩=>by cases a
 |p::r,K,b,h=>by
  rw[ZY5];refine ZpB r _ b ?_;rcases h with h|⟨q,hq,hb⟩
  .left;unfold Qi;cases K.any (Vm p.b)with
   |true=>exact h
   |false=>rw[cond_false,List.any_append,h,ZXE]
  .rcases ZXF.1 hq with rfl|hq
   .left;unfold Qi;cases c:K.any (Vm q.b)with
    |true=>rw[cond_true,<-hb];exact c
    |false=>
     rw[cond_false,List.any_append,hb];unfold Vm;simp
   .exact Or.inr ⟨q,hq,hb⟩
def ZpC{s:Sta}(d:WK s=true):(s.Gc.map (·.b)).Nodup/\∀q∈s.Gc,Y2 q=true:=by
 unfold WK at d;simp only[ZXf]at d;obtain⟨a,_,_⟩:=d;unfold UB at a;rw[Zda]at a;refine⟨?_,λq hq=>?_⟩
 .rw[List.nodup_iff_pairwise_ne,ZZ3,ZZq];intro i j g e c f;have:=a j s.Gc[j]<|ZXj e;rw[ZXA,ZXf,ZXM]at this;have h2:=this.2;unfold QV at h2;rw[ZpB (s.Gc.take j) [] s.Gc[j].b<|Or.inr ⟨s.Gc[i],?_,f⟩]at h2
  .cases h2
  .rw[ZYv];exact⟨i,by rw[ZZt,if_pos c];exact ZXj g⟩
 .obtain⟨j,e⟩:=ZYv.1 hq;have:=a j q e;rw[ZXf]at this;exact this.1
def Zoz(a:Int):Bool:=decide (0<=a)&&decide (a<=63)
def Zpo{q:bf}(h:Y2 q=true):(0<=q.a/\q.a<=63)/\(0<=q.b/\q.b<=63):=by
 unfold Y2 QM ZD at h;simp only[ZXf,decide_eq_true_eq]at h;exact⟨⟨h.1.1.1,h.1.1.2⟩,⟨h.2.1.1.1,h.2.1.1.2⟩⟩
def ZpD{s:Sta}(c:WK s=true)(x:Int):ZoB (Zos s.Gc) x=bif decide (XJ s x<0)then none else some (XJ s x):=by
 obtain⟨h1,h2⟩:=ZpC c;rw[Zq9 _ h1];unfold XJ;cases d:s.Gc.find? (λp=>p.b==x)with
 |none=>rfl
 |some p=>
  have:=(Zpo<|h2 p<|ZZl d).1;have e:decide (p.a<0)=false:=decide_eq_false<|by omega
  simp only[ZXR,e,cond_false]
def ZpE{s:Sta}(a:WK s=true):∀(n:Nat)(x:Int),0<=x->chN s n x=true->∃b,ZoL (Zos s.Gc) n x=some b
 |0,x,hx,h=>by
  unfold chN at h;rw[show decide (x>=0)=true from decide_eq_true hx]at h
  cases h
 |n+1,x,hx,h=>by
  unfold chN at h;rw[show decide (x>=0)=true from decide_eq_true hx,cond_true]at h
  unfold ZoL;rw[ZpD a];cases c:decide (XJ s x<0)with
  |true=>exact⟨x,rfl⟩
  |false=>
   have:=of_decide_eq_false c;exact ZpE a n (XJ s x) (by omega) h
def Zoq(s:Sta)(a:Int):Int:=(ZoL (Zos s.Gc) (s.Gc.length+1) a).getD a
def ZpF{s:Sta}(c:WK s=true){a:Int}(d:0<=a):ZoL (Zos s.Gc) (s.Gc.length+1) a=some (Zoq s a):=by
 obtain⟨b,e⟩:=ZpE c _ a d<|Z3L s c a;unfold Zoq;rw[e];rfl
def ZpG{s:Sta}(c:WK s=true):∀(n:Nat)(a b:Int),0<=a/\a<=63->ZoL (Zos s.Gc) n a=some b->0<=b/\b<=63
 |0,a,b,_,h=>by cases h
 |n+1,a,b,ha,h=>by
  unfold ZoL at h;rw[ZpD c]at h;cases d:decide (XJ s a<0)with
  |true=>rw[d]at h;cases h;exact ha
  |false=>
   rw[d]at h;refine ZpG c n (XJ s a) b ?_ h;have e:=of_decide_eq_false d;unfold XJ at e⊢;cases f:s.Gc.find? (λp=>p.b==a)with
   |none=>rw[f]at e;exact absurd (by decide) e
   |some p=>exact(Zpo<|(ZpC c).2 p (ZZl f)).1
def ZpH{s:Sta}(c:WK s=true){a:Int}(b:0<=a/\a<=63):0<=Zoq s a/\Zoq s a<=63:=ZpG c _ a _ b<|ZpF c b.1
def ibr(h:Hp)(a b c:Bool):DRec:=bif a&&(!b&&!c)then⟨false,[],some h.length,none⟩else⟨false,[],none,none⟩
def Zqa(h:Hp):ibr h true false false=⟨false,[],some h.length,none⟩:=rfl
def Zqd{E:Env}{sz:Nat}{x:Arg}{fr:Fr}{h:Hp}:Za E (.ibox sz x) fr h=ibr h (fits sz<|ev E (Z2 x.slots fr) x) (Z4 (ev E (Z2 x.slots fr) x).cells) (Zi (ev E (Z2 x.slots fr) x).cells):=by
 simp only[Za,Z8,AOp.slots];cases fits sz (ev E (Z2 x.slots fr) x)<;>cases Z4 (ev E (Z2 x.slots fr) x).cells<;>cases Zi (ev E (Z2 x.slots fr) x).cells<;>rfl
attribute [go_sem] Zqd Zqa
def Zqe(bw:Bool)(h:Hp)(n:Nat)(l:List AV)(a:Z4 l=true):ZC bw h (n+1) l=some l:=by
 unfold ZC;rw[a];rfl
def Zqf(bw:Bool)(h:Hp)(n b:Nat)(a vs:List AV)(e:h[b]?=some (.map a vs))(d:Z4 a=true)(c:Z4 vs=true):freeze bw h (n+2) (.mp b)=some (.imap bw a vs):=by
 unfold freeze;rw[show clean (.mp b)=false from rfl,cond_false]
 dsimp only;rw[e];dsimp only;rw[d,cond_true,Zqe bw h n vs c];rfl
abbrev tkV(s:Sta):AV:=.imap false ((Zos s.Gc).map (λp=>I p.1))<|(Zos s.Gc).map (λp=>I p.2)
abbrev ldA(s:Sta):List AV:=[.isl false false 6<|s.Fa.map Gk.enc,.isl false false 5<|s.Gm.map By.enc,.isl false false 4<|s.Bt.map Ev.enc,.isl false false 16<|s.Bc.map Ga.enc,.isl false false 6<|s.Nk.map be.enc,.isl false false 2<|s.Gc.map bf.enc,.isl false false 2<|s.ba.map bf.enc,tkV s]
abbrev ldI(s:Sta):AV:=.iptr false<|ldA s
def Zqg(s:Sta)(u:s.Gc.length<=1000):Zg rE [1,4,9,10,11] c66L0b [(1,stI s),(4,.mp 0),(9,.isl false false 2<|s.Gc.map bf.enc),(10,I s.Gc.length),(11,.int .i64 0)] [.map [] []] =
 some (.exit 0,[(1,stI s),(4,.mp 0),(9,.isl false false 2<|s.Gc.map bf.enc),(10,I s.Gc.length),(11,I s.Gc.length)],[.map ((Zos s.Gc).map (λp=>I p.1))<|(Zos s.Gc).map (λp=>I p.2)]):=by
 have j:∀(m:List<|Int×Int)n,Zd n (m.map<|λp=>I p.1)=true/\Zd n (m.map<|λp=>I p.2)=true:=λm n=>⟨ZN _<|Zw (λt=>rfl) m,ZN _<|Zw (λt=>rfl) m⟩
 have L:=Y8 (E:=rE) (live:=[1,4,9,10,11]) (b:=c66L0b) s.Gc.length (λi=>[(1,stI s),(4,.mp 0),(9,.isl false false 2<|s.Gc.map bf.enc),(10,I s.Gc.length),(11,I i)])
  (λi=>[.map ((Zos<|s.Gc.take i).map (λp=>I p.1))<|(Zos<|s.Gc.take i).map (λp=>I p.2)]) (λi=>rfl)
  (λi hi=>by
   obtain⟨x,k⟩:∃x,s.Gc[i]?=some x:=⟨_,ZXj hi⟩;have o:=Z6 (f:=bf.enc) k;have d:=Zh hi;have g:=Zx (n:=i)<|by omega
   have c:Zos (s.Gc.take<|i+1)=ZoO (Zos<|s.Gc.take i) x.b x.a:=Us _ _ k;rw[c];have l:=λ(q:AObj)=>Zq7 (Zos<|s.Gc.take i) x.b x.a (h:=[.map ((Zos<|s.Gc.take i).map (λp=>I p.1))<|(Zos<|s.Gc.take i).map (λp=>I p.2),q]) (b:=0) rfl
   generalize Zos (s.Gc.take i)=m at*;have n0:((0:Int)).toNat=0:=rfl;have r:((1:Int)).toNat=1:=rfl;refine⟨[(1,stI s),(4,.mp 0),(9,.isl false false 2<|s.Gc.map bf.enc),(10,I s.Gc.length),(11,I (i+1:Nat))],?_,rfl⟩;simp only[go_sem,c66L0b,o,d,g,bf.enc,WJ,XL,n0,r,if_true,l,j])
  (e:=.exit 0) (fr:=[(1,stI s),(4,.mp 0),(9,.isl false false 2<|s.Gc.map bf.enc),(10,I s.Gc.length),(11,I s.Gc.length)]) (h:=[.map ((Zos s.Gc).map (λp=>I p.1))<|(Zos s.Gc).map (λp=>I p.2)]) (by
   rw[ZXG];simp only[go_sem,c66L0b,ZG,j]) (by simp)
 exact L
def Zp7(s:Sta)(b:StE s):pfn rE 66 [stA s]=some (.tup [ldI s,.bool<|Jx s]):=by
 have d:=Z3i s b;have L:=Zqg s b.sizes.merged;have c:∀(m:List<|Int×Int)n,Zd n (m.map<|λp=>I p.1)=true/\Zd n (m.map<|λp=>I p.2)=true:=λm n=>⟨ZN _<|Zw (λt=>rfl) m,ZN _<|Zw (λt=>rfl) m⟩
 have a:Z4 ((Zos s.Gc).map (λp=>I p.1))=true/\Z4 ((Zos s.Gc).map (λp=>I p.2))=true:=⟨Zw (λt=>rfl) _,Zw (λt=>rfl) _⟩
 have e:=λq=>Zqf false [.map ((Zos s.Gc).map (λp=>I p.1))<|(Zos s.Gc).map (λp=>I p.2),q] 27 0 _ _ rfl a.1 a.2
 simp only[stI]at L;rw[Z5 (f:=66) rfl rfl];simp only[go_sem,c66,c66L0,L,d,c,e]
def Zp8(a:Int):pfn rE 67 [I a]=some (.bool<|Zoz a):=by
 rw[Z5 (f:=67) rfl rfl];unfold Zoz;have h:decide (a<64)=decide (a<=63):=by
  by_cases c:a<=63
  .rw[decide_eq_true c,decide_eq_true<|by omega]
  .rw[decide_eq_false c,decide_eq_false<|by omega]
 have b:decide (a>=0)=decide (0<=a):=rfl;cases c:decide (0<=a)<;>simp only[go_sem,c67,b,c,h]
def ZpI(s:Sta)(b:Int):∀(n:Nat)(a:Int),ZoL (Zos s.Gc) n a=some b->
 ∃fr',Zg rE [0,1,5,6] c69L0b [(0,ldI s),(1,I a),(5,lkV<|ZoB (Zos s.Gc) a),(6,.bool (ZoB (Zos s.Gc) a).isSome)] []=some (.exit 0,fr',[])/\get fr' 1=I b
 |0,a,h=>by cases h
 |n+1,a,h=>by
  unfold ZoL at h;have g:=λx=>look_ok (Zos s.Gc) x false []
  cases d:ZoB (Zos s.Gc) a with
  |none=>
   rw[d]at h;cases h;refine⟨_,Q7 rfl (e:=.exit 0) (fr':=[(0,ldI s),(1,I b),(5,I 0),(6,.bool false)]) (by simp only[go_sem,c69L0b,ZZJ,lkV]) (by simp),by simp only[go_sem]⟩
  |some c=>
   rw[d]at h;dsimp only at h;obtain⟨fr',h1,h2⟩:=ZpI s b n c h;refine⟨fr',?_,h2⟩;have f:=g c;rw[Yt rfl (fr':=[(0,ldI s),(1,I c),(5,lkV<|ZoB (Zos s.Gc) c),(6,.bool (ZoB (Zos s.Gc) c).isSome)]) (h':=[]) (by simp only[go_sem,c69L0b,ZZK,lkV,f])]
   exact h1
def ZpJ(s:Sta)(b:WK s=true)(a:Int)(c:0<=a):pfn rE 69 [ldI s,I a]=some (I<|Zoq s a):=by
 obtain⟨fr',h1,h2⟩:=ZpI s _ _ a<|ZpF b c;have d:=look_ok (Zos s.Gc) a false [];rw[Z5 (f:=69) rfl rfl];simp only[go_sem,c69,c69L0,d,h1,h2]
def ZoE(m:Int->Int)(a b:Int):List bf->Option Bool
 |[]=>none
 |p::r=>bif m p.a==a&&m p.b==b then some (a != b)else bif m p.a==b&&m p.b==a then some false else ZoE m a b r
def ZoW(s:Sta)(a b:Int):Bool:=(ZoE (Zoq s) a b s.ba.reverse).getD false
abbrev ruV(s:Sta):AV:=.isl false false 2<|s.ba.map bf.enc
def Zov(s:Sta)(a b:Int):Fr:=[(3,.iptr false [ldI s]),(4,.iptr false [I a]),(5,.iptr false [I b]),(6,.ptr 0 0 0 1),(16,.clo (.func 333) [] [.iptr false [ruV s]])]
def prH(s:Sta)(a b:Int):Hp:=[.row 1 [.bool false],.loop .ready .normal (Zov s a b) [17,18] c142R0a c142R0b]
def prD(s:Sta)(a b:Int)(r:Bool):Hp:=[.row 1 [.bool r],.loop .done .ret (Zov s a b) [17,18] c142R0a c142R0b]
def Zot(s:Sta)(n:Nat):bel n (ldI s)=true:=by
 have a:Z4 [ldI s]=true:=by
  have b:Z4 ((Zos s.Gc).map (λp=>I p.1))=true/\Z4 ((Zos s.Gc).map (λp=>I p.2))=true:=⟨Zw (λt=>rfl) _,Zw (λt=>rfl) _⟩
  simp only[go_sem]
 have:=ZN (n:=n) [ldI s] a;unfold Zd at this;rw[ZXf]at this;exact this.1
def Zow(s:Sta):clean (ldI s)=true:=by
 have a:Z4 ((Zos s.Gc).map (λp=>I p.1))=true/\Z4 ((Zos s.Gc).map (λp=>I p.2))=true:=⟨Zw (λt=>rfl) _,Zw (λt=>rfl) _⟩
 simp only[go_sem]
def Zqh(s:Sta)(a b:Int)(i:Nat)(p:bf)(j:pfn rE 69 [ldI s,I p.a]=some (I<|Zoq s p.a))(k:pfn rE 69 [ldI s,I p.b]=some (I<|Zoq s p.b)):
 U4 rE 1 [I i,.agg [I p.a,I p.b]] (prH s a b)=some (match ZoE (Zoq s) a b [p]with
  |none=>(.bool true,prH s a b++[.row 2 [.agg [I p.a,I p.b]]])
  |some r=>(.bool false,prD s a b r++[.row 2 [.agg [I p.a,I p.b]]])):=by
 have n0:((0:Int)).toNat=0:=rfl;have l:((1:Int)).toNat=1:=rfl;have m:=Zot s;have n:=Zow s;unfold ZoE ZoE;generalize Zoq s p.a=x at*;generalize Zoq s p.b=y at*;cases f:x==a&&y==b with
 |true=>
  have h:=Ss (E:=rE) (b:=1) (args:=[I i,.agg [I p.a,I p.b]]) (h:=prH s a b) (fr:=Zov s a b) (ps:=[17,18]) (assign:=c142R0a) (body:=c142R0b)
   (fr0:=(18,.agg [I p.a,I p.b])::(17,I i)::Zov s a b) rfl rfl (by simp only[go_sem,c142R0a,prH,Zov]<;>rfl) (by rfl)
   (by
    cases c:x==a with
    |false=>rw[c]at f;cases f
    |true=>
    rw[c,ZXk]at f;simp only[go_sem,c142R0b,j,k,WJ,XL,n0,l,c,f]<;>rfl) (by rfl)
  exact h
 |false=>
  rw[cond_false];cases g:x==b&&y==a with
  |true=>
   have h:=Ss (E:=rE) (b:=1) (args:=[I i,.agg [I p.a,I p.b]]) (h:=prH s a b) (fr:=Zov s a b) (ps:=[17,18]) (assign:=c142R0a) (body:=c142R0b)
    (fr0:=(18,.agg [I p.a,I p.b])::(17,I i)::Zov s a b) rfl rfl (by simp only[go_sem,c142R0a,prH,Zov]<;>rfl) (by rfl)
    (by
     cases d:x==b with
     |false=>rw[d]at g;cases g
     |true=>
     rw[d,ZXk]at g;cases c:x==a with
     |false=>simp only[go_sem,c142R0b,j,k,WJ,XL,n0,l,c,d,g]<;>rfl
     |true=>
      rw[c,ZXk]at f;simp only[go_sem,c142R0b,j,k,WJ,XL,n0,l,c,f,d,g]<;>rfl) (by rfl)
   exact h
  |false=>
   have h:=Ss (E:=rE) (b:=1) (args:=[I i,.agg [I p.a,I p.b]]) (h:=prH s a b) (fr:=Zov s a b) (ps:=[17,18]) (assign:=c142R0a) (body:=c142R0b)
    (fr0:=(18,.agg [I p.a,I p.b])::(17,I i)::Zov s a b) rfl rfl (by simp only[go_sem,c142R0a,prH,Zov]<;>rfl) (by rfl)
    (e:=.normal) (fr2:=[]) (h2:=[.row 1 [.bool false],.loop .busy .normal (Zov s a b) [17,18] c142R0a c142R0b,.row 2 [.agg [I p.a,I p.b]]])
    (by
     cases c:x==a with
     |false=>
      cases d:x==b with
      |false=>simp only[go_sem,c142R0b,Zov,j,k,WJ,XL,n0,l,c,d]<;>rfl
      |true=>
       rw[d,ZXk]at g;simp only[go_sem,c142R0b,Zov,j,k,WJ,XL,n0,l,c,d,g]<;>rfl
     |true=>
      rw[c,ZXk]at f;cases d:x==b with
      |false=>simp only[go_sem,c142R0b,Zov,j,k,WJ,XL,n0,l,c,f,d]<;>rfl
      |true=>
       rw[d,ZXk]at g;simp only[go_sem,c142R0b,Zov,j,k,WJ,XL,n0,l,c,f,d,g]<;>rfl) (by rfl)
   exact h
def ZpK(s:Sta)(a b:Int)(q:s.ba.length<=1000)(n:∀p∈s.ba,pfn rE 69 [ldI s,I p.a]=some (I<|Zoq s p.a)/\pfn rE 69 [ldI s,I p.b]=some (I<|Zoq s p.b)):
 ∀(k:Nat),k<=s.ba.length->∃fr',Zg rE [0,1,3] c333L0b [(0,.yld 1),(1,.iptr false [ruV s]),(3,I<|(k:Int)-1)] (prH s a b) =
  some (match ZoE (Zoq s) a b (s.ba.take k).reverse with|none=>(.exit 0,fr',prH s a b)|some r=>(.ret,fr',prD s a b r))
 |0,_=>⟨_,Q7 rfl (e:=.exit 0) (fr':=[(0,.yld 1),(1,.iptr false [ruV s]),(3,I<|-1)]) (by
  have u:decide (((0:Nat):Int)-1>=0)=false:=rfl;simp only[go_sem,c333L0b,u,prH];rfl) (by simp)⟩
 |k+1,hk=>by
  obtain⟨x,j⟩:∃x,s.ba[k]?=some x:=⟨_,ZXj<|by omega⟩
  obtain⟨w,t⟩:=n x<|ZXp j;have m:=Z6 (f:=bf.enc) j;have c:=Zqh s a b k x w t;have h:(((k+1:Nat):Int)-1)=(k:Int):=by omega
  have d:decide ((k:Int)>=0)=true:=decide_eq_true<|by omega
  have y:IntKind.i64.wrap ((k:Int)-1)=(k:Int)-1:=YM (by omega)<|by omega
  have i:(s.ba.take<|k+1).reverse=x::(s.ba.take k).reverse:=by
   rw[ZYm,j,List.reverse_append];rfl
  have v:=Zot s;have g:Zd 2 (frV<|Zov s a b)=true:=by simp only[go_sem,Zov]
  have l:ZoE (Zoq s) a b (x::(s.ba.take k).reverse)=match ZoE (Zoq s) a b [x]with|some r=>some r|none=>ZoE (Zoq s) a b (s.ba.take k).reverse:=by
   show(bif _ then _ else bif _ then _ else _)=_
   unfold ZoE;cases Zoq s x.a==a&&Zoq s x.b==b with
   |true=>rfl
   |false=>
    rw[cond_false,cond_false];cases Zoq s x.a==b&&Zoq s x.b==a with
    |true=>rfl
    |false=>rw[cond_false,cond_false];unfold ZoE;rfl
  rw[i,l,h];cases o:ZoE (Zoq s) a b [x]with
  |some r=>
   rw[o]at c;dsimp only at c;refine⟨_,Q7 rfl (e:=.ret) (fr':=[(0,.yld 1),(1,.iptr false [ruV s]),(3,I k)]) (by
    simp only[prH,prD,ZXl,ZXo]at c⊢;simp only[go_sem,c333L0b,S3,m,d,c,bf.enc,g]) (by simp)⟩
  |none=>
   rw[o]at c;dsimp only at c;obtain⟨fr',h1⟩:=ZpK s a b q n k<|by omega
   refine⟨fr',?_⟩;rw[Yt rfl (fr':=[(0,.yld 1),(1,.iptr false [ruV s]),(3,I<|(k:Int)-1)]) (h':=prH s a b) (by
    simp only[prH,ZXl,ZXo]at c⊢;simp only[go_sem,c333L0b,S3,m,d,y,c,bf.enc,g])]
   exact h1
def Zqi(ex:Bool)(es:List AV)(h:Hp)(a:Z4 es=true):fnV rE 262 [.isl false ex 2 es] h=some (.clo (.func 333) [] [.iptr false [.isl false ex 2 es]],h):=by
 rw[Q6 (f:=262) rfl rfl];simp only[go_sem,c262]
def Zqj(s:Sta)(a b:Int)(g:s.ba.length<=1000)(h:∀p∈s.ba,pfn rE 69 [ldI s,I p.a]=some (I<|Zoq s p.a)/\pfn rE 69 [ldI s,I p.b]=some (I<|Zoq s p.b)):
 rf rE (.clo (.func 333) [] [.iptr false [ruV s]]) [17,18] c142R0a c142R0b (Zov s a b) [.row 1 [.bool false]]=match ZoE (Zoq s) a b s.ba.reverse with
  |none=>some (.normal,Zov s a b,[.row 1 [.bool false],.loop .exhausted .normal (Zov s a b) [17,18] c142R0a c142R0b])
  |some r=>some (.ret,Zov s a b,[.row 1 [.bool r],.loop .exhausted .ret (Zov s a b) [17,18] c142R0a c142R0b]):=by
 obtain⟨fr',L⟩:=ZpK s a b g h s.ba.length<|ZXh _;rw[ZXG]at L;have f:IntKind.i64.wrap ((s.ba.length:Int)-1)=(s.ba.length:Int)-1:=YM (by omega)<|by omega
 have i:=Zot s;have d:Zd 2 (frV<|Zov s a b)=true:=by simp only[go_sem,Zov]
 rw[Z1k (c:=c333) rfl];simp only[prH,prD]at L;cases e:ZoE (Zoq s) a b s.ba.reverse with
 |none=>
  rw[e]at L;dsimp only at L;simp only[go_sem,c333,c333L0,f,L,d];rfl
 |some r=>
  rw[e]at L;dsimp only at L;simp only[go_sem,c333,c333L0,f,L,d];rfl
def ZpL(s:Sta)(a b:Int)(i:s.ba.length<=1000)(j:∀p∈s.ba,pfn rE 69 [ldI s,I p.a]=some (I<|Zoq s p.a)/\pfn rE 69 [ldI s,I p.b]=some (I<|Zoq s p.b)):
 pfn rE 142 [ldI s,I a,I b]=some (.bool<|ZoW s a b):=by
 have c:=Zqj s a b i j;have g:=λh=>Zqi false (s.ba.map bf.enc) h<|Zw (λt=>rfl) _
 have e:=Zow s;have k:=Zot s;unfold ZoW;rw[Z5 (f:=142) rfl rfl];cases d:ZoE (Zoq s) a b s.ba.reverse with
 |none=>
  rw[d]at c;dsimp only at c;simp only[Zov]at c;simp only[go_sem,c142,g,Sr,c,e];rfl
 |some r=>
  rw[d]at c;dsimp only at c;simp only[Zov]at c;simp only[go_sem,c142,g,Sr,c,e];rfl
def hfX(q:Int)(p:Int):Int:=W<|W (2*q)-p
def ZoX(p a b:Pt):Int:=W<|W (hfX a.X p.X*hfX b.Y p.Y)-W (hfX a.Y p.Y*hfX b.X p.X)
def Zp9(p a b:Pt):Bool:=ZoX p a b==0&&decide (W (W (hfX a.X p.X*hfX b.X p.X)+W (hfX a.Y p.Y*hfX b.Y p.Y))<=0)
def Zp4(p a b:Pt)(w:Int):Int:=
 bif decide (hfX a.Y p.Y<=0)&&(decide (hfX b.Y p.Y>0)&&decide (ZoX p a b>0))then W<|w+1
 else bif decide (hfX a.Y p.Y>0)&&(decide (hfX b.Y p.Y<=0)&&decide (ZoX p a b<0))then W (w-1)else w
def ZoP(p:Pt)(l:List Pt)(a:Int×Bool)(i:Nat):Int×Bool:=
 (Zp4 p (pAt l i) (pAt l<|(i+1)%l.length) a.1,a.2||Zp9 p (pAt l i) (pAt l<|(i+1)%l.length))
def ZoC(l:List Pt)(p:Pt):Int×Bool:=(List.range l.length).foldl (ZoP p l) (0,false)
def ZoD(v:AV)(p:Pt):Fr:=[(14,.clo (.func 407) [] [.iptr false [v]]),(13,v),(0,v),(3,.iptr false [I p.X,I p.Y]),(4,.ptr 0 0 0 1),(5,.ptr 1 0 0 1)]
def hfH(v:AV)(p:Pt)(a:Int×Bool):Hp:=[.row 1 [I a.1],.row 1 [.bool a.2],.loop .ready .normal (ZoD v p) [15,16] c381R0a c381R0b]
def hfD:ACode:=
 .keep []<|.block 2<|
  .seq (.keep [4,9,11,12,63]<|.region [o 64<|.mv<|.t 9,
   o 65 (.bin .leq (.t 64)<|.c<|.int .i64 0),
   o 66 (.mv<|.t 65),
   og 67 (.mv<|.t 11) 66 true,
   og 68 (.bin .gtr (.t 67)<|.c<|.int .i64 0) 66 true,
   o 69 (.pick (.t 66) (.t 68)<|.c<|.bool false),
   o 70 (.mv<|.t 69),
   og 71 (.mv<|.t 12) 70 true,
   og 72 (.bin .gtr (.t 71)<|.c<|.int .i64 0) 70 true,
   o 73 (.pick (.t 70) (.t 72)<|.c<|.bool false),
   o 63 (.mv<|.t 73)])<|
  .cond (.t 63)
   (.keep []<|.region [o 74<|.load none<|.t 4,
    o 75 (.bin .add (.t 74)<|.c<|.int .i64 1),
    ⟨none,.store 1 (.t 4)<|.t 75,none⟩])
   (.seq (.keep [4,76]<|.region [o 77<|.mv<|.t 9,
     o 78 (.bin .gtr (.t 77)<|.c<|.int .i64 0),
     o 79 (.mv<|.t 78),
     og 80 (.mv<|.t 11) 79 true,
     og 81 (.bin .leq (.t 80)<|.c<|.int .i64 0) 79 true,
     o 82 (.pick (.t 79) (.t 81)<|.c<|.bool false),
     o 83 (.mv<|.t 82),
     og 84 (.mv<|.t 12) 83 true,
     og 85 (.bin .lss (.t 84)<|.c<|.int .i64 0) 83 true,
     o 86 (.pick (.t 83) (.t 85)<|.c<|.bool false),
     o 76 (.mv<|.t 86)])<|
    .cond (.t 76)
     (.keep []<|.region [o 87<|.load none<|.t 4,
      o 88 (.bin .sub (.t 87)<|.c<|.int .i64 1),
      ⟨none,.store 1 (.t 4)<|.t 88,none⟩])
     (.skip))
def hfB:ACode:=
 .keep []<|.block 1<|
  .seq (.keep [4,5,8,9,10,11]<|.draw [[],[],[],[],[],[],[],[],[],[],[],[],[],[],[],[],[],[],[],[],[],[],[],[],[],[],[]]
   [o 17<|.fadr 0<|.t 6,
   o 18 (.load none<|.t 17),
   o 19 (.bin .mul (.c<|.int .i64 2)<|.t 18),
   o 20 (.fadr 0<|.t 3),
   o 21 (.load none<|.t 20),
   o 22 (.bin .sub (.t 19)<|.t 21),
   o 23 (.fadr 1<|.t 6),
   o 24 (.load none<|.t 23),
   o 25 (.bin .mul (.c<|.int .i64 2)<|.t 24),
   o 26 (.fadr 1<|.t 3),
   o 27 (.load none<|.t 26),
   o 28 (.bin .sub (.t 25)<|.t 27),
   o 29 (.fadr 0<|.t 7),
   o 30 (.load none<|.t 29),
   o 31 (.bin .mul (.c<|.int .i64 2)<|.t 30),
   o 32 (.fadr 0<|.t 3),
   o 33 (.load none<|.t 32),
   o 34 (.bin .sub (.t 31)<|.t 33),
   o 35 (.fadr 1<|.t 7),
   o 36 (.load none<|.t 35),
   o 37 (.bin .mul (.c<|.int .i64 2)<|.t 36),
   o 38 (.fadr 1<|.t 3),
   o 39 (.load none<|.t 38),
   o 40 (.bin .sub (.t 37)<|.t 39),
   o 8 (.mv<|.t 22),
   o 9 (.mv<|.t 28),
   o 10 (.mv<|.t 34)]
   [o 11<|.mv<|.t 40])<|
  .seq (.keep [4,5,8,9,10,11,12]<|.region [o 41<|.mv<|.t 8,
   o 42 (.mv<|.t 11),
   o 43 (.bin .mul (.t 41)<|.t 42),
   o 44 (.mv<|.t 9),
   o 45 (.mv<|.t 10),
   o 46 (.bin .mul (.t 44)<|.t 45),
   o 47 (.bin .sub (.t 43)<|.t 46),
   o 12 (.mv<|.t 47)])<|
  .seq (.keep [4,9,11,12]<|.region [o 48<|.load none<|.t 5,
   o 49 (.mv<|.t 48),
   og 50 (.mv<|.t 12) 49 false,
   og 51 (.bin .eql (.t 50)<|.c<|.int .i64 0) 49 false,
   og 52 (.mv<|.t 51) 49 false,
   og 53 (.mv<|.t 8) 52 true,
   og 54 (.mv<|.t 10) 52 true,
   og 55 (.bin .mul (.t 53)<|.t 54) 52 true,
   og 56 (.mv<|.t 9) 52 true,
   og 57 (.mv<|.t 11) 52 true,
   og 58 (.bin .mul (.t 56)<|.t 57) 52 true,
   og 59 (.bin .add (.t 55)<|.t 58) 52 true,
   og 60 (.bin .leq (.t 59)<|.c<|.int .i64 0) 52 true,
   og 61 (.pick (.t 52) (.t 60)<|.c<|.bool false) 49 false,
   o 62 (.pick (.t 49) (.c<|.bool true)<|.t 61),
   ⟨none,.store 1 (.t 5)<|.t 62,none⟩])<|
  hfD
def Zqk(p a b:Pt)(w:Int)(F:Fr)(d:Zd 6 (frV F)=true)(x:Bool)(o m l:AObj)(u:∀n,2<=n->Zj n o=true)(t:∀n,2<=n->Zj n m=true)(s:∀n,2<=n->Zj n l=true):
 Zb rE hfD [(4,.ptr 0 0 0 1),(9,I<|hfX a.Y p.Y),(11,I<|hfX b.Y p.Y),(12,I<|ZoX p a b)] [.row 1 [I w],.row 1 [.bool x],.loop .busy .normal F [15,16] c381R0a c381R0b,o,m,l] =
  some (.normal,[],[.row 1 [I<|Zp4 p a b w],.row 1 [.bool x],.loop .busy .normal F [15,16] c381R0a c381R0b,o,m,l]):=by
 have f:decide (hfX a.Y p.Y>0) = !decide (hfX a.Y p.Y<=0):=by by_cases c:hfX a.Y p.Y<=0<;>simp[c]<;>omega
 have k:decide (hfX b.Y p.Y<=0) = !decide (hfX b.Y p.Y>0):=by by_cases c:hfX b.Y p.Y>0<;>simp[c]<;>omega
 have g:=u 6<|by decide
 have i:=t 6<|by decide
 have j:=s 6<|by decide
 unfold Zp4;rw[f,k];generalize hfX a.Y p.Y=ay at*;generalize hfX b.Y p.Y=by' at*
 generalize ZoX p a b=tn at*;cases e:decide (ay<=0)with
 |true=>
  cases h:decide (by'>0)with
  |true=>
   rw[e]at f;cases q:decide (tn>0)with
   |true=>simp only[go_sem,hfD,e,h,q,d,g,i,j]
   |false=>simp only[go_sem,hfD,e,h,q,f,d,g,i,j,ZXq,ZXT,ZXm,cond_false]
  |false=>
   rw[e]at f;simp only[go_sem,hfD,e,h,f,d,g,i,j,ZXq,ZXT,ZXm,cond_false]
 |false=>
  rw[e]at f;cases h:decide (by'>0)with
  |true=>
   rw[h]at k;simp only[go_sem,hfD,e,f,k,d,g,i,j,ZXq,ZXv,ZXT,ZXm,cond_false]
  |false=>
   rw[h]at k;cases r:decide (tn<0)with
   |true=>simp only[go_sem,hfD,e,f,k,r,d,g,i,j,ZXv,ZXm,cond_false,ZXC,cond_true]
   |false=>simp only[go_sem,hfD,e,f,k,r,d,g,i,j,ZXv,ZXm,cond_false,ZXT]
def Zql(v:AV)(j:∀n,bel n v=true)(p:Pt)(c:Int×Bool)(q a b:Pt):
 U4 rE 2 [.agg [I a.X,I a.Y],.agg [I b.X,I b.Y]] (hfH v p c++[.row 2 [.agg [I q.X,I q.Y]]]) =
  some (.bool true,hfH v p (Zp4 p a b c.1,c.2||Zp9 p a b)++[.row 2 [.agg [I q.X,I q.Y]],.row 2 [.agg [I a.X,I a.Y]],.row 2 [.agg [I b.X,I b.Y]]]):=by
 have h:=Ss (E:=rE) (b:=2) (args:=[.agg [I a.X,I a.Y],.agg [I b.X,I b.Y]]) (h:=hfH v p c++[.row 2 [.agg [I q.X,I q.Y]]]) (fr:=ZoD v p) (ps:=[15,16]) (assign:=c381R0a) (body:=c381R0b)
  (fr0:=(16,.agg [I b.X,I b.Y])::(15,.agg [I a.X,I a.Y])::ZoD v p) rfl rfl (by simp only[go_sem,c381R0a,hfH,ZoD]<;>rfl) (by rfl)
  (e:=.normal) (fr2:=[]) (h2:=[.row 1 [I<|Zp4 p a b c.1],.row 1 [.bool<|c.2||Zp9 p a b],.loop .busy .normal (ZoD v p) [15,16] c381R0a c381R0b,.row 2 [.agg [I q.X,I q.Y]],.row 2 [.agg [I a.X,I a.Y]],.row 2 [.agg [I b.X,I b.Y]]])
  (by
   show Zb rE hfB [(7,.ptr 5 0 0 1),(6,.ptr 4 0 0 1),(16,.agg [I b.X,I b.Y]),(15,.agg [I a.X,I a.Y]),(14,.clo (.func 407) [] [.iptr false [v]]),(13,v),(0,v),(3,.iptr false [I p.X,I p.Y]),(4,.ptr 0 0 0 1),(5,.ptr 1 0 0 1)]
    [.row 1 [I c.1],.row 1 [.bool c.2],.loop .busy .normal (ZoD v p) [15,16] c381R0a c381R0b,.row 2 [.agg [I q.X,I q.Y]],.row 2 [.agg [I a.X,I a.Y]],.row 2 [.agg [I b.X,I b.Y]]]=_
   have d:Zd 6 (frV<|ZoD v p)=true:=by simp only[go_sem,ZoD,j]
   have g:∀(z:Pt)n,2<=n->Zj n (.row 2 [.agg [I z.X,I z.Y]])=true:=λz n _=>rfl
   have f:=λx=>Zqk p a b c.1 (ZoD v p) d x (.row 2 [.agg [I q.X,I q.Y]]) (.row 2 [.agg [I a.X,I a.Y]]) (.row 2 [.agg [I b.X,I b.Y]]) (g q) (g a)<|g b
   simp only[hfX,ZoX]at f;unfold Zp9 ZoX hfX;cases k:c.2 with
   |true=>
    rw[ZXE];simp only[go_sem,hfB,d,f]
   |false=>
    rw[ZXU];cases i:W (W (W (W (2*a.X)-p.X)*W (W (2*b.Y)-p.Y))-W (W (W (2*a.Y)-p.Y)*W (W (2*b.X)-p.X)))==0 with
    |true=>simp only[go_sem,hfB,d,f,i,ZXk]
    |false=>simp only[go_sem,hfB,d,f,i,ZXm]) (by rfl)
 exact h
def Zqm(l:List Pt)(ex:Bool)(v:l.length<=1000000)(p:Pt):pfn rE 381 [.isl false ex 2<|l.map Pt.enc,.agg [I p.X,I p.Y]]=some (.tup [I (ZoC l p).1,.bool (ZoC l p).2]):=by
 have h:∀n,bel n (.isl false ex 2<|l.map Pt.enc)=true:=λn=>by
  have:=ZN (n:=n) [.isl false ex 2<|l.map Pt.enc] (by have:=Zw (f:=Pt.enc) (λt=>rfl) l;simp only[go_sem])
  unfold Zd at this;rw[ZXf]at this;exact this.1
 have a:Zd 3 (frV<|ZoD (.isl false ex 2<|l.map Pt.enc) p)=true:=by simp only[go_sem,ZoD,h]
 have L:=Y8 (E:=rE) (live:=[0,1,5,6,7]) (b:=c407L0b) l.length (λi=>[(0,.yld 2),(1,.iptr false [.isl false ex 2<|l.map Pt.enc]),(5,.isl false ex 2<|l.map Pt.enc),(6,I l.length),(7,I i)])
  (λi=>hfH (.isl false ex 2<|l.map Pt.enc) p<|(List.range i).foldl (ZoP p l) (0,false)) (λi=>rfl)
  (λi hi=>by
   have m:0<l.length:=by omega
   have r:=YN hi;have j:=YN (l:=l)<|ZYr (i+1) m;have g:=Zh hi;have u:=Zx (n:=i)<|by omega
   have q:=nat_ne m;have k:=Zql (.isl false ex 2<|l.map Pt.enc) h p ((List.range i).foldl (ZoP p l) (0,false)) (pAt l i) (pAt l i)<|pAt l<|(i+1)%l.length;have o:(List.range<|i+1).foldl (ZoP p l) (0,false)=ZoP p l ((List.range i).foldl (ZoP p l) (0,false)) i:=by
    rw[ZZc,ZZs];rfl
   rw[o];generalize(List.range i).foldl (ZoP p l) (0,false)=n at*;unfold ZoP;simp only[hfH,ZXl,ZXo]at k⊢;refine⟨_,by simp only[go_sem,c407L0b,S3,r,j,g,u,q,Jc,k,Pt.enc,a];rfl,?_⟩
   simp only[go_sem])
  (e:=.exit 0) (by simp only[go_sem,hfH,c407L0b,ZG];rfl) (by simp)
 have s:Zg rE [0,1,5,6,7] c407L0b [(0,.yld 2),(1,.iptr false [.isl false ex 2<|l.map Pt.enc]),(5,.isl false ex 2<|l.map Pt.enc),(6,I l.length),(7,.int .i64 0)] [.row 1 [.int .i64 0],.row 1 [.bool false],.loop .ready .normal (ZoD (.isl false ex 2<|l.map Pt.enc) p) [15,16] c381R0a c381R0b]=_:=L;rw[Z5 (f:=381) rfl rfl];have d:rf rE (.clo (.func 407) [] [.iptr false [.isl false ex 2<|l.map Pt.enc]]) [15,16] c381R0a c381R0b (ZoD (.isl false ex 2<|l.map Pt.enc) p) [.row 1 [.int .i64 0],.row 1 [.bool false]] =
  some (.normal,ZoD (.isl false ex 2<|l.map Pt.enc) p,[.row 1 [I (ZoC l p).1],.row 1 [.bool (ZoC l p).2],.loop .exhausted .normal (ZoD (.isl false ex 2<|l.map Pt.enc) p) [15,16] c381R0a c381R0b]):=by
  rw[Z1k (c:=c407) rfl];simp only[go_sem,c407,c407L0,s,a];rfl
 simp only[ZoD]at d;simp only[go_sem,c381,Z1l,Sr,d,h]
def ZoY(l:List Pt)(p:Pt):Int:=
 bif (!Vh l||Jf p)||((ZoC l ⟨W<|2*p.X,W<|2*p.Y⟩).1==0&&!(ZoC l ⟨W<|2*p.X,W<|2*p.Y⟩).2)then -1
 else bif (ZoC l ⟨W<|2*p.X,W<|2*p.Y⟩).1 != 0&&!(ZoC l ⟨W<|2*p.X,W<|2*p.Y⟩).2 then 1 else 0
def Zqn(l:List Pt)(ex:Bool)(h:l.length<=1000000)(p:Pt):pfn rE 260 [.isl false ex 2<|l.map Pt.enc,.agg [I p.X,I p.Y]]=some (I<|ZoY l p):=by
 have b:=Dz l ex h;have g:=Z1h p;have i:=Zqm l ex h ⟨W<|2*p.X,W<|2*p.Y⟩;have a:pfn rE 330 [.isl false ex 2<|l.map Pt.enc,.agg [I<|W<|2*p.X,I<|W<|2*p.Y]]=some (.bool<|(ZoC l ⟨W<|2*p.X,W<|2*p.Y⟩).1==0&&!(ZoC l ⟨W<|2*p.X,W<|2*p.Y⟩).2):=by
  rw[Z5 (f:=330) rfl rfl];cases c:(ZoC l ⟨W<|2*p.X,W<|2*p.Y⟩).1==0<;>simp only[go_sem,c330,i,c,ZXk,ZXm]
 have j:pfn rE 331 [.isl false ex 2<|l.map Pt.enc,.agg [I<|W<|2*p.X,I<|W<|2*p.Y]]=some (.bool<|(ZoC l ⟨W<|2*p.X,W<|2*p.Y⟩).1 != 0&&!(ZoC l ⟨W<|2*p.X,W<|2*p.Y⟩).2):=by
  rw[Z5 (f:=331) rfl rfl];cases c:(ZoC l ⟨W<|2*p.X,W<|2*p.Y⟩).1 != 0<;>simp only[go_sem,c331,i,c,ZXk,ZXm]
 rw[Z5 (f:=260) rfl rfl];unfold ZoY;generalize((ZoC l ⟨W<|2*p.X,W<|2*p.Y⟩).1==0&&!(ZoC l ⟨W<|2*p.X,W<|2*p.Y⟩).2)=b1 at*;generalize((ZoC l ⟨W<|2*p.X,W<|2*p.Y⟩).1 != 0&&!(ZoC l ⟨W<|2*p.X,W<|2*p.Y⟩).2)=b2 at*;cases d:Vh l with
 |false=>simp only[go_sem,c260,b,d,ZXv,ZXE,cond_true]
 |true=>
 cases e:Jf p with
 |true=>simp only[go_sem,c260,b,g,d,e,ZXq,ZXU,ZXE,cond_true]
 |false=>
 cases b1 with
 |true=>simp only[go_sem,c260,b,g,a,d,e,ZXq,ZXU,cond_true]
 |false=>
 cases b2<;>simp only[go_sem,c260,b,g,a,j,d,e,ZXq,ZXU,cond_true,cond_false]
def lvR(l:List Gk):List Gk:=l.filter<|λx=>x.Ld==-1
def ZU(s:Str):Bool:=!decide ((s.size:Int)>100)
def Vv(bw ex:Bool)(l:List Str)(m:l.length<9223372036854775807):pfn rE 107 [.isl bw ex 1<|l.map encS]=some (.bool<|l.all ZU):=by
 have L:=Uf (E:=rE) (live:=[0,3]) (b:=c107L0b) (h:=[]) l (λ_ x=>ZU x) (λi=>[(0,.isl bw ex 1<|l.map encS),(3,I i)]) 0 (λfr=>get fr 2=.bool false) (λi=>rfl)
  (λi x hx hP=>by
   have e:=Z6 (f:=encS) hx;have j:=Zh<|Z7 hx;have k:=Zx (n:=i) (by have:=Z7 hx;omega)
   have c:decide ((x.size:Int)>100)=false:=by simpa[ZU]using hP
   refine⟨_,by simp only[go_sem,c107L0b,e,j,k,c,encS];rfl,?_⟩
   simp only[go_sem])
  (λi x hx hP=>by
   have e:=Z6 (f:=encS) hx;have j:=Zh<|Z7 hx;have c:decide ((x.size:Int)>100)=true:=by simpa[ZU]using hP
   refine⟨_,by simp only[go_sem,c107L0b,e,j,c,encS];rfl,?_⟩
   simp only[go_sem])
  (⟨_,by simp only[go_sem,c107L0b,ZG];rfl⟩)
 rw[Z5 (f:=107) rfl rfl];rw[QE]at L;obtain⟨fr',h1,h2⟩:=L;have a:Zg rE [0,3] c107L0b [(0,.isl bw ex 1<|l.map encS),(3,.int .i64 0)] []=_:=h1;cases g:l.all ZU with
 |true=>rw[g]at a;simp only[go_sem,c107,c107L0,a]
 |false=>
  rw[g]at a;have d:=h2 g;simp only[go_sem,c107,c107L0,a,d,ZXB]
def HG(a b:Str):pfn rE 107 [.isl false false 1 [.str a,.str b]]=some (.bool<|[a,b].all ZU):=Vv false false [a,b]<|by simp
def Z4y(a b c d:Str):pfn rE 107 [.isl false false 1 [.str a,.str b,.str c,.str d]]=some (.bool<|[a,b,c,d].all ZU):=Vv false false [a,b,c,d]<|by simp
def HH{α:Type}{l:List α}{n i:Nat}{x:α}(h:(l.take n)[i]?=some x):l[i]?=some x/\i<n:=by
 have a:=Z7 h;rw[ZXX]at a;rw[ZYK<|by omega]at h
 exact⟨h,by omega⟩
def FR{α:Type}(l:List α):(decide ((((l.take 10).length:Nat):Int)<(l.length:Int))=true->decide ((((l.take 10).length:Nat):Int)<10)=false):=by
 intro h;have:=of_decide_eq_true h;rw[ZXX]at*;exact decide_eq_false<|by omega
def M1(x:Nm):Bool:=[x.Lang,x.Text].all ZU
def XQ(l:List Nm):Bool:=(l.take 10).all M1&&decide ((l.length:Int)<=10)
def UQ(ex:Bool)(l:List Nm):pfn rE 108 [.isl false ex 3<|l.map Nm.enc]=some (.bool<|XQ l):=by
 have L:=QT (E:=rE) (live:=[0,3]) (b:=c108L0b) (h:=[]) (l.take 10) (λ_ x=>M1 x) (λi=>[(0,.isl false ex 3<|l.map Nm.enc),(3,I i)]) 0 (λfr=>get fr 0=.isl false ex 3 (l.map Nm.enc)/\get fr 2=.bot) (λfr=>get fr 2=.bool false) (λi=>rfl)
  (λi x hx hP=>by
   obtain⟨a,k⟩:=HH hx;have p:=Z6 (f:=Nm.enc) a;have q:=Zh<|Z7 a;have u:=Zx (n:=i)<|by omega
   have d:decide ((i:Int)<10)=true:=decide_eq_true<|by omega
   have j:=HG x.Lang x.Text;have g:[x.Lang,x.Text].all ZU=true:=hP;rw[g]at j;refine⟨_,by simp only[go_sem,c108L0b,p,q,u,d,Nm.enc,j];rfl,?_⟩
   simp only[go_sem])
  (λi x hx hP=>by
   obtain⟨a,k⟩:=HH hx;have p:=Z6 (f:=Nm.enc) a;have q:=Zh<|Z7 a;have d:decide ((i:Int)<10)=true:=decide_eq_true<|by omega
   have j:=HG x.Lang x.Text;have g:[x.Lang,x.Text].all ZU=false:=hP;rw[g]at j;refine⟨_,by simp only[go_sem,c108L0b,p,q,d,Nm.enc,j];rfl,?_⟩
   simp only[go_sem])
  (by
   cases c:decide ((((l.take 10).length:Nat):Int)<(l.length:Int))with
   |true=>
    have d:=FR l c;exact⟨_,by simp only[go_sem,c108L0b,c,d];rfl,by simp only[go_sem],by simp only[go_sem]⟩
   |false=>exact⟨_,by simp only[go_sem,c108L0b,c];rfl,by simp only[go_sem],by simp only[go_sem]⟩)
 rw[Z5 (f:=108) rfl rfl];rw[QE]at L;obtain⟨fr',h1,t,h2⟩:=L;have e:Zg rE [0,3] c108L0b [(0,.isl false ex 3<|l.map Nm.enc),(3,.int .i64 0)] []=_:=h1;unfold XQ;cases m:(l.take 10).all M1 with
 |true=>
  rw[m]at e;obtain⟨s,r⟩:=t m;simp only[go_sem,c108,c108L0,e,s,r]
 |false=>
  rw[m]at e;have o:=h2 m;simp only[go_sem,c108,c108L0,e,o,ZXB]
def M2(x:Ent):Bool:=[x.Id,x.An.bn].all ZU
def FT(l:List Ent):Bool:=(l.take 10).all M2
abbrev evI(e:Gt):AV:=.iptr false [I e.br,I e.Day,I e.A,I e.B,I e.bz,.str e.Id,.str e.bv,.str e.Text,.isl false e.Ids.ex 1<|e.Ids.l.map encS,.isl false e.bm.ex 3<|e.bm.l.map Nm.enc,
 I e.An.N,.str e.An.bn,I e.An.Num,I e.An.Den,I e.bg.X,I e.bg.Y,.isl false e.Path.ex 2<|e.Path.l.map Pt.enc,.isl false e.Lst.ex 7<|e.Lst.l.map Ent.enc]
def Xn(e:Gt):Bool:=
 FT e.Lst.l&&([e.Id,e.bv,e.Text,e.An.bn].all ZU&&(decide ((e.Ids.l.length:Int)<=10)&&(e.Ids.l.all ZU&&(XQ e.bm.l&&(decide ((e.Path.l.length:Int)<=12)&&decide ((e.Lst.l.length:Int)<=10))))))
def Z4z(e:Gt):pfn rE 46 [evA e]=some (.bool<|Xn e):=by
 have L:=QT (E:=rE) (live:=[1,3]) (b:=c46L0b) (h:=[]) (e.Lst.l.take 10) (λ_ x=>M2 x) (λi=>[(1,evI e),(3,I i)]) 0 (λfr=>get fr 1=evI e/\get fr 2=.bot) (λfr=>get fr 2=.bool false) (λi=>rfl)
  (λi x hx hP=>by
   obtain⟨j,u⟩:=HH hx;have z:=Z6 (f:=Ent.enc) j;have A:=Zh<|Z7 j;have D:=Zx (n:=i)<|by omega
   have m:decide ((i:Int)<10)=true:=decide_eq_true<|by omega
   have d:=HG x.Id x.An.bn;have p:[x.Id,x.An.bn].all ZU=true:=hP;rw[p]at d;refine⟨_,by simp only[go_sem,c46L0b,z,A,D,m,Ent.enc,d];rfl,?_⟩
   simp only[go_sem])
  (λi x hx hP=>by
   obtain⟨j,u⟩:=HH hx;have z:=Z6 (f:=Ent.enc) j;have A:=Zh<|Z7 j;have m:decide ((i:Int)<10)=true:=decide_eq_true<|by omega
   have d:=HG x.Id x.An.bn;have p:[x.Id,x.An.bn].all ZU=false:=hP;rw[p]at d;refine⟨_,by simp only[go_sem,c46L0b,z,A,m,Ent.enc,d];rfl,?_⟩
   simp only[go_sem])
  (by
   cases c:decide ((((e.Lst.l.take 10).length:Nat):Int)<(e.Lst.l.length:Int))with
   |true=>
    have m:=FR e.Lst.l c;exact⟨_,by simp only[go_sem,c46L0b,c,m];rfl,by simp only[go_sem],by simp only[go_sem]⟩
   |false=>exact⟨_,by simp only[go_sem,c46L0b,c];rfl,by simp only[go_sem],by simp only[go_sem]⟩)
 rw[Z5 (f:=46) rfl rfl];rw[QE]at L;obtain⟨fr',h1,C,h2⟩:=L;have a:Zg rE [1,3] c46L0b [(1,evI e),(3,.int .i64 0)] []=_:=h1;have d:=Z4y e.Id e.bv e.Text e.An.bn;have v:=UQ e.bm.ex e.bm.l;unfold Xn FT;cases w:(e.Lst.l.take 10).all M2 with
 |false=>
  rw[w]at a;have y:=h2 w;simp only[evI]at a;simp only[go_sem,c46,c46L0,a,y,ZXB]
 |true=>
  rw[w]at a;obtain⟨q,s⟩:=C w;simp only[evI]at a q;cases B:[e.Id,e.bv,e.Text,e.An.bn].all ZU with
  |false=>rw[B]at d;simp only[go_sem,c46,c46L0,a,q,s,d]
  |true=>
  rw[B]at d;cases t:decide ((e.Ids.l.length:Int)<=10)with
  |false=>simp only[go_sem,c46,c46L0,a,q,s,d,t]
  |true=>
  have r:=Vv false e.Ids.ex e.Ids.l (by have:=of_decide_eq_true t;omega)
  cases o:e.Ids.l.all ZU with
  |false=>rw[o]at r;simp only[go_sem,c46,c46L0,a,q,s,d,t,r]
  |true=>
  rw[o]at r;cases g:XQ e.bm.l with
  |false=>rw[g]at v;simp only[go_sem,c46,c46L0,a,q,s,d,t,r,v]
  |true=>
  rw[g]at v;cases k:decide ((e.Path.l.length:Int)<=12)with
  |false=>simp only[go_sem,c46,c46L0,a,q,s,d,t,r,v,k]
  |true=>simp only[go_sem,c46,c46L0,a,q,s,d,t,r,v,k]
def JL(e:Gt)(h:Xn e=true):EvS e:=by
 simp only[Xn,ZXf]at h;obtain⟨_,h1,h2,i,a,b,c⟩:=h;have f:=of_decide_eq_true h2;have j:=of_decide_eq_true b;have d:=of_decide_eq_true c;have g:(e.bm.l.length:Int)<=10:=by
  simp only[XQ,ZXf]at a;exact of_decide_eq_true a.2
 simp[ZU]at h1;exact⟨by omega,by omega,by omega,by omega,by omega,by omega,by omega⟩
def Zi8(s:Str):pfn rE 420 [.str s]=some (.bool<|ZZ s):=by
 have h:=Z1W s;unfold ZZ;generalize Up s=x at h⊢;obtain⟨ts,err,pos⟩:=x;unfold Lx.val at h;simp only at h⊢;rw[Z5 (f:=420) rfl rfl];cases h0:err==0 with
 |false=>simp only[go_sem,c420,h,h0]
 |true=>
  rcases ts with _|⟨⟨tk,ta,tn,tt⟩,_|⟨t2,ts⟩⟩
  .have e:(((0:Nat):Int)==1)=false:=rfl;simp only[go_sem,c420,h,h0,e]
  .have e:(((0+1:Nat):Int)==1)=true:=rfl;have e1:ixG [.agg [I tk,I ta,I tn,.str tt]] 0=some (.agg [I tk,I ta,I tn,.str tt]):=rfl;have e2:(((1:Nat):Int)==1)=true:=rfl;cases h1:tk==1<;>simp only[go_sem,c420,h,h0,e,e1,e2,h1,Tok.enc]
  .have e:(((ts.length+1+1:Nat):Int)==1)=false:=by
    rw[beq_eq_false_iff_ne];omega
   simp only[go_sem,c420,h,h0,e]
def Zi9(k:Int):pfn rE 398 [I k]=some (.bool<|ZD k 1 3):=by
 rw[Z5 (f:=398) rfl rfl];unfold ZD;cases h:decide (k>=1)<;>simp only[go_sem,c398,h]
def arA(x:Gk):AV:=.agg [.str x.Id,I x.br,.isl false x.Ring.ex 2<|x.Ring.l.map Pt.enc]
def Zi0(l:List Gk):(lvR l).length<=l.length:=ZYt ..
def Zi2{l:List Gk}{i:Nat}{x:Gk}(hx:l[i]?=some x):lvR (l.take<|i+1)=lvR (l.take i)++(bif x.Ld==-1 then [x]else []):=by
 unfold lvR;rw[ZYm,hx,ZZ4];cases h:x.Ld==-1 with
 |true=>simp[h]
 |false=>simp[h]
def Zi3(s:Sta)(hs:StS s):pfn rE 288 [stA s]=some (.isl false false 3<|(lvR s.Fa).map arA):=by
 have hbS:∀n(K:List Gk),Zd n (K.map arA)=true:=λn K=>ZN _<|Zw (λt=>rfl) K
 have hl:=hs.regions;have L:=Y8 (E:=rE) (live:=[3,7,8,9]) (b:=c288L0b) s.Fa.length
  (λi=>[(3,.sl 0 (lvR<|s.Fa.take i).length 0 (lvR<|s.Fa.take i).length false),(7,.isl false false 6<|s.Fa.map Gk.enc),(8,I s.Fa.length),(9,I i)])
  (λi=>[.row 3<|(lvR<|s.Fa.take i).map arA]) (λi=>rfl)
  (λi hi=>by
   obtain⟨x,hx⟩:∃x,s.Fa[i]?=some x:=⟨_,ZXj hi⟩;have hg:=Z6 (f:=Gk.enc) hx;have hi':=Zh hi;have hw:=Zx (n:=i)<|by omega
   have hn:(lvR<|s.Fa.take i).length<=1000:=ZXW (Zi0 _)<|by rw[ZXX];omega
   rw[Zi2 hx];generalize lvR (s.Fa.take i)=KS at hn⊢;cases c:x.Ld==-1 with
   |false=>
    rw[cond_false,ZXr];refine⟨_,by simp only[go_sem,c288L0b,hg,hi',hw,Gk.enc,NL.enc,c,hbS];rfl,?_⟩
    simp only[go_sem]
   |true=>
    have ha:=λq=>XC (h:=[.row 3<|KS.map arA,q]) (fz:=false) (b:=0) (g:=KS.length) (sz:=3) (es:=KS.map arA) (bw:=false) (ex:=false) (ys:=[.agg [.str x.Id,I x.br,.isl false x.Ring.ex 2<|x.Ring.l.map Pt.enc]]) (bytes:=48) (by simp[rowAt]) rfl (by rfl) (by omega) (by omega) (by simp;omega)
    have e1:(KS++[x]).map arA=KS.map arA++[.agg [.str x.Id,I x.br,.isl false x.Ring.ex 2<|x.Ring.l.map Pt.enc]]:=by rw[ZXx];rfl
    rw[cond_true,e1,ZXy,ZY7];refine⟨_,by simp only[go_sem,c288L0b,hg,hi',hw,Gk.enc,NL.enc,c,ha,beq_self_eq_true,hbS];rfl,?_⟩
    simp only[go_sem])
  (e:=.exit 0) (by simp only[go_sem,c288L0b,ZG,ZXG];rfl) (by simp)
 have e0:lvR (s.Fa.take 0)=[]:=rfl;simp only[e0,ZXK,ZXD]at L;have L':Zg rE [3,7,8,9] c288L0b [(3,.sl 0 0 0 0 false),(7,.isl false false 6<|s.Fa.map Gk.enc),(8,I s.Fa.length),(9,.int .i64 0)] [.row 3 []]=_:=L;rw[Z5 (f:=288) rfl rfl];have hcl:Z4 ((lvR s.Fa).map arA)=true:=Zw (λt=>rfl) _
 have htk:((lvR s.Fa).map arA).take (lvR s.Fa).length=(lvR s.Fa).map arA:=ZXz<|by rw[ZXg];omega
 simp only[go_sem,c288,c288L0,L',hbS,beq_self_eq_true,ZXS,htk,hcl]
def Zia{K:List Str}{x:Str}(h:x ∉ K):Qi Z3 K x=K++[x]:=by
 unfold Qi;cases hx:K.any (Z3 x)with
 |true=>exact absurd (ZdP.1 hx) h
 |false=>rfl
def Zib(L:List Gk)(hl:L.length<=400)(hn:(L.map (·.Id)).Nodup)(hv:∀x∈L,ZZ x.Id=true/\ZD x.br 1 3=true/\Vh x.Ring.l=true/\x.Ring.l.length<=1000000):
 pfn rE 397 [.isl false false 3<|L.map arA]=some (.bool true):=by
 have hb2:∀n(K:List Str),Zd n (K.map encS)=true:=λn K=>ZN _<|Zw (λt=>rfl) K
 have hb3:∀n k,Zd n (ZO k)=true:=λn k=>ZN _<|Ut k
 have H:=Y8 (E:=rE) (live:=[0,3,7,8,9]) (b:=c397L0b) L.length (λi=>[(0,.isl false false 3<|L.map arA),(3,.mp 0),(7,.isl false false 3<|L.map arA),(8,I L.length),(9,I i)])
  (λi=>[.map (((L.take i).map (·.Id)).map encS) (ZO ((L.take i).map (·.Id)).length)]) (λi=>rfl)
  (λi hi=>by
   obtain⟨x,hx⟩:∃x,L[i]?=some x:=⟨_,ZXj hi⟩;have hg:=Z6 (f:=arA) hx;have hi':=Zh hi;have hw:=Zx (n:=i)<|by omega
   obtain⟨v1,v2,v3,v4⟩:=hv x<|ZXp hx;have k1:=Zi8 x.Id;have k2:=Zi9 x.br;have k3:=Dz x.Ring.l x.Ring.ex v4;rw[v1]at k1;rw[v2]at k2;rw[v3]at k3;have ht:=YW (λx:Gk=>x.Id) hx
   have hnew:x.Id ∉ (L.take i).map (·.Id):=by
    intro hm;have h1:(((L.take<|i+1).map (·.Id))).Nodup:=by
     rw[List.map_take];exact hn.sublist<|List.take_sublist _ _
    rw[ht,ZYJ]at h1;exact h1.2.2 _ hm _ (ZXO.2 rfl) rfl
   have hf:=Zia hnew;have hany:((L.take i).map (·.Id)).any (Z3 x.Id)=false:=by
    cases hc:((L.take i).map (·.Id)).any (Z3 x.Id)with
    |false=>rfl
    |true=>exact absurd (ZdP.1 hc) hnew
   rw[ht];generalize(L.take i).map (·.Id)=K at hf hany⊢;have hp:=λhh=>Ur (ag:=false) (kk:=[2]) (enc:=encS) (eq:=Z3) Z1Y K x.Id (h:=.map (K.map encS) (ZO K.length)::hh) (b:=0) rfl
   have hq:=λhh=>H5 (ag:=false) (kk:=[2]) (enc:=encS) (eq:=Z3) Z1Y K x.Id (h:=.map (K.map encS) (ZO K.length)::hh) (b:=0) rfl
   rw[hf]at hp;rw[hany]at hq;simp only[encS]at hp hq;simp only[arA]at hg;refine⟨_,by simp only[go_sem,c397L0b,hg,hi',hw,k1,k2,k3,hp,hq,hb2,hb3];rfl,?_⟩
   simp only[go_sem])
  (e:=.exit 0) (by simp only[go_sem,c397L0b,ZG];rfl) (by simp)
 have H':Zg rE [0,3,7,8,9] c397L0b [(0,.isl false false 3<|L.map arA),(3,.mp 0),(7,.isl false false 3<|L.map arA),(8,I L.length),(9,.int .i64 0)] [.map [] []]=_:=H;have h400:decide ((L.length:Int)<=400)=true:=decide_eq_true<|by omega
 rw[Z5 (f:=397) rfl rfl];simp only[go_sem,c397,c397L0,H',h400]
def ZEQ:∀(l:List Str)(K L:List Str)(id:Str)(r:List Str),L=id::r->∃a,(l.foldl wkS (K,L)).2=id::a
 |[],_,_,id,r,h=>⟨r,h⟩
 |x::l,K,L,id,r,h=>by
  rw[ZY5];unfold wkS;cases(K,L).1.any (Z3 x)with
  |true=>exact ZEQ l K L id r h
  |false=>exact ZEQ l (K++[x]) (L++[x]) id (r++[x])<|by rw[h];rfl
def ZHa(s:Sta)(t:AV)(D E:List AV)(K:List Str)(Lv:AV)(id:Str)(r:List Str)(tl:List AObj)(hL:ZDZ Lv (id::r) tl)(hc:TC' tl)(k:Nat)(d:Ga)(hd:s.Bc[k]?=some d)
 (hf:pfn rE 103 [stA s,.str id]=some (I k)) (h1:D.length<=1000) (h2:E.length<=1000) (h3:(id::r).length+d.After.l.length<=1000):
 ∃Lv' tl',Zb rE c182L1b (wfr s Lv) (fP (feL .ready t) D E<|kM K::tl)=some (.normal,wfr s Lv',fP (feL .ready t) (faD d D) (faE d E)<|kM (d.After.l.foldl wkS (K,id::r)).1::tl')/\
  ZDZ Lv' (d.After.l.foldl wkS (K,id::r)).2.tail tl'/\TC' tl':=by
 obtain⟨r',hne⟩:=ZEQ d.After.l K (id::r) id r rfl;obtain⟨Lv1,tl1,e1,l1,c1⟩:=ZH6 s t D E K Lv id r tl hL hc k d hd hf h1 h2 h3;generalize d.After.l.foldl wkS (K,id::r)=q at hne e1 l1⊢;obtain⟨K',L'⟩:=q;have hne:L'=id::r':=hne;subst hne;have l1:ZDZ Lv1 (id::r') tl1:=l1;obtain⟨tl2,e2,l2,c2⟩:=ZEE (G:=grA s) (Lv:=Lv1) (fr:=wfr s Lv1) (.row 2 [.agg [.isl false false 1 [],.isl false false 3 []]]) (.row 1<|faD d D) (.row 3<|faE d E) (.row 2 [.agg [.sl 1 (faD d D).length 0 (faD d D).length false,.sl 2 (faE d E).length 0 (faE d E).length false]]) (feL .ready t) (kM K') tl.length .normal rfl rfl rfl rfl l1 c1;obtain⟨fr3,Lv3,e3,g0,g2,g4,g5,l3⟩:=ZH9 s (feL .ready t) (faD d D) (faE d E) K' Lv1 id r' tl2 l2;obtain⟨tl4,e4,l4,c15004⟩:=ZEE (G:=grA s) (Lv:=Lv3) (fr:=fr3) (.row 2 [.agg [.isl false false 1 [],.isl false false 3 []]]) (.row 1<|faD d D) (.row 3<|faE d E) (.row 2 [.agg [.sl 1 (faD d D).length 0 (faD d D).length false,.sl 2 (faE d E).length 0 (faE d E).length false]]) (feL .ready t) (kM K') tl2.length .normal g0 g2 g4 g5 l3 c2;obtain⟨tl5,e5,l5,c15005⟩:=ZEE (G:=grA s) (Lv:=Lv3) (fr:=wfr s Lv3) (.row 2 [.agg [.isl false false 1 [],.isl false false 3 []]]) (.row 1<|faD d D) (.row 3<|faE d E) (.row 2 [.agg [.sl 1 (faD d D).length 0 (faD d D).length false,.sl 2 (faE d E).length 0 (faE d E).length false]]) (feL .ready t) (kM K') tl.length .normal rfl rfl rfl rfl l4 c15004;refine⟨Lv3,tl5,?_,l5,c15005⟩;show Zb rE (.keep [0,2,4,5]<|.seq c71A<|.seq (.keep [0,2,4,5]<|.block 1 c71L1m)<|.keep [0,2,4,5] c71C) _ _=_
 rw[Sm,SK,ZH7 s (feL .ready t) D E K Lv id r tl hL,SH,SK,Sm,Sl,e1];show kp _ _ (sq rE _<|kp _ _<|some (.normal,wfr s Lv1,_))=_
 rw[show kp [0,2,4,5] (fP (feL .ready t) D E<|kM K::tl).length (some (.normal,wfr s Lv1,fP (feL .ready t) (faD d D) (faE d E)<|kM K'::tl1))=_ from e2,SH,Sm]
 rw[show Zb rE c71C [(0,.yld 4),(2,grA s),(4,.mp 5),(5,Lv1)] (.row 2 [.agg [.isl false false 1 [],.isl false false 3 []]]::.row 1 (faD d D)::.row 3 (faE d E)::.row 2 [.agg [.sl 1 (faD d D).length 0 (faD d D).length false,.sl 2 (faE d E).length 0 (faE d E).length false]]::feL .ready t::kM K'::tl2)=_ from e3]
 exact(congrArg (kp [0,2,4,5]<|tl.length+6) e4).trans e5
inductive Runs(s:Sta):List Str->List Str->List AV->List AV->List AV->List AV->Prop
 |stop (K:List Str) (D E:List AV):Runs s K [] D E D E
 |step (K:List Str) (id:Str) (r:List Str) (D E D' E':List AV) (k:Nat) (d:Ga) (hd:s.Bc[k]?=some d) (hf:pfn rE 103 [stA s,.str id]=some (I k)) (h1:D.length<=1000) (h2:E.length<=1000)
  (h3:(id::r).length+d.After.l.length<=1000) (h:Runs s (d.After.l.foldl wkS (K,id::r)).1 (d.After.l.foldl wkS (K,id::r)).2.tail (faD d D) (faE d E) D' E'):Runs s K (id::r) D E D' E'
def ZHb(s:Sta)(t:AV){K L:List Str}{D E D' E':List AV}(H:Runs s K L D E D' E'):∀(Lv:AV)(tl:List AObj),ZDZ Lv L tl->TC' tl->
 ∃K' Lv' tl',Zg rE [0,2,4,5] c182L1b (wfr s Lv) (fP (feL .ready t) D E<|kM K::tl)=some (.exit 0,wfr s Lv',fP (feL .ready t) D' E'<|kM K'::tl'):=by
 induction H with
 |stop K D E=>
  intro Lv tl hL hc;obtain⟨tl2,e2,l2,c2⟩:=ZEE (G:=grA s) (Lv:=Lv) (fr:=wfr s Lv++[(16,.bool false)]) (.row 2 [.agg [.isl false false 1 [],.isl false false 3 []]]) (.row 1 D) (.row 3 E) (.row 2 [.agg [.sl 1 D.length 0 D.length false,.sl 2 E.length 0 E.length false]]) (feL .ready t) (kM K) tl.length (.exit 0) rfl rfl rfl rfl hL hc;refine⟨K,Lv,tl2,Q7 rfl ?_ (λh=>by cases h)⟩
  show Zb rE (.keep [0,2,4,5]<|.seq c71A<|.seq (.keep [0,2,4,5]<|.block 1 c71L1m)<|.keep [0,2,4,5] c71C) _ _=_
  rw[Sm,SK,ZH8 s (feL .ready t) D E K Lv tl hL,SI];exact e2
 |step K id r D E D' E' k d hd hf h1 h2 h3 h ih=>
  intro Lv tl hL hc;obtain⟨Lv1,tl1,e1,l1,c1⟩:=ZHa s t D E K Lv id r tl hL hc k d hd hf h1 h2 h3;obtain⟨K',Lv',tl',e⟩:=ih Lv1 tl1 l1 c1;refine⟨K',Lv',tl',?_⟩;rw[Yt rfl e1];exact e
def h5(t:AV)(D E:List AV):List AObj:=[.row 2 [.agg [.isl false false 1 [],.isl false false 3 []]],.row 1 D,.row 3 E,.row 2 [.agg [.sl 1 D.length 0 D.length false,.sl 2 E.length 0 E.length false]],feL .ready t]
def ZHc(e:AExit)(fr:Fr)(f h d i g:AObj)(a:List AObj){b:Bool}{n:Nat}:∃fr' c,some (e,fr,trimB (n+5) (f::h::d::i::g::a) b)=some (e,fr',f::h::d::i::g::c):=by
 cases b with
 |true=>exact⟨fr,a.take n,rfl⟩
 |false=>exact⟨fr,a,rfl⟩
def ZHd(s:Sta)(t:AV)(id:Str)(e E':List AV)(H:Runs s [id] [id] [] [] e E'):
 ∃fr g,Zb rE c182 (QP 0<|[]++[.yld 4]++[.iptr false [.str id],grA s]) (h5 t [] [])=some (.normal,fr,h5 t e E'++g):=by
 obtain⟨l,j,k,f⟩:=ZHb s t H (.sl 6 1 0 1 true) [.row 1 [.str id]] ⟨0,1,0,true,[.str id],rfl,rfl,rfl,rfl,rfl⟩<|λn=>rfl
 have c:=Ur (enc:=encS) (eq:=Z3) Z1Y [] id (h:=h5 t [] []++[.map [] []]) (b:=5) rfl;have i:Qi Z3 [] id=[id]:=rfl;rw[i]at c;have a:List.replicate 1 (AV.bool true)=[.bool true]:=rfl;have d:List.replicate 0 (AV.bool true)=[]:=rfl;simp only[h5,ZXl,ZXo,encS,List.map,ZO,ZXw,ZXK,ZXA,a]at c;simp only[wfr,fP,kM,encS,List.map,ZO,ZXw,ZXK,ZXA,a]at f;simp only[go_sem,c182,c182L1,h5,f,c];exact ZHc _ _ _ _ _ _ _ _ (n:=2)
def wkT(s:Sta)(id:Str):AV:=.clo (.func 182) [] [.iptr false [.str id],grA s]
def h4(D E:List AV):List AObj:=[.row 2 [.agg [.isl false false 1 [],.isl false false 3 []]],.row 1 D,.row 3 E,.row 2 [.agg [.sl 1 D.length 0 D.length false,.sl 2 E.length 0 E.length false]]]
def ZHe(s:Sta)(id:Str)(D E:List AV)(H:Runs s [id] [id] [] [] D E):
 ∃a,rf rE (wkT s id) [20] c36R0a c36R0b (ffr<|wkT s id) (h4 [] [])=some (.normal,ffr<|wkT s id,h4 D E++a):=by
 obtain⟨fr,a,h⟩:=ZHd s (wkT s id) id D E H;refine⟨.loop .exhausted .normal (ffr<|wkT s id) [20] c36R0a c36R0b::a,?_⟩;unfold wkT;rw[Z1k (c:=c182) (rs:=[]) rfl];have h':Zb rE c182 (QP 0<|[]++[.yld (h4 [] []).length]++[.iptr false [.str id],grA s]) (h4 [] []++[.loop .ready .normal (ffr<|wkT s id) [20] c36R0a c36R0b])=_:=h;unfold wkT at h';rw[h'];rfl
def grC(s:Sta):List AV:=[.isl false false 6<|s.Fa.map Gk.enc,.isl false false 5<|s.Gm.map By.enc,.isl false false 4<|s.Bt.map Ev.enc,.isl false false 16<|s.Bc.map Ga.enc,.isl false false 6<|s.Nk.map be.enc,.isl false false 2<|s.Gc.map bf.enc,.isl false false 2<|s.ba.map bf.enc]
def ZHf(s:Sta)(id:Str)(h:Hp):fnV rE 95 [.agg<|grC s++[.clo (.func 94) [] []],.str id] h=some (.clo (.func 182) [] [.iptr false [.str id],.iptr false<|grC s++[.clo (.func 94) [] []]],h):=by
 rw[Q6 (f:=95) rfl rfl];unfold grC;simp only[go_sem,c95,ZXl,ZXo,ZE5 (h:=h) rfl]
def ZHg(c e a f:AObj)(d:List AObj)(b:Bool):trimB 4 (c::e::a::f::d) b=c::e::a::f::bif b then []else d:=by cases b<;>rfl
def ZHh{D b:List AV}(f:ZE7 97 [ZEa 97] 1 D=some b)(d c g:AObj)(e:List AObj):
 rsD (rE.rs 96) (d::.row 1 D::c::g::e) [.sl 1 D.length 0 D.length false,.clo (.func 97) [] []]=some (.sl 1 D.length 0 D.length false,⟨false,[1],some 1,none⟩,some (1,.row 1 b)):=by
 show ZEn (ZE7 97) _ _=_
 unfold ZEn ZE8;simp only[ZYn,ZYf,beq_self_eq_true];have a:ZE7 97 [.clo (.func 97) [] []] 1 D=some b:=f;rw[a];rfl
def ZHi{E b:List AV}(g:ZEe 99 3 ZEf [ZEa 99] 3 E=some b)(c e f:AObj)(d:List AObj):
 fnV rE 98 [.sl 2 E.length 0 E.length false,.clo (.func 99) [] []] (c::e::.row 3 E::f::d)=some (.sl 2 E.length 0 E.length false,c::e::.row 3 b::f::d):=by
 rw[V8 (s:=ZEo<|ZEe 99 3 ZEf) rfl];unfold ZEo ZE8;simp only[ZYn,ZYf,beq_self_eq_true];have a:ZEe 99 3 ZEf [.clo (.func 99) [] []] 3 E=some b:=g;rw[a];rfl
def ZHk{α:Type}{a:List DRec}{e b o:AObj}{c:List AObj}{d:DRec}{k:Option α}:okd a [] (e::b::c) d (some (1,o)) k=k:=Z9E rfl (ZXH (show 1<=(e::b::c).length by simp))
def ZHl(d e c f:AObj)(a:List AObj)(b:Bool):trimB (a.length+1+1+1+1) (d::e::c::f::a) b=d::e::c::f::a:=ZEx<|by simp
def ZFW(s:Sta)(id:Str)(D E b a:List AV)(l:pfn rE 93 [stA s,.str id]=some (I 0))(H:Runs s [id] [id] [] [] D E)(v:ZE7 97 [ZEa 97] 1 D=some b)(r:ZEe 99 3 ZEf [ZEa 99] 3 E=some a)(c:b.length=D.length)(d:a.length=E.length)(j:Z4 b=true)(k:Z4 a=true):
 pfn rE 36 [stA s,.str id]=some (.tup [.agg [.isl false false 1 b,.isl false false 3 a],I 0]):=by
 obtain⟨w,m⟩:=ZHe s id D E H;simp only[stA]at l;simp only[wkT,grA,ffr,h4,AV.cells,ZXl,ZXo,ZXK]at m;have o:=ZHf s id;simp only[grC,ZXl,ZXo]at o;have q:(b.length==D.length)=true:=by rw[c];exact beq_self_eq_true _
 have t:(a.length==E.length)=true:=by rw[d];exact beq_self_eq_true _
 have p:b.take D.length=b:=by rw[<-c];exact ZXG
 have u:a.take E.length=a:=by rw[<-d];exact ZXG
 have g:∀h n,ZC false h (n+1) b=some b:=λh n=>by simp only[ZC,j,cond_true]
 have e:∀h n,ZC false h (n+1) a=some a:=λh n=>by simp only[ZC,k,cond_true]
 have g:=λh=>g h 34
 have e:=λh=>e h 33
 simp only[Nat.reduceAdd]at g e;have i:((0:Int) != 0)=false:=rfl;rw[Z5 (f:=36) rfl rfl];simp only[go_sem,c36,stA,l,i,o,put,Sr,m,ZHg,ZL4,ZHj,ZHk,ZHl,ZH,ZHh v,ZHi r,q,t,p,u,g,e]
structure Endz where
 Id:Str
 br:Int
 Day:Int
def Endz.enc(e:Endz):AV:=.agg [.str e.Id,I e.br,I e.Day]
def ZEb(s:Sta)(id:Str):Int:=bif Jx s then(bif decide (Zn s id<0)then 10 else 0)else 1
def ZSH(s:Sta)(a:StE s)(id:Str):pfn rE 93 [stA s,.str id]=some (I<|ZEb s id):=by
 have h1:=Z3i s a;have h2:=find_ok s a.sizes id;rw[Z5 (f:=93) rfl rfl];unfold ZEb;cases c:Jx s with
 |false=>rw[c]at h1;simp only[go_sem,c93,h1,ZXv]
 |true=>
  rw[c]at h1;cases b:decide (Zn s id<0)with
  |true=>simp only[go_sem,c93,h1,h2,b,ZXq]
  |false=>simp only[go_sem,c93,h1,h2,b,ZXq]
def ftA(b a:Bool)(D:List Str)(E:List Endz):AV:=.agg [.isl false b 1<|D.map encS,.isl false a 3<|E.map Endz.enc]
def ZF6:∀(l m:List Str),l.Nodup->(∀x∈l,x∈m)->l.length<=m.length
 |[],m,_,_=>ZXi _
 |a::r,m,h,hs=>by
  rw[ZYo]at h;obtain⟨p,q,rfl⟩:=List.append_of_mem<|hs a ZXV;have:=ZF6 r (p++q) h.2 (λx hx=>by
   have h2:=hs x<|ZY2 _ hx;have b:x≠a:=λe=>h.1<|e▸hx
   simp only[ZY9,ZXF,b,false_or]at h2⊢;exact h2)
  simp only[ZXy,ZXw]at this⊢;omega
def ZFX{s:Sta}(b:(s.Bc.map (·.Id)).Nodup){d e:Ga}(g:d∈s.Bc)(k:e∈s.Bc)(h:d.Id=e.Id):d=e:=by
 obtain⟨i,a⟩:=ZYp g;obtain⟨j,c⟩:=ZYp k;have h1:=Zi1 (f:=λx:Ga=>x.Id) b a
 have h2:=Zi1 (f:=λx:Ga=>x.Id) b c
 rw[h]at h1;have:i=j:=by rw[h1]at h2;omega
 rw[this,c]at a;exact(Option.some.inj a).symm
inductive Reach(s:Sta):Str->Str->Prop
 |refl (x:Str):Reach s x x
 |step (x y z:Str) (d:Ga) (h:Reach s x y) (hd:d∈s.Bc) (hi:d.Id=y) (hz:z∈d.After.l):Reach s x z
def ZF7:∀(l K L:List Str),∃b,l.foldl wkS (K,L)=(K++b,L++b)/\(∀x∈b,x∈l)/\(∀x∈l,x∈K++b)/\(K.Nodup->(K++b).Nodup)
 |[],K,L=>⟨[],by simp⟩
 |a::l,K,L=>by
  rw[ZY5];cases c:K.any (Z3 a)with
  |true=>
   obtain⟨b,h1,h2,f,d⟩:=ZF7 l K L;refine⟨b,?_,λx hx=>ZY2 _<|h2 x hx,λx hx=>?_,d⟩
   .rw[show wkS (K,L) a=(K,L)by unfold wkS;simp only[c,cond_true],h1]
   .rcases ZXF.1 hx with rfl|hx
    .exact ZYM _<|ZdP.1 c
    .exact f x hx
  |false=>
   obtain⟨b,h1,h2,f,d⟩:=ZF7 l (K++[a])<|L++[a];have g:a ∉ K:=λh=>by rw[ZdP.2 h]at c;cases c
   refine⟨a::b,?_,λx hx=>?_,λx hx=>?_,λhn=>?_⟩
   .have e:∀M:List Str,M++a::b=M++[a]++b:=λM=>by simp
    rw[e,e,show wkS (K,L) a=(K++[a],L++[a])by unfold wkS;simp only[c,cond_false],h1]
   .rcases ZXF.1 hx with rfl|hx
    .exact ZXV
    .exact ZY2 _<|h2 x hx
   .rcases ZXF.1 hx with rfl|hx
    .simp
    .have:=f x hx;simpa using this
   .have e:K++a::b=K++[a]++b:=by simp
    rw[e];refine d ?_;rw[ZYJ];exact⟨hn,by simp,λx hx y hy=>by simp only[ZXO]at hy;rw[hy];exact λh=>g<|h▸hx⟩
def ZEc(Q:List Ga):List AV:=(Q.filter λd=>decide (d.Ld<0)).map λd=>.str d.Id
def ZEd(Q:List Ga):List AV:=(Q.filter λd=>!decide (d.Ld<0)&&d.After.l.isEmpty).map ZEB
def ZFY(d:Ga)(Q:List Ga):faD d (ZEc Q)=ZEc (Q++[d]):=by
 unfold faD ZEc;rw[ZZ4,ZXx];cases c:decide (d.Ld<0)<;>simp[List.filter,c]
def ZFZ(d:Ga)(Q:List Ga):faE d (ZEd Q)=ZEd (Q++[d]):=by
 unfold faE ZEd;rw[ZZ4,ZXx];cases c:(!decide (d.Ld<0)&&d.After.l.isEmpty)<;>simp only[List.filter,c,cond_true,cond_false,List.map,ZXr]
def ZHn{s:Sta}(f:Prop' s){d:Ga}(c:d∈s.Bc){x:Str}(g:x∈d.After.l):∃e∈s.Bc,e.Id=x:=by
 obtain⟨i,h⟩:=ZYp c;have h1:=((Zd0 s i d).1 (f.dr i d h)).2.1 x g;have h2:decide (Zn s x<0)=false:=decide_eq_false (by have:=of_decide_eq_false h1;omega)
 rw[ZEz]at h2;obtain⟨j,e,_,b,a⟩:=ZcU h2;exact⟨e,ZXp b,a⟩
def ZEF{s:Sta}(a:Prop' s):(s.Bc.map (·.Id)).Nodup:=by
 have h:=a.ids;unfold Qp at h;have h1:=(ZYJ.1 h).2.1;have h2:=(ZYJ.1 h1).2.1;have b:=(ZYJ.1 h2).2.1;exact(ZYJ.1 b).1
def ZG0(s:Sta)(o:Prop' s)(m:StE s)(z:s.Bc.length<=500)(b:Str):∀(n:Nat)(P:List Ga)(L:List Str),s.Bc.length<=P.length+n->(∀d∈P,d∈s.Bc)->(P.map (·.Id)++L).Nodup->(∀x∈L,∃d∈s.Bc,d.Id=x)->
 (∀x∈P.map (·.Id)++L,Reach s b x)->(∀d∈P,∀y∈d.After.l,y∈P.map (·.Id)++L)->
 ∃Q,Runs s (P.map (·.Id)++L) L (ZEc P) (ZEd P) (ZEc Q) (ZEd Q)/\(Q.map (·.Id)).Nodup/\(∀d∈Q,d∈s.Bc)/\(∀d∈Q,Reach s b d.Id)/\(∀d∈Q,∀y∈d.After.l,y∈Q.map (·.Id))/\(∀x∈P.map (·.Id)++L,x∈Q.map (·.Id))
 |n,P,[],_,hP,hn,_,hR,hA=>by
  rw[ZXr]at hn hR hA⊢;exact⟨P,Runs.stop _ _ _,hn,hP,λd a=>hR _<|ZZ2 a,hA,λx hx=>hx⟩
 |n,P,x::r,hle,hP,hn,hL,hR,hA=>by
  have g:∀y∈P.map (·.Id)++x::r,y∈s.Bc.map (·.Id):=λy hy=>by
   rcases ZY9.1 hy with h|h
   .obtain⟨d,a,rfl⟩:=ZXI.1 h;exact ZZ2<|hP d a
   .obtain⟨d,a,rfl⟩:=hL y h;exact ZZ2 a
  have i:=ZF6 _ _ hn g;simp only[ZXy,ZXg,ZXw]at i;obtain⟨d,a,f⟩:=hL x ZXV;obtain⟨k,q⟩:=ZYp a;have E:pfn rE 103 [stA s,.str x]=some (I k):=by
   rw[find_ok s m.sizes x,ZEz,<-f,Zi1 (ZEF o) q]
  cases n with
  |zero=>omega
  |succ n=>
   obtain⟨c,B,p,C,w⟩:=ZF7 d.After.l (P.map (·.Id)++x::r)<|x::r;have j:(P++[d]).map (·.Id)++(r++c)=P.map (·.Id)++x::r++c:=by simp[f]
   obtain⟨Q,F,A,t,u,D,v⟩:=ZG0 s o m z b n (P++[d]) (r++c) (by simp;omega)
    (λe he=>by
     rcases ZY9.1 he with h|h
     .exact hP e h
     .rw[ZXO.1 h];exact a)
    (by rw[j];exact w hn)
    (λy hy=>by
     rcases ZY9.1 hy with h|h
     .exact hL y<|ZY2 _ h
     .exact ZHn o a<|p y h)
    (λy hy=>by
     rw[j]at hy;rcases ZY9.1 hy with h|h
     .exact hR y h
     .exact Reach.step b x y d (hR x<|by simp) a f<|p y h)
    (λe he y hy=>by
     rw[j];rcases ZY9.1 he with h|h
     .exact ZYM _<|hA e h y hy
     .rw[ZXO.1 h]at hy;exact C y hy)
   refine⟨Q,?_,A,t,u,D,λy hy=>v y<|by rw[j];exact ZYM _ hy⟩
   refine Runs.step _ x r _ _ _ _ k d q E ?_ ?_ ?_ ?_
   .unfold ZEc;rw[ZXg];have:=ZYt (λd:Ga=>decide (d.Ld<0)) P;omega
   .unfold ZEd;rw[ZXg];have:=ZYt (λd:Ga=>!decide (d.Ld<0)&&d.After.l.isEmpty) P;omega
   .have:=(m.doors d a).after;simp only[ZXw];omega
   .rw[B,ZFY,ZFZ,<-j];exact F
def ZHo(s:Sta)(f:Prop' s)(k:StE s)(i:s.Bc.length<=500)(id:Str)(a:decide (Zn s id<0)=false):
 ∃Q,Runs s [id] [id] [] [] (ZEc Q) (ZEd Q)/\(Q.map (·.Id)).Nodup/\(∀d∈Q,d∈s.Bc)/\(∀d∈Q,Reach s id d.Id)/\(∀x,Reach s id x->x∈Q.map (·.Id)):=by
 rw[ZEz]at a;obtain⟨j,e,_,m,l⟩:=ZcU a;obtain⟨Q,t,n,c,p,r,q⟩:=ZG0 s f k i id s.Bc.length [] [id] (by simp) (λd hd=>by cases hd) (by simp) (λx hx=>⟨e,ZXp m,by rw[ZXO.1 hx];exact l⟩)
  (λx hx=>by rw[ZXO.1 hx];exact Reach.refl id) (λd hd=>by cases hd)
 refine⟨Q,t,n,c,p,λx hx=>?_⟩
 clear a;induction hx with
 |refl=>exact q id<|by simp
 |step y z d h hd hi hz ih=>
  obtain⟨g,b,o⟩:=ZXI.1 ih;rw[<-ZFX (ZEF f) (c g b) hd (o.trans hi.symm)]at hz;exact r g b z hz
def toL(x:Str):List UInt8:=x.data.toList
def ofL(l:List UInt8):Str:=⟨l.toArray⟩
def ZER(x:Str):ofL (toL x)=x:=by unfold ofL toL;simp
def ZG1(l:List UInt8):toL (ofL l)=l:=by unfold ofL toL;simp
def ZHp{x y:Str}(h:toL x=toL y):x=y:=by rw[<-ZER x,h,ZER]
def ZEi(l:List Str):List Str:=(WD<|l.map toL).map ofL
def ZHq(l:List Str):Yk (l.map encS)=(ZEi l).map encS:=by
 have e:l.map encS=(l.map toL).map Qd:=by
  rw[ZYc];exact ZYL λx _=>congrArg AV.str (ZER x).symm
 rw[e,D4];unfold ZEi;rw[ZYc];rfl
def ZES(l:List Str):(ZEi l).Perm l:=by
 have h:=(RS<|l.map toL).map ofL;rw[ZYc]at h;have e:l.map (ofL ∘ toL)=l:=by
  conv=>rhs;rw[<-List.map_id l]
  exact ZYL λx _=>ZER x
 rwa[e]at h
def ltS(a b:Str):Prop:=toL a<toL b
def ZHr(l:List Str)(d:l.Nodup):(ZEi l).Pairwise ltS:=by
 have h1:=D8<|l.map toL;have h2:(ZEi l).Nodup:=(ZES l).nodup_iff.2 d;unfold ZEi at h2⊢;rw[ZZ3];rw[List.nodup_iff_pairwise_ne,ZZ3]at h2;refine(h1.and h2).imp ?_;intro a b c;unfold ltS;rw[ZG1,ZG1];refine Decidable.byContradiction λh=>c.2 ?_
 rw[List.le_antisymm (of_decide_eq_true c.1)<|List.not_lt.1 h]
def ZHs(a b:Str):lexB (ZE4 a) (ZE4 b)=true↔ltS a b:=by
 unfold ZE4 ltS toL;rw[ZEM,decide_eq_true_iff]
def ZHt{a b:Str}(h:ZE4 a=ZE4 b):a=b:=by
 unfold ZE4 at h;apply ZHp;unfold toL;have:∀x y:List UInt8,(x.map λb=>(b.toNat:Int))=(y.map λb=>(b.toNat:Int))->x=y:=by
  intro x;induction x with
  |nil=>intro y h;cases y with
   |nil=>rfl
   |cons=>simp at h
  |cons a r ih=>intro y h;cases y with
   |nil=>simp at h
   |cons c t=>
    simp only[ZXn,List.cons.injEq]at h;have d:a=c:=UInt8.toNat_inj.1<|by omega
    rw[ih t h.2,d]
 exact this _ _ h
def gK(e:Endz):List Int×AV:=(ZE4 e.Id,e.enc)
def ZEy(x:Endz):List Endz->List Endz
 |[]=>[x]
 |y::r=>bif lexB (ZE4 x.Id) (ZE4 y.Id)then x::y::r else y::ZEy x r
def ZEj:List Endz->List Endz
 |[]=>[]
 |x::r=>ZEy x<|ZEj r
def ZG2(x:Endz):∀l:List Endz,ZvI (gK x) (l.map gK)=(ZEy x l).map gK
 |[]=>rfl
 |y::r=>by
  rw[ZXn];unfold ZvI ZEy;rw[show lexB (gK x).1 (gK y).1=lexB (ZE4 x.Id) (ZE4 y.Id)from rfl]
  cases lexB (ZE4 x.Id) (ZE4 y.Id)with
  |true=>rfl
  |false=>simp only[cond_false,ZG2 x r,ZXn]
def ZF8:∀l:List Endz,ZvN (l.map gK)=(ZEj l).map gK
 |[]=>rfl
 |x::r=>by
  rw[ZXn];unfold ZvN ZEj;rw[ZF8 r,ZG2]
def ZG3(x:Endz):∀l,(ZEy x l).Perm (x::l)
 |[]=>.refl _
 |y::r=>by
  unfold ZEy;cases lexB (ZE4 x.Id) (ZE4 y.Id)with
  |true=>exact .refl _
  |false=>exact((ZG3 x r).cons y).trans (.swap x y r)
def ZF9:∀l,(ZEj l).Perm l
 |[]=>.refl _
 |x::r=>(ZG3 x<|ZEj r).trans ((ZF9 r).cons x)
def ZG4:∀l:List Endz,keysOf ZEf (l.map Endz.enc)=some (l.map gK)
 |[]=>rfl
 |x::r=>by
  rw[ZXn,ZXn];unfold keysOf;rw[ZG4 r];rfl
def ZFa:∀l:List Endz,(l.map (·.Id)).Nodup->ZvJ (l.map gK)=true
 |[],_=>rfl
 |x::r,h=>by
  rw[ZXn,ZYo]at h;rw[ZXn];unfold ZvJ;rw[ZFa r h.2,ZXC,ZXs];intro y b;obtain⟨z,a,rfl⟩:=ZXI.1 b;have:((gK x).1==(gK z).1)=false:=by
   rw[beq_eq_false_iff_ne];intro e;exact h.1<|ZXI.2 ⟨z,a,(ZHt e).symm⟩
  rw[this];rfl
def ZHu(l:List Endz)(h:(l.map (·.Id)).Nodup):(ZEj l).Pairwise λa b=>ltS a.Id b.Id:=by
 have h1:=ZwI (l.map gK)<|ZFa l h;rw[ZF8,ZZ3]at h1;exact h1.imp λ{a b}hab=>(ZHs a.Id b.Id).1 hab
def ZET:∀l:List Str,Z4 (l.map encS)=true
 |[]=>rfl
 |x::r=>by rw[ZXn];unfold Z4;rw[ZET r];rfl
def ZEU:∀l:List Endz,Z4 (l.map Endz.enc)=true
 |[]=>rfl
 |x::r=>by rw[ZXn];unfold Z4;rw[ZEU r];rfl
def ZFb(l:List Str)(b:l.length<=1000):ZE7 97 [ZEa 97] 1 (l.map encS)=some ((ZEi l).map encS):=by
 unfold ZE7 ZEa;have h1:(l.map encS).all WB=true:=by rw[ZXs];intro x a;obtain⟨y,_,rfl⟩:=ZXI.1 a;rfl
 have h2:Nat.ble (l.map encS).length 1000000=true:=ZXH<|by rw[ZXg];omega
 simp only[h1,h2,ZHq];rfl
def ZG5(l:List Endz)(d:l.length<=1000)(b:(l.map (·.Id)).Nodup):ZEe 99 3 ZEf [ZEa 99] 3 (l.map Endz.enc)=some ((ZEj l).map Endz.enc):=by
 unfold ZEe ZEa;have h1:(l.map Endz.enc).all Zwl=true:=by rw[ZXs];intro x a;obtain⟨y,_,rfl⟩:=ZXI.1 a;rfl
 have h2:Nat.ble (l.map Endz.enc).length 1000000=true:=ZXH<|by rw[ZXg];omega
 have c:(l.map Endz.enc).all (fits 3)=true:=by rw[ZXs];intro x a;obtain⟨y,_,rfl⟩:=ZXI.1 a;rfl
 simp only[ZG4,h1,h2,c,ZEU,ZFa l b,ZF8,ZYc];rfl
def ZEk(d:Ga):Endz:=⟨d.Id,d.Why,d.Ld⟩
structure IsFate(s:Sta)(id:Str)(D:List Str)(E:List Endz):Prop where
 dn:D.Nodup
 ds:D.Pairwise ltS
 es:E.Pairwise λa b=>ltS a.Id b.Id
 dm:∀x,x∈D↔∃d∈s.Bc,d.Id=x/\d.Ld<0/\Reach s id d.Id
 em:∀e,e∈E↔∃d∈s.Bc,e=ZEk d/\¬d.Ld<0/\d.After.l=[]/\Reach s id d.Id
 dl:D.length<=500
 el:E.length<=500
theorem ZHv(s:Sta)(q:Jx s=true)(p:StE s)(B:s.Bc.length<=500)(id:Str)(i:decide (Zn s id<0)=false):∃D E,pfn rE 36 [stA s,.str id]=some (.tup [ftA false false D E,I 0])/\IsFate s id D E:=by
 have g:=((Zdb s).1 q).1;obtain⟨Q,u,n,b,m,F⟩:=ZHo s g p B id i;have K:Q.length<=500:=by
  have:=ZF6 (Q.map (·.Id)) (s.Bc.map (·.Id)) n (λx hx=>by obtain⟨d,a,rfl⟩:=ZXI.1 hx;exact ZZ2<|b d a)
  simp only[ZXg]at this;omega
 have c:∀d,d∈Q↔d∈s.Bc/\Reach s id d.Id:=λd=>⟨λh=>⟨b d h,m d h⟩,λ⟨h1,h2⟩=>by
  obtain⟨G,f,j⟩:=ZXI.1<|F _ h2
  rwa[<-ZFX (ZEF g) (b G f) h1 j]⟩
 have J:ZEc Q=((Q.filter λd=>decide (d.Ld<0)).map (·.Id)).map encS:=by unfold ZEc;rw[ZYc];rfl
 have y:ZEd Q=((Q.filter λd=>!decide (d.Ld<0)&&d.After.l.isEmpty).map ZEk).map Endz.enc:=by unfold ZEd;rw[ZYc];rfl
 have r:((Q.filter λd=>decide (d.Ld<0)).map (·.Id)).Nodup:=n.sublist<|(ZZO).map _
 have t:(((Q.filter λd=>!decide (d.Ld<0)&&d.After.l.isEmpty).map ZEk).map (·.Id)).Nodup:=by
  rw[ZYc];exact n.sublist<|(ZZO).map _
 have z:((Q.filter λd=>decide (d.Ld<0)).map (·.Id)).length<=500:=by rw[ZXg];have:=ZYt (λd:Ga=>decide (d.Ld<0)) Q;omega
 have w:((Q.filter λd=>!decide (d.Ld<0)&&d.After.l.isEmpty).map ZEk).length<=500:=by rw[ZXg];have:=ZYt (λd:Ga=>!decide (d.Ld<0)&&d.After.l.isEmpty) Q;omega
 have H:∀x,x∈((Q.filter λd=>decide (d.Ld<0)).map (·.Id))↔∃d∈s.Bc,d.Id=x/\d.Ld<0/\Reach s id d.Id:=λx=>by
  rw[ZXI];constructor
  .rintro⟨d,a,rfl⟩;rw[ZYF]at a;exact⟨d,b d a.1,rfl,of_decide_eq_true a.2,m d a.1⟩
  .rintro⟨d,h1,h2,f,j⟩;exact⟨d,ZYF.2 ⟨(c d).2 ⟨h1,j⟩,decide_eq_true f⟩,h2⟩
 have v:∀e,e∈((Q.filter λd=>!decide (d.Ld<0)&&d.After.l.isEmpty).map ZEk)↔∃d∈s.Bc,e=ZEk d/\¬d.Ld<0/\d.After.l=[]/\Reach s id d.Id:=λe=>by
  rw[ZXI];constructor
  .rintro⟨d,a,rfl⟩;simp only[ZYF,ZXf,ZXM,decide_eq_false_iff_not,ZZa]at a;exact⟨d,b d a.1,rfl,a.2.1,a.2.2,m d a.1⟩
  .rintro⟨d,h1,h2,f,j,C⟩;refine⟨d,?_,h2.symm⟩;simp only[ZYF,ZXf,ZXM,decide_eq_false_iff_not,ZZa];exact⟨(c d).2 ⟨h1,C⟩,f,j⟩
 rw[J,y]at u;generalize(Q.filter λd=>decide (d.Ld<0)).map (·.Id)=D0 at*
 generalize(Q.filter λd=>!decide (d.Ld<0)&&d.After.l.isEmpty).map ZEk=E0 at*
 have A:pfn rE 93 [stA s,.str id]=some (I 0):=by
  rw[ZSH s p id];unfold ZEb;rw[q,i];rfl
 have k:=ZES D0;have o:=ZF9 E0;refine⟨ZEi D0,ZEj E0,?_,k.nodup_iff.2 r,ZHr D0 r,ZHu E0 t,λx=>by rw[k.mem_iff,H],λe=>by rw[o.mem_iff,v],by rw[k.length_eq];exact z,by rw[o.length_eq];exact w⟩
 exact ZFW s id _ _ _ _ A u (ZFb D0<|by omega) (ZG5 E0 (by omega) t) (by simp[k.length_eq]) (by simp[o.length_eq]) (ZET _)<|ZEU _
def ZOU(p:Pt):AV:=.iptr false [I p.X,I p.Y]
def ZLc(p:Pt)(t:AV):Fr:=[(5,ZOU p),(6,.isl false false 1 []),(7,.bool false),(8,I 0),(9,.ptr 1 0 0 1),(10,.ptr 2 0 0 1),(28,t)]
def lkH(st:LoopState)(p:Pt)(t:AV)(q:List Str×Bool):Hp:=[.row 1<|q.1.map encS,.row 1 [.sl 0 q.1.length 0 q.1.length false],.row 1 [.bool q.2],.loop st .normal (ZLc p t) [29] c355R0a c355R0b]
def lkS(p:Pt)(q:List Str×Bool)(x:Gk):List Str×Bool:=(bif decide (ZoY x.Ring.l p>=0)then q.1++[x.Id]else q.1,q.2||decide (ZoY x.Ring.l p>0))
def ZMe(p:Pt)(t:AV)(ht:∀n,bel n t=true)(q:List Str×Bool)(hq:q.1.length<=1000000)(x:Gk)(hr:x.Ring.l.length<=1000000)(o:AObj)(ho:∀n,Zj n o=true):
 U4 rE 3 [arA x] (lkH .ready p t q++[o])=some (.bool true,lkH .ready p t (lkS p q x)++[o,.row 3 [arA x]]):=by
 have hW:=Zqn x.Ring.l x.Ring.ex hr p;have hbS:∀n(K:List Str),Zd n (K.map encS)=true:=λn K=>ZN _<|Zw (λt=>rfl) K
 have ha:=λ(r1 r2 r3 r4 r5:AObj)=>XC (h:=[.row 1<|q.1.map encS,r1,r2,r3,r4,r5]) (fz:=false) (b:=0) (g:=q.1.length) (sz:=1) (es:=q.1.map encS) (bw:=false) (ex:=false) (ys:=[.str x.Id]) (bytes:=16) (by unfold rowAt;simp) rfl (by rfl) (by omega) (by omega) (by simp;omega)
 have h:=Ss (E:=rE) (b:=3) (args:=[arA x]) (h:=lkH .ready p t q++[o]) (fr:=ZLc p t) (ps:=[29]) (assign:=c355R0a) (body:=c355R0b)
  (fr0:=(29,arA x)::ZLc p t) rfl rfl (by simp only[go_sem,c355R0a,lkH,ZLc,ZOU,arA]<;>rfl) (h1:=lkH .ready p t q++[o,.row 3 [arA x]]) (by rfl)
  (e:=.normal) (fr2:=[]) (h2:=lkH .busy p t (lkS p q x)++[o,.row 3 [arA x]])
  (by
   show Zb rE c355R0b [(11,.ptr 5 0 0 1),(29,arA x),(5,ZOU p),(6,.isl false false 1 []),(7,.bool false),(8,I 0),(9,.ptr 1 0 0 1),(10,.ptr 2 0 0 1),(28,t)]
    [.row 1<|q.1.map encS,.row 1 [.sl 0 q.1.length 0 q.1.length false],.row 1 [.bool q.2],.loop .busy .normal (ZLc p t) [29] c355R0a c355R0b,o,.row 3 [arA x]]=_
   have hlp:∀n,3<=n->Zj n (.loop .busy .normal (ZLc p t) [29] c355R0a c355R0b)=true:=λn hn=>by
    have d1:decide (1<n)=true:=decide_eq_true<|by omega
    have d2:decide (2<n)=true:=decide_eq_true<|by omega
    simp only[go_sem,ZLc,ZOU,ht,d1,d2]
   have hl6:=hlp 6<|by omega
   unfold lkS lkH;generalize AObj.loop .busy .normal (ZLc p t) [29] c355R0a c355R0b=lo at hl6⊢;cases c:decide (ZoY x.Ring.l p>=0)with
   |true=>
    have hap:=ha (.row 1 [.sl 0 q.1.length 0 q.1.length false]) (.row 1 [.bool q.2]) lo o<|.row 3 [arA x];simp only[arA]at hap;cases c2:q.2 with
    |true=>
     rw[c2]at hap;simp only[go_sem,c355R0b,ZOU,arA,hW,c,hap,hbS,ho,hl6,ZXy,ZY7,ZXx,ZXE,cond_true,encS]
    |false=>
     rw[c2]at hap;simp only[go_sem,c355R0b,ZOU,arA,hW,c,hap,hbS,ho,hl6,ZXy,ZY7,ZXx,ZXU,cond_true,encS]
   |false=>
    cases c2:q.2 with
    |true=>simp only[go_sem,c355R0b,ZOU,arA,hW,c,hbS,ho,hl6,ZXE,cond_false]
    |false=>simp only[go_sem,c355R0b,ZOU,arA,hW,c,hbS,ho,hl6,ZXU,cond_false]) (by rfl)
 exact h
def lkT(k:Int)(p:Pt)(L:List Gk):List Str×Bool:=(L.filter λx=>x.br==k).foldl (lkS p) ([],false)
def ZMf{k:Int}{p:Pt}{L:List Gk}{i:Nat}{x:Gk}(h:L[i]?=some x):lkT k p (L.take<|i+1)=bif x.br==k then lkS p (lkT k p<|L.take i) x else lkT k p (L.take i):=by
 have hi:=ZXu.1 h;unfold lkT;rw[ZYR hi.1,ZZ4,ZZs,hi.2];cases c:x.br==k<;>simp[List.filter,c]
def ZLX(p:Pt):∀(l:List Gk)(q:List Str×Bool),(l.foldl (lkS p) q).1.length<=q.1.length+l.length
 |[],q=>ZXh _
 |x::l,q=>by
  have:=ZLX p l<|lkS p q x;have h2:(lkS p q x).1.length<=q.1.length+1:=by
   unfold lkS;dsimp only;cases decide (ZoY x.Ring.l p>=0)with
   |true=>rw[cond_true,ZXy];exact ZXh _
   |false=>rw[cond_false];omega
  rw[ZY5,ZXw];omega
def ZLY(k:Int)(p:Pt)(L:List Gk):(lkT k p L).1.length<=L.length:=by
 unfold lkT;have:=ZLX p (L.filter λx=>x.br==k) ([],false)
 have h2:=ZYt (λx:Gk=>x.br==k) L
 simp only[ZXK]at this;omega
def lkC(k:Int)(L:List Gk):AV:=.clo (.func 421) [] [.iptr false [.isl false false 3<|L.map arA],.iptr false [I k]]
def ZMg(k:Int)(p:Pt)(L:List Gk)(hl:L.length<=1000)(hr:∀x∈L,x.Ring.l.length<=1000000):
 ∃fr',Zg rE [0,2,6,7,8] c421L0b [(0,.yld 3),(2,.iptr false [I k]),(6,.isl false false 3<|L.map arA),(7,I L.length),(8,.int .i64 0)] (lkH .ready p (lkC k L) ([],false))=some (.exit 0,fr',lkH .ready p (lkC k L)<|lkT k p L):=by
 have ht:∀n,bel n (lkC k L)=true:=λn=>rfl
 have hb4:Zd 4 (frV<|ZLc p<|lkC k L)=true:=rfl;have hbS:∀n(K:List Str),Zd n (K.map encS)=true:=λn K=>ZN _<|Zw (λt=>rfl) K
 have Q:=Y8 (E:=rE) (live:=[0,2,6,7,8]) (b:=c421L0b) L.length (λi=>[(0,.yld 3),(2,.iptr false [I k]),(6,.isl false false 3<|L.map arA),(7,I L.length),(8,I i)])
  (λi=>lkH .ready p (lkC k L)<|lkT k p<|L.take i) (λi=>rfl)
  (λi hi=>by
   obtain⟨x,hx⟩:∃x,L[i]?=some x:=⟨_,ZXj hi⟩;have hg:=Z6 (f:=arA) hx;have hi':=Zh hi;have hw:=Zx (n:=i)<|by omega
   have hs:=ZMf (k:=k) (p:=p) hx;have hq:(lkT k p<|L.take i).1.length<=1000000:=by
    have:=ZLY k p<|L.take i;rw[ZXX]at this;omega
   have hy:=ZMe p (lkC k L) ht (lkT k p<|L.take i) hq x (hr x<|ZXp hx) (.row 3 [arA x])<|λn=>rfl
   rw[hs];generalize lkT k p (L.take i)=q at*;cases c:x.br==k with
   |true=>
    rw[cond_true];generalize lkS p q x=q2 at*;unfold lkH at hy⊢;have hlo:Zj 4 (.loop .ready .normal (ZLc p<|lkC k L) [29] c355R0a c355R0b)=true:=hb4;have hlo5:Zj 5 (.loop .ready .normal (ZLc p<|lkC k L) [29] c355R0a c355R0b)=true:=rfl;generalize AObj.loop .ready .normal (ZLc p<|lkC k L) [29] c355R0a c355R0b=lo at*;simp only[arA,ZXl,ZXo]at hy hg;refine⟨_,by simp only[go_sem,c421L0b,S3,hg,arA,hi',hw,c,hy,hbS,hlo,hlo5];rfl,?_⟩
    simp only[go_sem]
   |false=>
    rw[cond_false];unfold lkH;have hlo:Zj 4 (.loop .ready .normal (ZLc p<|lkC k L) [29] c355R0a c355R0b)=true:=hb4;generalize AObj.loop .ready .normal (ZLc p<|lkC k L) [29] c355R0a c355R0b=lo at*;simp only[arA]at hg;refine⟨_,by simp only[go_sem,c421L0b,hg,arA,hi',hw,c,hbS,hlo];rfl,?_⟩
    simp only[go_sem])
  (e:=.exit 0) (by simp only[go_sem,lkH,c421L0b,ZG];rfl) (by simp)
 rw[ZXG]at Q;exact⟨_,Q⟩
def ZMh(k:Int)(p:Pt)(L:List Gk)(hl:L.length<=1000)(hr:∀x∈L,x.Ring.l.length<=1000000):
 rf rE (lkC k L) [29] c355R0a c355R0b (ZLc p<|lkC k L) [.row 1 [],.row 1 [.sl 0 0 0 0 false],.row 1 [.bool false]] =
  some (.normal,ZLc p<|lkC k L,[.row 1<|(lkT k p L).1.map encS,.row 1 [.sl 0 (lkT k p L).1.length 0 (lkT k p L).1.length false],.row 1 [.bool (lkT k p L).2],.loop .exhausted .normal (ZLc p<|lkC k L) [29] c355R0a c355R0b]):=by
 have hb4:Zd 4 (frV<|ZLc p<|lkC k L)=true:=rfl;have hbS:∀n(K:List Str),Zd n (K.map encS)=true:=λn K=>ZN _<|Zw (λt=>rfl) K
 obtain⟨fr',h1⟩:=ZMg k p L hl hr;have hlo:Zj 4 (.loop .ready .normal (ZLc p<|lkC k L) [29] c355R0a c355R0b)=true:=hb4;unfold lkH at h1;simp only[ZXD,ZXK]at h1;generalize lkT k p L=q at*;unfold lkC at h1⊢;rw[Z1k (c:=c421) rfl];unfold lkC at hlo;simp only[go_sem,c421,c421L0,ZXg,h1,hbS,hlo];rfl
def ZVb(L:List Gk)(hl:L.length<=400)(hn:(L.map (·.Id)).Nodup)(hv:∀x∈L,ZZ x.Id=true/\ZD x.br 1 3=true/\Vh x.Ring.l=true/\x.Ring.l.length<=1000000)(k:Int)(hk:ZD k 1 3=true)(p:Pt):
 pfn rE 355 [.isl false false 3<|L.map arA,I k,.agg [I p.X,I p.Y]]=some (.tup<|bif gOn p then [.isl false false 1<|(ZEi (lkT k p L).1).map encS,.bool (lkT k p L).2,I 0]else [.isl false false 1 [],.bool false,I 1]):=by
 have h1:=Zib L hl hn hv;have h2:=Zi9 k;have h3:=W8 p;rw[hk]at h2;rw[Z5 (f:=355) rfl rfl];cases c:gOn p with
 |false=>
  rw[c]at h3;simp only[go_sem,c355,h1,h2,h3,ZXq,ZXv,cond_false]
 |true=>
  rw[c]at h3;have hr:=ZMh k p L (by omega)<|λx hx=>(hv x hx).2.2.2
  have hlen:=ZLY k p L;generalize lkT k p L=q at*;have hbS:∀n(K:List Str),Zd n (K.map encS)=true:=λn K=>ZN _<|Zw (λt=>rfl) K
  have hcS:∀(K:List Str),Z4 (K.map encS)=true:=λK=>Zw (λt=>rfl) K
  have hof:∀h,fnV rE 399 [.isl false false 3<|L.map arA,I k] h=some (lkC k L,h):=λh=>by
   have hcl:Z4 (L.map arA)=true:=Zw (λ_=>rfl) _
   rw[Q6 (f:=399) rfl rfl];simp only[go_sem,c399,lkC,GH]
  have hso:∀r1 r2,fnV rE 263 [.sl 0 q.1.length 0 q.1.length false] [.row 1<|q.1.map encS,r1,r2]=some (.tup [],[.row 1<|(ZEi q.1).map encS,r1,r2]):=λr1 r2=>by
   have hstr:(q.1.map encS).all WB=true:=by rw[ZYE,ZXs];intro x _;rfl
   have hble:Nat.ble q.1.length 1000000=true:=ZXH<|by omega
   rw[V8 (s:=J7) rfl];simp only[J7,ZYf,ZXg,beq_self_eq_true,hstr,hble,ZXC,cond_true,GM,ZHq]
  have hsl:(ZEi q.1).length=q.1.length:=(ZES q.1).length_eq;simp only[ZLc,ZOU,lkC]at hr;have htk:((ZEi q.1).map encS).take q.1.length=(ZEi q.1).map encS:=ZXz<|by rw[ZXg,hsl];exact ZXh _
  simp only[go_sem,put,c355,h1,h2,h3,hof,Sr,hr,hso,hsl,hbS,hcS,htk,lkC,beq_self_eq_true,ZXS,ZXq,cond_true]
def ZLf(k:Int)(p:Pt)(L:List Gk):Str×Int:=
 bif gOn p then
  match ZEi (lkT k p L).1 with
  |[]=>(emp,10)
  |x::r=>bif !r.isEmpty&&(lkT k p L).2 then(emp,8)else(x,0)
 else(emp,1)
structure RgOk(L:List Gk):Prop where
 len:L.length<=400
 ids:(L.map (·.Id)).Nodup
 ok:∀x∈L,ZZ x.Id=true/\ZD x.br 1 3=true/\Vh x.Ring.l=true/\x.Ring.l.length<=1000000
def ZMi(L:List Gk)(hL:RgOk L)(k:Int)(hk:ZD k 1 3=true)(p:Pt):pfn rE 290 [.isl false false 3<|L.map arA,I k,.agg [I p.X,I p.Y]]=some (.tup [.str (ZLf k p L).1,I (ZLf k p L).2]):=by
 have h:=ZVb L hL.len hL.ids hL.ok k hk p;unfold ZLf;rw[Z5 (f:=290) rfl rfl];cases c:gOn p with
 |false=>
  rw[c,cond_false]at h;have z1:((1:Int) != 0)=true:=rfl;simp only[go_sem,c290,h,z1,cond_false]
 |true=>
  rw[c,cond_true]at h;have z0:((0:Int) != 0)=false:=rfl;rw[cond_true];cases hs:ZEi (lkT k p L).1 with
  |nil=>
   rw[hs]at h;have z2:(((0:Nat):Int)==0)=true:=rfl;simp only[ZXD]at h;simp only[go_sem,c290,h,z0,z2,ZXK]
  |cons x r=>
   rw[hs]at h;have z3:(((r.length+1:Nat):Int)==0)=false:=by rw[beq_eq_false_iff_ne];omega
   have hix:ixG (.str x::r.map encS) 0=some (.str x):=rfl;simp only[ZXn,encS]at h;cases r with
   |nil=>
    have z4:decide (((0+1:Nat):Int)>1)=false:=rfl;simp only[ZXK]at z3;simp only[ZXD]at h hix;simp only[go_sem,c290,h,z0,z3,z4,hix,ZXw,ZXK,List.isEmpty_nil,ZXq,ZXm,cond_false]
   |cons y r=>
    have z4:decide (((r.length+1+1:Nat):Int)>1)=true:=decide_eq_true<|by omega
    simp only[ZXw]at z3;simp only[ZXn,encS]at h hix;cases c2:(lkT k p L).2 with
    |true=>
     rw[c2]at h;simp only[go_sem,c290,h,z0,z3,z4,ZXw,ZXg,ZZu,ZXv,ZXC,cond_true]
    |false=>
     rw[c2]at h;simp only[go_sem,c290,h,z0,z3,z4,hix,ZXw,ZXg,ZZu,ZXv,ZXT,cond_false]
structure Plc where
 Ga:Str
 By:Str
 Code:Str
 District:Str
 City:Str
 An:HN
 bg:Pt
def Plc.enc(a:Plc):AV:=.agg [.str a.Ga,.str a.By,.str a.Code,.str a.District,.str a.City,I a.An.N,.str a.An.bn,I a.An.Num,I a.An.Den,I a.bg.X,I a.bg.Y]
def zP:Plc:=⟨emp,emp,emp,emp,emp,⟨0,emp,0,0⟩,⟨0,0⟩⟩
def ZLs(s:Sta)(d:Ga):Plc:=⟨d.Id,d.By,(ZLf 3 d.bg<|lvR s.Fa).1,(ZLf 2 d.bg<|lvR s.Fa).1,(ZLf 1 d.bg<|lvR s.Fa).1,d.An,d.bg⟩
def dI(d:Ga):AV:=match d.enc with| .agg cs=>.iptr false cs|v=>v
def ZLt(L:List Gk)(hL:RgOk L)(k:Int)(hk:ZD k 1 3=true)(d:Ga):pfn rE 289 [I k,.iptr true [.isl false false 3<|L.map arA],dI d]=some (.str (ZLf k d.bg L).1):=by
 have h:=ZMi L hL k hk d.bg;have hc:Z4 (L.map arA)=true:=Zw (λ_=>rfl) _
 rw[Z5 (f:=289) rfl rfl];simp only[go_sem,c289,dI,Ga.enc,NL.enc,h]
def ZMj(s:Sta)(hs:StS s)(hL:RgOk<|lvR s.Fa)(d:Ga):pfn rE 188 [stA s,d.enc]=some (ZLs s d).enc:=by
 have h0:=Zi3 s hs;have h3:=ZLt (lvR s.Fa) hL 3 rfl d;have h2:=ZLt (lvR s.Fa) hL 2 rfl d;have h1:=ZLt (lvR s.Fa) hL 1 rfl d;simp only[stA]at h0;unfold ZLs Plc.enc;generalize(ZLf 3 d.bg<|lvR s.Fa).1=x3 at*;generalize(ZLf 2 d.bg<|lvR s.Fa).1=x2 at*;generalize(ZLf 1 d.bg<|lvR s.Fa).1=x1 at*;have hc:Z4 ((lvR s.Fa).map arA)=true:=Zw (λ_=>rfl) _
 generalize hM:(lvR s.Fa).map arA=M at*;simp only[dI,Ga.enc,NL.enc]at h3 h2 h1;rw[Z5 (f:=188) rfl rfl];simp only[go_sem,c188,stA,Ga.enc,NL.enc,h0,h1,h2,h3,hc]
def ZMk{s:Sta}(hp:Prop' s)(hs:StE s)(hl:s.Fa.length<=400):RgOk (lvR s.Fa):=
 ⟨ZXW (Zi0 _) hl,by
  have h1:=hp.ids;unfold Qp at h1;exact(ZYJ.1 h1).1.sublist (ZZO.map _),λx hx=>by
  have hm:x∈s.Fa:=(ZYF.1 hx).1;have h1:=hp.rg x hm;unfold Vo at h1;rw[Zdu]at h1;simp only[ZXf]at h1;exact⟨h1.2.2.1,h1.2.2.2.1,h1.2.2.2.2,by have:=(hs.regions x hm).2.1;omega⟩⟩
def ZLa(s:Sta)(id:Str):Plc×Int:=
 bif !Jx s then(zP,1)else
 match(bif decide (Zn s id<0)then none else s.Bc[(Zn s id).toNat]?)with
 |none=>(zP,10)
 |some d=>bif d.Ld != -1 then(zP,11)else bif !Z3 d.Veil emp then(zP,24)else(ZLs s d,0)
def ZLu(s:Sta)(hs:StE s)(hl:s.Fa.length<=400)(id:Str):pfn rE 101 [stA s,.str id]=some (.tup [(ZLa s id).1.enc,I (ZLa s id).2]):=by
 have hp:=Z3i s hs;have hf:=find_ok s hs.sizes id;unfold ZLa;cases c1:Jx s with
 |false=>
  rw[c1]at hp;rw[Z5 (f:=101) rfl rfl];simp only[stA]at hp;simp only[go_sem,c101,stA,hp,zP,Plc.enc,ZXv,cond_true]
 |true=>
 rw[c1]at hp;cases c2:decide (Zn s id<0)with
 |true=>
  rw[Z5 (f:=101) rfl rfl];simp only[stA]at hp hf;simp only[go_sem,c101,stA,hp,hf,c2,zP,Plc.enc,ZXq,cond_true,cond_false]
 |false=>
 have c2':=c2;rw[ZEz]at c2';obtain⟨k,d,h1,h2,h3⟩:=ZcU c2';have h1':Zn s id=(k:Int):=h1;have hg:=Z6 (f:=Ga.enc) h2;have ha:=ZMj s hs.sizes (ZMk ((Zdb s).1 c1).1 hs hl) d;rw[h1']at hf c2⊢;rw[ZY4,h2];simp only[stA]at hp hf ha;simp only[ZXq,cond_false];unfold Plc.enc at ha⊢;cases c10003:d.Ld != -1 with
 |true=>
  rw[Z5 (f:=101) rfl rfl];simp only[go_sem,c101,stA,hp,hf,c2,hg,Ga.enc,c10003,zP,ZXq,cond_true]
 |false=>
 cases c10004:Z3 d.Veil emp with
 |false=>
  rw[Z5 (f:=101) rfl rfl];simp only[go_sem,c101,stA,hp,hf,c2,hg,Ga.enc,c10003,c10004,zP,ZXq,ZXv,cond_true,cond_false]
 |true=>
  rw[Z5 (f:=101) rfl rfl];simp only[Ga.enc]at ha;simp only[go_sem,c101,stA,hp,hf,c2,hg,Ga.enc,c10003,c10004,ha,ZXq,cond_false]
def ZSI(d:Str):pfn rE 14 [.str d]=some (.bool<|ZOv d):=by
 obtain⟨t,h⟩:=ZVa ⟨d,0,-1,0,false⟩;have hp:ZQN ⟨d,0,-1,0,false⟩=ZOv d:=by
  show(ZOv d&&true)=ZOv d
  rw[ZXC]
 rw[hp]at h;unfold Lab.enc at h;rw[Z5 (f:=14) rfl rfl];cases hs:ZOv d with
 |true=>
  rw[hs]at h;have h':pfn rE 32 [.agg [.str d,.int .i64 0,.int .i64<|-1,.int .i64 0,.bool false]]=some (.tup [.str t,.int .i64 0]):=h;simp only[go_sem,c14,h'];rfl
 |false=>
  rw[hs]at h;have h':pfn rE 32 [.agg [.str d,.int .i64 0,.int .i64<|-1,.int .i64 0,.bool false]]=some (.tup [.str t,.int .i64 1]):=h;simp only[go_sem,c14,h'];rfl
noncomputable def ZOj(l:List Off)(s:Sta)(id:Str):Int×Int:=
 bif !ZO5 l then(0,1)else
 bif (ZLa s id).2==0 then ZPy l (ZLa s id).1.Code else
 bif (ZLa s id).2==24 then(match s.Bc[(Zn s id).toNat]? with|some d=>bif decide (d.bz>=(l.length:Int))then(0,9)else(d.bz,0)|none=>(0,0))else(0,(ZLa s id).2)
def ZSJ{s:Sta}{id:Str}(h:((ZLa s id).2==24)=true):∃(k:Nat)(d:Ga),Zn s id=k/\s.Bc[k]?=some d/\d.Ld=-1/\Z3 d.Veil emp=false/\Jx s=true:=by grind [ZLa]
def ZVc(ex:Bool)(l:List Off)(hS:∀o∈l,OffS o)(s:Sta)(hs:StE s)(hl:s.Fa.length<=400)(id:Str):pfn rE 39 [ofA ex l,stA s,.str id]=some (.tup [I (ZOj l s id).1,I (ZOj l s id).2]):=by
 have hv:=ZQ8 ex l hS;have hA:=ZLu s hs hl id;have hz:Z4 [ofA ex l]=true:=ZPv ex l;have hsv:=ZV5 ex l hS (ZLa s id).1.Code;have hf:=find_ok s hs.sizes id;have hz2:∀c:Str,Z4 [ofA ex l,.str c]=true:=λc=>by simp[Z4,clean,ZP0]
 unfold ZOj;cases c0:ZO5 l with
 |false=>
  rw[c0]at hv;rw[Z5 (f:=39) rfl rfl];simp[go_sem,c39,hv,hz,ZXv,cond_true]
 |true=>
  rw[c0]at hv;simp only[ZXq,cond_false];cases c1:(ZLa s id).2==0 with
  |true=>
   simp only[cond_true];generalize ZLa s id=q at*;obtain⟨⟨a1,a2,a3,a4,a5,⟨a6,a7,a8,a9⟩,⟨a10,a11⟩⟩,e⟩:=q;generalize ZPy l a3=z at*;unfold Plc.enc at hA;simp only[stA]at hA hsv c1⊢;rw[Z5 (f:=39) rfl rfl];simp only[go_sem,c39,hv,hz,hA,c1,ZQ9,hz2,hsv]
  |false=>
   simp only[cond_false];cases c2:(ZLa s id).2==24 with
   |false=>
    simp only[cond_false];generalize ZLa s id=q at*;obtain⟨⟨a1,a2,a3,a4,a5,⟨a6,a7,a8,a9⟩,⟨a10,a11⟩⟩,e⟩:=q;unfold Plc.enc at hA;simp only[stA]at hA c1 c2⊢;rw[Z5 (f:=39) rfl rfl];simp only[go_sem,c39,hv,hz,hA,c1,c2]
   |true=>
    obtain⟨k,d,h1,h2,h3,h4,h5⟩:=ZSJ c2;have hg:=Z6 (f:=Ga.enc) h2;rw[h1]at hf⊢;rw[ZY4,h2];have hk0:(0<=(k:Int))=True:=by simp
    have hk1:((k:Int)).toNat=k:=rfl;simp only[cond_true];generalize ZLa s id=q at*;obtain⟨⟨a1,a2,a3,a4,a5,⟨a6,a7,a8,a9⟩,⟨a10,a11⟩⟩,e⟩:=q;unfold Plc.enc at hA;simp only[stA]at hA hf c1 c2⊢;cases c3:decide (d.bz>=(l.length:Int))with
    |true=>
     rw[Z5 (f:=39) rfl rfl];simp only[go_sem,c39,hv,hz,hA,hf,c1,c2,c3,hg,hk0,hk1,ZPS,Ga.enc,cond_true]
    |false=>
     rw[Z5 (f:=39) rfl rfl];simp only[go_sem,c39,hv,hz,hA,hf,c1,c2,c3,hg,hk0,hk1,ZPS,Ga.enc,cond_false]
def orA(bw ex:Bool)(l:List Ord):AV:=.isl bw ex 6<|l.map Ord.enc
def ZSK(x:Int):pfn rE 28 [I x]=some (.bool<|!dyB x):=by
 have h:=ZU6 x;rw[Z5 (f:=28) rfl rfl];simp[go_sem,c28,h]
def ZVd(bw ex:Bool)(l:List Int)(hl:l.length<=1000000):pfn rE 27 [.isl bw ex 1<|l.map I,.clo (.func 28) [] []]=some (.bool<|l.any λx=>!dyB x):=by
 cases bw with
 |false=>exact ZSd ex l hl 28 [] rfl _ ZSK
 |true=>
  obtain⟨n,h,hn⟩:=ZSc true ex l hl 28 [] rfl _ ZSK;have f1:freeze true [] 39 (.isl true ex 1<|l.map I)=some (.isl true ex 1<|l.map I):=rfl;have f2:ZC true [] 39 [.clo (.func 28) [] []]=some [.clo (.func 28) [] []]:=rfl;rw[Z5 (f:=27) rfl rfl];simp[go_sem,c27,h,hn,f2]
noncomputable def ZOs(l:List Off)(C:List Int):Bool:=ZO5 l&&(((C.length:Int)==l.length)&&!(C.any λx=>!dyB x))
def ZSL(ex bw e2:Bool)(l:List Off)(hv:pfn rE 30 [ofA ex l]=some (.bool<|ZO5 l))(C:List Int)(hC:C.length<=1000000):pfn rE 12 [ofA ex l,.isl bw e2 1<|C.map I]=some (.bool<|ZOs l C):=by
 have h74:=ZVd bw e2 C hC;have hz:Z4 [ofA ex l]=true:=ZPv ex l;unfold ZOs;have f1:freeze true [] 39 (.isl true e2 1<|C.map I)=some (.isl true e2 1<|C.map I):=rfl;have f2:ZC true [] 39 [.clo (.func 28) [] []]=some [.clo (.func 28) [] []]:=rfl;have f3:Z4 [.isl false e2 1<|C.map I,.clo (.func 28) [] []]=true:=by simp[Z4,clean]
 have hq:∀b:Bool,(b=(C.any λx=>!dyB x))->pfn rE 12 [ofA ex l,.isl bw e2 1<|C.map I]=some (.bool<|ZO5 l&&(((C.length:Int)==l.length)&&!b)):=by
  intro b hb;rw[<-hb]at h74;rw[Z5 (f:=12) rfl rfl];cases bw<;>cases c1:ZO5 l<;>rw[c1]at hv<;>cases c2:((C.length:Int)==(l.length:Int))<;>
   simp[go_sem,c12,h74,hv,hz,c2,ZPS,ZXg,ZXm,ZXk]
 grind
def ZVe(bw ex:Bool)(l:List Ord)(hl:l.length<=50000)(hs:∀o∈l,OrdS o)(p:Str)(hp:p.size<=1000)(d:Int):pfn rE 13 [orA bw ex l,.str p,I d]=some (.bool<|dyB d&&(ZOK l&&ZOe p)):=by
 have h:=ZSa bw ex l hl hs p (B [97]) hp (by decide) d
 have hf:ZOe (B [97])=true:=by kernel_rfl
 unfold ZPM at h;rw[hf,ZXC]at h;unfold orA;rw[Z5 (f:=13) rfl rfl];cases c:dyB d&&(ZOK l&&ZOe p)with
 |true=>
  rw[c,cond_true]at h;cases bw<;>(simp only[go_sem,c13,h];rfl)
 |false=>
  rw[c,cond_false]at h;cases bw<;>(simp only[go_sem,c13,h];rfl)
theorem ZFi(s:Sta)(c:StE s)(id:Str)(h:ZEb s id≠0):pfn rE 36 [stA s,.str id]=some (.tup [ftA false false [] [],I<|ZEb s id]):=by
 have a:=ZSH s c id;simp only[stA]at a;have b:(ZEb s id != 0)=true:=by rw[bne_iff_ne];exact h
 rw[Z5 (f:=36) rfl rfl];generalize ZEb s id=e at a b⊢;simp only[go_sem,c36,stA,a,b,ftA,List.map]
abbrev ZOV(f ex bw e2:Bool)(l:List Off)(os:List Ord)(p:Str)(d:Int):AV:=.iptr f [ofA ex l,orA bw e2 os,.str p,I d]
def stC(s:Sta):List AV:=match stA s with| .agg cs=>cs|_=>[]
noncomputable def ZOW(l:List Off)(s:Sta)(d:Str):Bool:=(ZOj l s d).2==0&&ZOv d
def ZVf(f ex bw e2:Bool)(l:List Off)(hS:∀o∈l,OffS o)(os:List Ord)(p:Str)(dy:Int)(s:Sta)(hs:StE s)(hl:s.Fa.length<=400)(d:Str)(p0 p1:AObj)(x:Int):
 fnV rE 38 [.str d,ZOV f ex bw e2 l os p dy,.iptr false<|stC s,.ptr 2 0 0 1] [p0,p1,.row 1 [I x]]=some (.bool<|ZOW l s d,[p0,p1,.row 1 [I (ZOj l s d).1]]):=by
 have ht:=ZVc ex l hS s hs hl d;have hd:=ZSI d;have hz:Z4 [ofA ex l,stA s,.str d]=true:=rfl;unfold ZOW;generalize ZOj l s d=t at*;obtain⟨n,e⟩:=t;rw[Q6 (f:=38) rfl rfl];simp[stC];cases c1:e==0<;>simp[go_sem,c38,ht,hd,hz,c1,ZXk]
noncomputable def pkT(l:List Off)(s:Sta):List Str->Nat->Option (Nat×Str)
 |[],_=>none
 |d::r,i=>if ZOW l s d=true then some (i,d)else pkT l s r<|i+1
def ZSM(f ex bw e2 b3:Bool)(l:List Off)(hS:∀o∈l,OffS o)(os:List Ord)(p:Str)(dy:Int)(s:Sta)(hs:StE s)(hl:s.Fa.length<=400)(D:List Str)(hD:D.length<=1000)(p0 p1:AObj):
 ∀(k i:Nat)(x:Int),k+i=D.length->∃fr' x',Zg rE [0,1,7,8] c100L0b [(0,.isl false b3 1<|D.map encS),(1,.clo (.func 38) [] [ZOV f ex bw e2 l os p dy,.iptr false<|stC s,.ptr 2 0 0 1]),(7,I D.length),(8,I i)] [p0,p1,.row 1 [I x]] =
  some (match pkT l s (D.drop i) i with|none=>(.exit 0,fr',[p0,p1,.row 1 [I x']])|some q=>(.ret,fr',[p0,p1,.row 1 [I (ZOj l s q.2).1]]))/\(∀q,pkT l s (D.drop i) i=some q->get fr' 4=I q.1)
 |0,i,x,hk=>by
  have hi:i=D.length:=by omega
  subst hi;rw[ZYD<|ZXh _];unfold pkT;exact⟨_,x,Q7 rfl (e:=.exit 0) (by simp[go_sem,c100L0b];rfl) (by simp),λq h=>by grind⟩
 |k+1,i,x,hk=>by
  have hlt:i<D.length:=by omega
  have hx:D[i]?=some D[i]:=ZXj hlt;have hg:=Z6 (f:=encS) hx;have hi':=Zh hlt;have hw:=Zx (n:=i)<|by omega
  rw[ZXP hlt];generalize D[i]=d at*;have h77:=ZVf f ex bw e2 l hS os p dy s hs hl d p0 p1 x;unfold pkT;unfold encS at*;cases h:ZOW l s d with
  |true=>
   rw[h]at h77;rw[if_pos rfl];refine⟨_,x,Q7 rfl (e:=.ret) (by simp only[go_sem,c100L0b,hg,hi',h77];rfl) (by simp),λq hq=>?_⟩
   cases hq;simp only[go_sem]
  |false=>
   rw[h]at h77;obtain⟨fr',x',h1,h2⟩:=ZSM f ex bw e2 b3 l hS os p dy s hs hl D hD p0 p1 k (i+1) (ZOj l s d).1 (by omega)
   refine⟨fr',x',?_,by grind⟩
   rw[if_neg (by simp),Yt rfl (fr':=[(0,.isl false b3 1<|D.map λt=>.str t),(1,.clo (.func 38) [] [ZOV f ex bw e2 l os p dy,.iptr false<|stC s,.ptr 2 0 0 1]),(4,.bot),(7,I D.length),(8,I ((i+1:Nat):Int))]) (h':=[p0,p1,.row 1 [I (ZOj l s d).1]]) (by
    simp only[go_sem,c100L0b,hg,hi',hw,h77])]
   exact h1
def ZSN(l:List Off)(s:Sta)(D:List Str):∀(k i:Nat)(q:Nat×Str),k+i=D.length->pkT l s (D.drop i) i=some q->D[q.1]?=some q.2/\ZOW l s q.2=true
 |0,i,q,hk,h=>by
  rw[ZYD<|by omega]at h;cases h
 |k+1,i,q,hk,h=>by
  have hlt:i<D.length:=by omega
  rw[ZXP hlt]at h;unfold pkT at h;split at h
  .grind
  .exact ZSN l s D k (i+1) q (by omega) h
open Classical in
noncomputable def ZOz(s:Sta)(id:Str):List Str:=if h:∃D E e,pfn rE 36 [stA s,.str id]=some (.tup [ftA false false D E,I e])then h.choose else []
def ZSO(s:Sta)(hs:StE s)(hd:s.Bc.length<=500)(id:Str):∃E e,pfn rE 36 [stA s,.str id]=some (.tup [ftA false false (ZOz s id) E,I e]):=by
 have h:∃D E e,pfn rE 36 [stA s,.str id]=some (.tup [ftA false false D E,I e]):=by
  by_cases hc:ZEb s id=0
  .have h1:Jx s=true/\decide (Zn s id<0)=false:=by
    unfold ZEb at hc
    grind
   grind [ZHv]
  .exact⟨[],[],_,ZFi s hs id hc⟩
 unfold ZOz
 grind
def ZVg(f ex bw e2 b3:Bool)(l:List Off)(hS:∀o∈l,OffS o)(os:List Ord)(p:Str)(dy:Int)(s:Sta)(hs:StE s)(hl:s.Fa.length<=400)(D:List Str)(hD:D.length<=1000)(p0 p1:AObj):
 ∃x',fnV rE 37 [.isl false b3 1<|D.map encS,.clo (.func 38) [] [ZOV f ex bw e2 l os p dy,.iptr false<|stC s,.ptr 2 0 0 1]] [p0,p1,.row 1 [.int .i64 0]] =
  some (match pkT l s D 0 with|none=>(.tup [.str emp,.bool false],[p0,p1,.row 1 [I x']])|some q=>(.tup [.str q.2,.bool true],[p0,p1,.row 1 [I (ZOj l s q.2).1]])):=by
 obtain⟨fr',x',L,L2⟩:=ZSM f ex bw e2 b3 l hS os p dy s hs hl D hD p0 p1 D.length 0 0<|by omega
 rw[ZXS]at L L2;refine⟨x',?_⟩;have L':Zg rE [0,1,7,8] c100L0b [(0,.isl false b3 1<|D.map encS),(1,.clo (.func 38) [] [ZOV f ex bw e2 l os p dy,.iptr false<|stC s,.ptr 2 0 0 1]),(7,I D.length),(8,.int .i64 0)] [p0,p1,.row 1 [.int .i64 0]]=_:=L;have hg0:=ZSN l s D D.length 0;cases hq:pkT l s D 0 with
 |none=>
  rw[hq]at L';have h168:fnV rE 100 [.isl false b3 1<|D.map encS,.clo (.func 38) [] [ZOV f ex bw e2 l os p dy,.iptr false<|stC s,.ptr 2 0 0 1]] [p0,p1,.row 1 [.int .i64 0]]=some (I<|-1,[p0,p1,.row 1 [I x']]):=by
   rw[Q6 (f:=100) rfl rfl];simp[go_sem,c100,c100L0,L']
  rw[Q6 (f:=37) rfl rfl];have hm:decide ((-1:Int)>=0)=false:=rfl;simp[go_sem,c37,h168]
 |some q=>
  rw[hq]at L' L2;have h4:=L2 q rfl;have hg:=Z6 (f:=encS) (hg0 q (by omega) hq).1
  have h168:fnV rE 100 [.isl false b3 1<|D.map encS,.clo (.func 38) [] [ZOV f ex bw e2 l os p dy,.iptr false<|stC s,.ptr 2 0 0 1]] [p0,p1,.row 1 [.int .i64 0]]=some (I q.1,[p0,p1,.row 1 [I (ZOj l s q.2).1]]):=by
   rw[Q6 (f:=100) rfl rfl];simp[go_sem,c100,c100L0,L',h4]
  have hm:decide ((q.1:Int)>=0)=true:=ZQ7 _;have hn0:(0<=(q.1:Int))=True:=by simp
  have hn:((q.1:Int)).toNat=q.1:=rfl;rw[Q6 (f:=37) rfl rfl];unfold encS at*;simp[go_sem,c37,h168,hm,hg,hn0,hn]
def ZOM(os:List Ord)(p dr:Str)(d:Int):Str:=bif dyB d&&(ZOK os&&(ZOe p&&ZOe dr))then(ZP9 p d os dr).1 else emp
def ZVh(os:List Ord)(p dr:Str)(d:Int):∃I1 e,ZPM os p dr d=.tup [.str<|ZOM os p dr d,.isl false false 1 I1,I e]:=by
 unfold ZPM ZOM;cases dyB d&&(ZOK os&&(ZOe p&&ZOe dr))with
 |true=>grind
 |false=>grind
noncomputable def ZOo(l:List Off)(s:Sta)(os:List Ord)(p:Str)(d bp:Int)(x:Lab):Lab:=
 bif decide (bp<=x.Seen)then x else
 match pkT l s (ZOz s<|ZOM os p x.Ga d) 0 with
 |none=>⟨x.Ga,x.Home,bp,x.Home,true⟩
 |some q=>⟨q.2,(ZOj l s q.2).1,bp,x.Home,false⟩
def ZVi(ex bw e2:Bool)(l:List Off)(hS:∀o∈l,OffS o)(os:List Ord)(ho:os.length<=50000)(hos:∀o∈os,OrdS o)(p:Str)(hp:p.size<=1000)(d:Int)(s:Sta)(hs:StE s)(hl:s.Fa.length<=400)(hd:s.Bc.length<=500)(bp:Int)(x:Lab)(hx:x.Ga.size<=1000)
 (hD:(ZOz s<|ZOM os p x.Ga d).length<=1000):pfn rE 16 [.agg [ofA ex l,orA bw e2 os,.str p,I d],stA s,I bp,x.enc]=some (ZOo l s os p d bp x).enc:=by
 obtain⟨dr,of,se,hm,bk⟩:=x;dsimp only at hx hD;have h16:=ZSa bw e2 os ho hos p dr hp hx d;obtain⟨I1,e1,hR⟩:=ZVh os p dr d;rw[hR]at h16;obtain⟨E,e,h17⟩:=ZSO s hs hd<|ZOM os p dr d;obtain⟨x',h76⟩:=ZVg bw ex bw e2 false l hS os p d s hs hl (ZOz s<|ZOM os p dr d) hD (.row 5 [.agg [.str emp,.int .i64 0,.int .i64 0,.int .i64 0,.bool false]])<|.row 2 [ftA false false (ZOz s<|ZOM os p dr d) E];unfold ZOo;dsimp only;generalize ZOM os p dr d=to at*;generalize ZOz s to=D at*;unfold Lab.enc ftA at*;cases c1:decide (bp<=se)with
 |true=>
  rw[cond_true,Z5 (f:=16) rfl rfl];simp only[stA];cases bw<;>simp only[go_sem,c16,orA,ofA,c1]
 |false=>
  rw[cond_false];cases hq:pkT l s D 0 with
  |none=>
   rw[hq]at h76;dsimp only at h76⊢;rw[Z5 (f:=16) rfl rfl];simp only[ZOV,stC,stA,orA,ofA]at h16 h17 h76⊢;cases bw<;>simp only[go_sem,c16,c1,h16,h17,h76]
  |some q=>
   rw[hq]at h76;dsimp only at h76⊢;rw[Z5 (f:=16) rfl rfl];simp only[ZOV,stC,stA,orA,ofA]at h16 h17 h76⊢;cases bw<;>simp only[go_sem,c16,c1,h16,h17,h76]
theorem ZQb(k:Int):∀(K:List Int)(i:Nat),(ZW false [1] (I k) (K.map I) i=some none/\K.any (k==·)=false)\/(∃j,ZW false [1] (I k) (K.map I) i=some (some<|i+j)/\K[j]?=some k/\K.any (k==·)=true)
 |[],i=>Or.inl ⟨rfl,rfl⟩
 |y::r,i=>by
  rcases ZQb k r (i+1)with⟨h1,h2⟩|⟨j,h1,h2,h3⟩
  .simp[ZW,Wi,h2];cases h:k==y with
   |true=>
    simp_all
   |false=>grind
  .simp only[ZXn,ZW,Wi,ZZr,h3];cases h:k==y with
   |true=>
    simp_all
   |false=>exact Or.inr ⟨j+1,by grind,h2,rfl⟩
def ksM(st:Int->Sta)(K:List Int):AObj:=.map (K.map I)<|K.map λk=>stA<|st k
def ZVj(st:Int->Sta)(K:List Int)(k:Int){h:Hp}{b:Nat}(c:h[b]?=some (ksM st K))(z:AV):
 W5 h false [1] true z (.mp b) (I k)=some (bif K.any (k==·)then .tup [stA<|st k,.bool true]else .tup [z,.bool false]):=by grind [ksM,W5,QW,Wi,ZQb]
def ZVk(st:Int->Sta)(K:List Int)(k:Int){h:Hp}{b:Nat}(c:h[b]?=some (ksM st K))(z:AV)(hk:K.any (k==·)=true):
 W5 h false [1] false z (.mp b) (I k)=some (stA<|st k):=by grind [ksM,W5,QW,Wi,ZQb]
def ZVl(st:Int->Sta)(K:List Int)(k:Int){h:Hp}{b:Nat}(c:h[b]?=some (ksM st K))(hk:K.any (k==·)=false):
 YK h false [1] (.mp b) (I k) (stA<|st k)=some (.bot,setH h b<|ksM st<|K++[k]):=by
 grind [ksM,YK,Yo,Wi,ZQb,ZM,ZH]
end Go.AM
namespace Go.AM
open Go
def Zwa(a b:Int):Int:=bif decide (a<b)then -1 else bif decide (a>b)then 1 else 0
def orL:List Int->Int
 |[]=>0
 |a::r=>bif a != 0 then a else orL r
def Zyp:∀a b:List Int,a.length=b.length->orL (List.zipWith Zwa a b)=cmpL a b
 |[],[],_=>rfl
 |[],_::_,h=>by cases h
 |_::_,[],h=>by cases h
 |a::r,b::s,h=>by
  have e:=Zyp r s<|by simpa using h
  have f:lexB (a::r) (b::s)=(decide (a<b)||(a==b&&lexB r s)):=rfl;have d:lexB (b::s) (a::r)=(decide (b<a)||(b==a&&lexB s r)):=rfl;rw[List.zipWith_cons_cons,orL,e];unfold cmpL Zwa;rw[f,d];by_cases h1:a<b
  .simp[h1]
  .by_cases h2:b<a
   .have c:(a==b)=false:=by simpa using(by omega:¬a=b)
    simp[h1,h2,c]
   .have c:a=b:=by omega
    subst c;simp
def Zyq(a:Int):pfn e0 130 [I a]=some (.bool false):=by
 have b:(a != a)=false:=by simp
 rw[Z5 (f:=130) rfl rfl];simp only[go_sem,c130,b]
def Zwb(a b:Int):pfn e0 65 [I a,I b]=some (I<|Zwa a b):=by
 have h1:=Zyq a;have h2:=Zyq b;unfold Zwa;rw[Z5 (f:=65) rfl rfl];cases c:decide (a<b)with
 |true=>simp only[go_sem,c65,h1,h2,c]
 |false=>cases d:decide (a>b)<;>simp only[go_sem,c65,h1,h2,c,d]
def ZA7(l:List Int)(s:l.length<=1000):pfn e0 64 [.isl false false 1<|l.map I]=some (I<|orL l):=by
 obtain⟨e,fr',h',L,o,q⟩:=Z9Y (E:=e0) (live:=[3,6,7,8]) (b:=c64L0b) l.length
  (λi fr h=>fr=[(3,I 0),(6,.isl false false 1<|l.map I),(7,I l.length),(8,I i)]/\h=[]/\orL l=orL (l.drop i))
  (λe fr h=>h=[]/\((e=.exit 0/\get fr 3=I 0/\orL l=0)\/(e=.ret/\get fr 2=I (orL l))))
  (λi fr h m=>by obtain⟨rfl,_,_⟩:=m;rfl)
  (λi fr h hi m=>by
   obtain⟨rfl,rfl,a⟩:=m;obtain⟨x,j⟩:∃x,l[i]?=some x:=⟨_,ZXj hi⟩;have k:=Z6 (f:=I) j;have d:=Zh hi;have g:=Zx (n:=i)<|by omega
   have p:l.drop i=x::l.drop (i+1):=by
    rw[ZXP hi,(ZXu.1 j).2]
   rw[p,orL]at a;cases c:x != 0 with
   |true=>
    rw[c,cond_true]at a;refine Or.inr ⟨.ret,_,[],by simp only[go_sem,c64L0b,k,d,c];rfl,by simp,rfl,Or.inr ⟨rfl,?_⟩⟩
    rw[a];simp only[go_sem]
   |false=>
    rw[c,cond_false]at a;refine Or.inl ⟨_,[],by simp only[go_sem,c64L0b,k,d,g,c];rfl,?_,rfl,a⟩
    simp only[go_sem])
  (λfr h m=>by
   obtain⟨rfl,rfl,a⟩:=m;rw[List.drop_length]at a;refine⟨.exit 0,_,[],by simp only[go_sem,c64L0b,ZG];rfl,by simp,rfl,Or.inl ⟨rfl,?_,a⟩⟩
   simp only[go_sem])
  l.length 0 [(3,I 0),(6,.isl false false 1<|l.map I),(7,I l.length),(8,.int .i64 0)] [] (by omega) ⟨rfl,rfl,rfl⟩
 subst o;rw[Z5 (f:=64) rfl rfl];rcases q with⟨rfl,r,a⟩|⟨rfl,h2⟩
 .simp only[go_sem,c64,c64L0,L,r,a]
 .simp only[go_sem,c64,c64L0,L,h2]
def Zyr{a:List AV}{x:AV}{k:List Int}(h:ZvF a x=some k):∃bw o ex vs,a=[.iptr bw [.isl o ex 8 vs]]/\∃(i kk:Nat)(l j b t c:Int)(A:Str)(y f r d v e:Bool)(B s:Nat)(es z w cs:List AV)(u:AV),
 x=.agg [I i,I kk]/\vs[i]?=some (.agg [I l,I j,I b,.str A,.isl y f 18 es,I t,.isl r d B z,.isl v e s w])/\es[kk]?=some (.agg<|u::I c::cs)/\k=[c,b,l,j,(kk:Int)]:=by
 unfold ZvF at h;split at h
 .rename_i bw o ex vs i kk;cases g:decide (0<=i)&&decide (0<=kk)with
  |false=>rw[g]at h;cases h
  |true=>
  rw[g,cond_true]at h;simp only[ZXf,decide_eq_true_eq]at g;obtain⟨n,rfl⟩:∃n:Nat,i=n:=⟨i.toNat,by omega⟩
  obtain⟨m,rfl⟩:∃m:Nat,kk=m:=⟨kk.toNat,by omega⟩
  simp only[ZY4]at h;split at h
  .rename_i q;split at h
   .rename_i p;cases h;exact⟨_,_,_,_,rfl,n,m,_,_,_,_,_,_,_,_,_,_,_,_,_,_,_,_,_,_,_,rfl,q,p,rfl⟩
   .cases h
  .cases h
 .cases h
def ZA8(b:List AV)(x y:AV)(v s:List Int)(hx:ZvF b x=some v)(Q:ZvF b y=some s):∃h',fnV e0 63 ([x,y]++b) []=some (.int .i64<|cmpL v s,h'):=by
 obtain⟨bw,b2,ex,vs,rfl,i,k,n,m,d,n5,h,s3,b3,T,b6,J,b7,P,z6,z7,es,l6,l7,cs,e1,rfl,K,F,rfl⟩:=Zyr hx;obtain⟨aa,O,ex',E,j,i',q,c,e,g,S,a,Y,G,z,ab,t,X,u,ac,W,es',V,L,M,N,rfl,p,l,rfl⟩:=Zyr Q;cases j;have q1:=Zwb h a;have R:=Zwb d g;have C:=Zwb n c;have H:=Zwb m e;have U:=Zwb (k:Int) (q:Int);have o:=ZA7 (List.zipWith Zwa [h,d,n,m,(k:Int)] [a,g,c,e,(q:Int)])<|by simp
 have w:=Zyp [h,d,n,m,(k:Int)] [a,g,c,e,(q:Int)] rfl;rw[w]at o;clear w;simp only[List.zipWith_cons_cons,List.zipWith_nil_right,ZXn,ZXD]at o;generalize cmpL _ _=r at*;have A:((0:Int)<=0/\(0:Int)<((2:Nat):Int))=True:=by simp
 have Z:((0:Int)<=1/\(1:Int)<((2:Nat):Int))=True:=by simp
 have B:Int.toNat 0*1=0:=rfl;have D:Int.toNat 1*1=1:=rfl;rw[Q6 (f:=63) rfl rfl];refine⟨_,by simp only[go_sem,c63,ZXl,ZXo,K,F,p,l,q1,R,C,H,U,o,A,Z,B,D,if_true];rfl⟩
variable [REdz]
structure Ver where
 Mv:Int
 An:Int
 At:Int
 Prev:Str
 bc:NL Gt
 Index:Int
 Sig:NL Str
 Path:NL Str
def Ver.enc(v:Ver):AV:=.agg [I v.Mv,I v.An,I v.At,.str v.Prev,.isl false v.bc.ex 18<|v.bc.l.map evA,I v.Index,.isl false v.Sig.ex 1<|v.Sig.l.map encS,.isl false v.Path.ex 1<|v.Path.l.map encS]
abbrev vsA(l:NL Ver):AV:=.isl false l.ex 8<|l.l.map Ver.enc
def plA(p:Int×Int):AV:=.agg [I p.1,I p.2]
def Zvh(p q:Int×Int):Bool:=p.1==q.1&&(p.2==q.2&&true)
def Zys(x y:Int×Int):Zz true [1,1] (plA x) (plA y)=some (Zvh x y):=by
 unfold plA Zvh;simp only[go_sem]
def prA(p:Nat×Nat):AV:=.agg [I p.1,I p.2]
def ZvS(v:Ver)(bq:Int)(k:Nat):Bool:=match v.bc.l[k]? with|some e=>decide (e.Day<=bq)|none=>false
def Zr4(v:Ver)(bq:Int)(i n:Nat):List (Nat×Nat):=((List.range n).filter (ZvS v bq)).map (λk=>(i,k))
def Zvn(l:List Ver)(i:Nat):List (Int×Int):=(l.take i).foldl (λK v=>Qi Zvh K (v.Mv,v.An)) []
def Zvl(l:List Ver)(a:Int)(i:Nat)(v:Ver):Bool:=!((Zvn l i).any (Zvh (v.Mv,v.An)))&&!decide (v.At>a)
def Zr7(l:List Ver)(bq a:Int):Nat->List (Nat×Nat)
 |0=>[]
 |i+1=>Zr7 l bq a i++(match l[i]? with|some v=>bif Zvl l a i v then Zr4 v bq i v.bc.l.length else []|none=>[])
abbrev Zvq(V:NL Ver)(bq bp:Int):Fr:=[(3,.iptr false [vsA V]),(6,.isl false false 2 []),(7,.ptr 1 0 0 1),(12,.clo (.func 128) [] [.iptr false [vsA V],.iptr false [I bp],.iptr false [I bq]])]
abbrev hiH(V:NL Ver)(bq bp:Int)(es:List AV)(K:List<|Int×Int):Hp:=[.row 2 es,.row 1 [.sl 0 es.length 0 es.length false],.loop .ready .normal (Zvq V bq bp) [13] c33R0a c33R0b,.map (K.map plA)<|ZO K.length]
def ZA9(es:List AV)(x:AV)(a:fits 2 x=true)(c:es.length<=100000)(r:List AObj):appW (.row 2 es::r) false 2 16 (.sl 0 es.length 0 es.length false) (.isl false false 2 [x])=some (.sl 0 (es.length+1) 0 (es.length+1) false,.row 2 (es++[x])::r):=by
 have:=XC (h:=.row 2 es::r) (fz:=false) (b:=0) (g:=es.length) (sz:=2) (bytes:=16) (es:=es) (bw:=false) (ex:=false) (ys:=[x]) (by simp[rowAt]) rfl (by simp[a]) (by decide) (by decide) (by simp;omega)
 rw[this];rfl
def ZAa(V:NL Ver)(bq a:Int)(es:List AV)(K:List<|Int×Int)(i k:Nat)(d c f:AObj)(s:∀n,Zj n d=true)(p:∀n,Zj n c=true)(q:∀n,Zj n f=true)(v:Z4 es=true)(u:es.length<=100000):
 U4 rE 2 [.agg [I i,I k]] (hiH V bq a es K++[d,c,f])=some (.bool true,hiH V bq a (es++[prA (i,k)]) K++[d,c,f,.row 2 [.agg [I i,I k]]]):=by
 have w:=λr=>ZA9 es (.agg [I i,I k]) rfl u r
 have o:∀n,Zd n es=true:=λn=>ZN _ v
 have g:∀n,Zd n (es++[.agg [I i,I k]])=true:=λn=>by rw[Z0T,o];rfl
 have m:∀n,Zd n (K.map plA)=true/\Zd n (ZO K.length)=true:=λn=>⟨ZN _<|Zw (λt=>rfl) K,ZN _<|Ut _⟩
 have j:∀n,2<=n->Zd n (frV<|Zvq V bq a)=true:=λn hn=>by
  have:Nat.blt 1 n=true:=by simp;omega
  simp only[go_sem,this]
 have x:=j 8<|by decide
 have l:∀n,Zj n (.row 2 [.agg [I i,I k]])=true:=λn=>rfl
 have h:=Ss (E:=rE) (b:=2) (args:=[.agg [I i,I k]]) (h:=hiH V bq a es K++[d,c,f]) (fr:=Zvq V bq a) (ps:=[13]) (assign:=c33R0a) (body:=c33R0b)
  (fr0:=(13,.agg [I i,I k])::Zvq V bq a) rfl rfl (by simp only[go_sem,c33R0a,hiH,Zvq];rfl) (by rfl)
  (e:=.normal) (fr2:=[]) (h2:=[.row 2<|es++[.agg [I i,I k]],.row 1 [.sl 0 (es.length+1) 0 (es.length+1) false],.loop .busy .normal (Zvq V bq a) [13] c33R0a c33R0b,.map (K.map plA)<|ZO K.length,d,c,f,.row 2 [.agg [I i,I k]]])
  (by
   show Zb rE c33R0b [(8,.ptr 7 0 0 1),(13,.agg [I i,I k]),(3,.iptr false [vsA V]),(6,.isl false false 2 []),(7,.ptr 1 0 0 1),(12,.clo (.func 128) [] [.iptr false [vsA V],.iptr false [I a],.iptr false [I bq]])]
    [.row 2 es,.row 1 [.sl 0 es.length 0 es.length false],.loop .busy .normal (Zvq V bq a) [13] c33R0a c33R0b,.map (K.map plA)<|ZO K.length,d,c,f,.row 2 [.agg [I i,I k]]]=_
   simp only[go_sem,c33R0b,w,g,m,s,p,q,l]) (by rfl)
 rw[h];simp only[hiH,ZXy,ZY7];rfl
abbrev hiF(V:NL Ver)(bq bp:Int)(v:Ver)(i k:Nat):Fr:=[(0,.yld 2),(2,.iptr false [I bp]),(3,.iptr false [I bq]),(5,.mp 3),(6,I i),(13,vsA V),(14,I V.l.length),(15,I i),(40,.isl false v.bc.ex 18<|v.bc.l.map evA),(41,I v.bc.l.length),(42,I k)]
def ZAb(v:Ver)(bq:Int)(i k:Nat){e:Gt}(a:v.bc.l[k]?=some e):Zr4 v bq i (k+1)=Zr4 v bq i k++(bif decide (e.Day<=bq)then [(i,k)]else []):=by
 unfold Zr4;rw[ZZc,ZZ4,ZXx];congr 1;have h:ZvS v bq k=decide (e.Day<=bq):=by unfold ZvS;rw[a]
 rw[List.filter_cons,h];cases decide (e.Day<=bq)<;>rfl
def ZwW(e:Gt):Z4 [evA e]=true:=by
 have h1:Z4 (e.Ids.l.map encS)=true:=Zw (λt=>rfl) _
 have h2:Z4 (e.bm.l.map Nm.enc)=true:=Zw (λt=>rfl) _
 have b:Z4 (e.Path.l.map Pt.enc)=true:=Zw (λt=>rfl) _
 have a:Z4 (e.Lst.l.map Ent.enc)=true:=Zw (λt=>rfl) _
 simp only[go_sem]
def ZAc(V:NL Ver)(bq a:Int)(v:Ver)(i:Nat)(R:V.l[i]?=some v)(L:List<|Nat×Nat)(K:List<|Int×Int)(g j:AObj)(y:∀n,Zj n g=true)(x:∀n,Zj n j=true)(O:L.length+v.bc.l.length<=10000):
 Zg rE [0,2,3,5,6,13,14,15,40,41,42] c128L0b (hiF V bq a v i 0) (hiH V bq a (L.map prA) K++[g,j]) =
  some (.exit 2,hiF V bq a v i v.bc.l.length,hiH V bq a ((L++Zr4 v bq i v.bc.l.length).map prA) K++[g,j]):=by
 have u:∀k,(Zr4 v bq i k).length<=k:=λk=>by
  unfold Zr4;rw[ZXg];exact ZXW (ZYt _ _)<|by simp
 have p:∀n,Zd n (K.map plA)=true/\Zd n (ZO K.length)=true:=λn=>⟨ZN _<|Zw (λt=>rfl) K,ZN _<|Ut _⟩
 have d:∀n,2<=n->Zd n (frV<|Zvq V bq a)=true:=λn hn=>by
  have:Nat.blt 1 n=true:=by simp;omega
  simp only[go_sem,this]
 have s:∀(M:List<|Nat×Nat)n,Zd n (M.map prA)=true:=λM n=>ZN _<|Zw (λt=>rfl) M
 have F:=Y8 (E:=rE) (live:=[0,2,3,5,6,13,14,15,40,41,42]) (b:=c128L0b) v.bc.l.length (λk=>hiF V bq a v i k) (λk=>hiH V bq a ((L++Zr4 v bq i k).map prA) K++[g,j]) (λk=>rfl)
  (λk hk=>by
   obtain⟨e,C⟩:∃e,v.bc.l[k]?=some e:=⟨_,ZXj hk⟩;have G:=Z6 (f:=λe=>evA e) C
   have w:=Zh hk;have r:=Zx (n:=k)<|by omega
   have o:∀n,Zj n (.row 18 [evA e])=true:=λn=>ZN (n:=n) [evA e]<|ZwW e
   have H:∀n,Zj n (.row 2 [.agg [I i,I k]])=true:=λn=>rfl
   have P:=λm=>d m
   rw[ZAb v bq i k C];have D:=ZAa V bq a ((L++Zr4 v bq i k).map prA) K i k g j (.row 18 [evA e]) y x o (Zw (λt=>rfl) _) (by rw[ZXg,ZXy];have:=u k;omega)
   have J:=d 6<|by decide
   have Q:=d 7<|by decide
   have q:=s<|L++Zr4 v bq i k;refine⟨hiF V bq a v i<|k+1,?_,rfl⟩;show Zb rE c128L0b (hiF V bq a v i k) (hiH V bq a ((L++Zr4 v bq i k).map prA) K++[g,j])=some (.normal,hiF V bq a v i<|k+1,hiH V bq a ((L++(Zr4 v bq i k++(bif decide (e.Day<=bq)then [(i,k)]else []))).map prA) K++[g,j])
   have B:(L++(Zr4 v bq i k++[(i,k)])).map prA=(L++Zr4 v bq i k).map prA++[prA (i,k)]:=by simp
   have z:∀n,Zd n ((L++Zr4 v bq i k).map prA++[prA (i,k)])=true:=λn=>by rw[Z0T,q];rfl
   generalize A:(L++Zr4 v bq i k).map prA=es at*;simp only[hiH,ZXl,ZXo]at D;cases c:decide (e.Day<=bq)with
   |false=>
    rw[cond_false,ZXr,A];simp only[go_sem,c128L0b,hiF,hiH,ZXl,ZXo,G,w,r,c,q,p,y,x,o]
   |true=>
    rw[cond_true,B];simp only[go_sem,c128L0b,hiF,hiH,ZXl,ZXo,S3,G,w,r,c,D,q,z,p,y,x,o])
  (e:=.exit 2) (fr:=hiF V bq a v i v.bc.l.length) (h:=hiH V bq a ((L++Zr4 v bq i v.bc.l.length).map prA) K++[g,j]) (by
   have q:=s<|L++Zr4 v bq i v.bc.l.length;have J:=d 6<|by decide
   simp only[go_sem,c128L0b,hiF,hiH,ZXl,ZXo,ZG,q,p,y,x]) (by simp)
 have N:L++Zr4 v bq i 0=L:=by simp[Zr4]
 rw[N]at F;exact F
def Zyt(v:Ver):Z4 [v.enc]=true:=by
 have h1:Z4 (v.bc.l.map<|λe=>evA e)=true:=Zw (λt=>by have:=ZwW t;unfold Z4 at this;rw[ZXf]at this;exact this.1) _
 have h2:Z4 (v.Sig.l.map encS)=true:=Zw (λt=>rfl) _
 have a:Z4 (v.Path.l.map encS)=true:=Zw (λt=>rfl) _
 unfold Ver.enc;simp only[go_sem]
structure VsS(V:NL Ver):Prop where
 len:V.l.length<=100
 evs:∀v∈V.l,v.bc.l.length<=50
def Zyu(v:Ver)(bq:Int)(i n:Nat):(Zr4 v bq i n).length<=n:=by
 unfold Zr4;rw[ZXg];exact ZXW (ZYt _ _)<|by simp
def ZwX{V:NL Ver}(b:VsS V)(bq a:Int):∀i,(Zr7 V.l bq a i).length<=i*50
 |0=>ZXh _
 |i+1=>by
  have d:=ZwX b bq a i;unfold Zr7;rw[ZXy,ZYz];have:(match V.l[i]? with|some v=>bif Zvl V.l a i v then Zr4 v bq i v.bc.l.length else []|none=>[]).length<=50:=by
   cases c:V.l[i]? with
   |none=>exact ZXi _
   |some v=>
    have h1:=Zyu v bq i v.bc.l.length;have h2:=b.evs v<|ZXp c;show(bif Zvl V.l a i v then Zr4 v bq i v.bc.l.length else []).length<=50
    cases Zvl V.l a i v with
    |true=>rw[cond_true];omega
    |false=>exact ZXi _
  omega
abbrev hoF(V:NL Ver)(bq bp:Int)(i:Nat):Fr:=[(0,.yld 2),(2,.iptr false [I bp]),(3,.iptr false [I bq]),(5,.mp 3),(13,vsA V),(14,I V.l.length),(15,I i)]
def ZAd(V:NL Ver)(bq a:Int)(z:VsS V):
 Zg rE [0,2,3,5,13,14,15] c128L1b (hoF V bq a 0) (hiH V bq a [] []) =
  some (.exit 0,hoF V bq a V.l.length,hiH V bq a ((Zr7 V.l bq a V.l.length).map prA)<|Zvn V.l V.l.length):=by
 have D:=z.len;have m:∀n,2<=n->Zd n (frV<|Zvq V bq a)=true:=λn hn=>by
  have:Nat.blt 1 n=true:=by simp;omega
  simp only[go_sem,this]
 have j:∀(M:List<|Nat×Nat)n,Zd n (M.map prA)=true:=λM n=>ZN _<|Zw (λt=>rfl) M
 have o:∀(K:List<|Int×Int)n,Zd n (K.map plA)=true/\Zd n (ZO K.length)=true:=λK n=>⟨ZN _<|Zw (λt=>rfl) K,ZN _<|Ut _⟩
 have R:=m 4<|by decide
 have T:=m 5<|by decide
 have S:=m 6<|by decide
 have N:=Y8 (E:=rE) (live:=[0,2,3,5,13,14,15]) (b:=c128L1b) V.l.length (λi=>hoF V bq a i) (λi=>hiH V bq a ((Zr7 V.l bq a i).map prA)<|Zvn V.l i) (λi=>rfl)
  (λi hi=>by
   obtain⟨v,u⟩:∃v,V.l[i]?=some v:=⟨_,ZXj hi⟩;have J:=ZXp u;have A:=Z6 (f:=Ver.enc) u;have q:=Zh hi;have g:=Zx (n:=i)<|by omega
   have c:∀n,Zj n (.row 8 [v.enc])=true:=λn=>ZN (n:=n) [v.enc]<|Zyt v
   have d:∀n,Zj n (.row 2 [.agg [I v.Mv,I v.An]])=true:=λn=>rfl
   have P:Zvn V.l (i+1)=Qi Zvh (Zvn V.l i) (v.Mv,v.An):=by
    unfold Zvn;exact Us _ _ u
   have G:=ZwX z bq a i;have Q:=z.evs v J;have H:Zr7 V.l bq a (i+1)=Zr7 V.l bq a i++(bif Zvl V.l a i v then Zr4 v bq i v.bc.l.length else []):=by
    conv=>lhs;unfold Zr7
    rw[u]
   have B:i*50<=5000:=by omega
   have k:=ZAc V bq a v i u (Zr7 V.l bq a i) (Qi Zvh (Zvn V.l i) (v.Mv,v.An)) (.row 8 [v.enc]) (.row 2 [.agg [I v.Mv,I v.An]]) c d<|by omega
   refine⟨hoF V bq a<|i+1,?_,rfl⟩;show Zb rE c128L1b (hoF V bq a i) (hiH V bq a ((Zr7 V.l bq a i).map prA)<|Zvn V.l i)=some (.normal,hoF V bq a<|i+1,hiH V bq a ((Zr7 V.l bq a<|i+1).map prA)<|Zvn V.l<|i+1)
   rw[P,H];unfold Zvl;have s:=j<|Zr7 V.l bq a i;have y:=j<|Zr7 V.l bq a i++Zr4 v bq i v.bc.l.length;have w:=o<|Qi Zvh (Zvn V.l i) (v.Mv,v.An);have p:=o<|Zvn V.l i;generalize Zr7 V.l bq a i=L at*;generalize Zvn V.l i=K at*;have r:=H5 (ag:=true) (kk:=[1,1]) (enc:=plA) (eq:=Zvh) Zys K (v.Mv,v.An) (h:=[.row 2<|L.map prA,.row 1 [.sl 0 (L.map prA).length 0 (L.map prA).length false],.loop .ready .normal (Zvq V bq a) [13] c33R0a c33R0b,.map (K.map plA)<|ZO K.length,.row 8 [v.enc],.row 2 [.agg [I v.Mv,I v.An]]]) (b:=3) rfl;have x:=Ur (ag:=true) (kk:=[1,1]) (enc:=plA) (eq:=Zvh) Zys K (v.Mv,v.An) (h:=[.row 2<|L.map prA,.row 1 [.sl 0 (L.map prA).length 0 (L.map prA).length false],.loop .ready .normal (Zvq V bq a) [13] c33R0a c33R0b,.map (K.map plA)<|ZO K.length,.row 8 [v.enc],.row 2 [.agg [I v.Mv,I v.An]]]) (b:=3) rfl;simp only[hiF,hiH,ZXl,ZXo,Ver.enc,plA,ZXg]at k r x c;have O:((0:Nat):Int)=0:=rfl;rw[O]at k;cases C:K.any (Zvh (v.Mv,v.An))with
   |true=>
    rw[C]at r;rw[ZXq,ZXm,cond_false,ZXr];simp only[go_sem,c128L1b,hoF,hiH,Ver.enc,A,q,g,r,x,s,w,p,c,d]
   |false=>
    rw[C]at r;rw[ZXv,ZXk];cases F:decide (v.At>a)with
    |true=>
     rw[ZXq,cond_false,ZXr];simp only[go_sem,c128L1b,hoF,hiH,Ver.enc,A,q,g,r,x,s,w,p,c,d,F]
    |false=>
     rw[ZXv,cond_true];simp only[go_sem,c128L1b,c128L0,hoF,hiH,Ver.enc,A,q,g,r,x,s,y,w,p,c,d,F,k])
  (e:=.exit 0) (fr:=hoF V bq a V.l.length) (h:=hiH V bq a ((Zr7 V.l bq a V.l.length).map prA)<|Zvn V.l V.l.length) (by
   have s:=j<|Zr7 V.l bq a V.l.length;have w:=o<|Zvn V.l V.l.length;simp only[go_sem,c128L1b,hoF,hiH,ZG,s,w]) (by simp)
 exact N
def Zwt{p q:Int×Int}:Zvh p q=true↔p=q:=by
 unfold Zvh;simp[Prod.ext_iff]
def ZAe(K:List<|Int×Int)(x y:Int×Int):(Qi Zvh K x).any (Zvh y)=(K.any (Zvh y)||Zvh y x):=by
 unfold Qi;cases c:K.any (Zvh x)with
 |true=>
  rw[cond_true];cases d:Zvh y x with
  |false=>rw[ZYq]
  |true=>
   have:=Zwt.1 d;subst this;rw[c];rfl
 |false=>
  rw[cond_false,List.any_append];simp
def Zyv(l:List Ver)(p:Int×Int):∀(m:List Ver)(K:List<|Int×Int),(m.foldl (λK v=>Qi Zvh K (v.Mv,v.An)) K).any (Zvh p)=(K.any (Zvh p)||m.any (λw=>Zvh p (w.Mv,w.An)))
 |[],K=>by simp
 |w::m,K=>by
  rw[ZY5,Zyv l p m,ZAe,ZZr,Bool.or_assoc]
def Zyw(l:List Ver)(i:Nat)(p:Int×Int):(Zvn l i).any (Zvh p)=(l.take i).any (λw=>Zvh p (w.Mv,w.An)):=by
 unfold Zvn;rw[Zyv l];rfl
def evK(l:List Ver)(p:Nat×Nat):List Int:=match l[p.1]? with
 |some v=>(match v.bc.l[p.2]? with|some e=>[e.Day,v.At,v.Mv,v.An,(p.2:Int)]|none=>[])
 |none=>[]
def InL(l:List Ver)(p:Nat×Nat):Prop:=∃v e,l[p.1]?=some v/\v.bc.l[p.2]?=some e
def Zw4{l:List Ver}{p:Nat×Nat}{v:Ver}{e:Gt}(h1:l[p.1]?=some v)(h2:v.bc.l[p.2]?=some e):evK l p=[e.Day,v.At,v.Mv,v.An,(p.2:Int)]:=by
 unfold evK;rw[h1];simp only[h2]
def Zw5(l:List Ver)(x:Nat×Nat):List (Nat×Nat)->List (Nat×Nat)
 |[]=>[x]
 |y::r=>bif lexB (evK l x) (evK l y)then x::y::r else y::Zw5 l x r
def ZvG(l:List Ver):List (Nat×Nat)->List (Nat×Nat)
 |[]=>[]
 |x::r=>Zw5 l x<|ZvG l r
def kp2(l:List Ver)(p:Nat×Nat):List Int×AV:=(evK l p,prA p)
def Zyx(l:List Ver)(x:Nat×Nat):∀L:List<|Nat×Nat,ZvI (kp2 l x) (L.map<|kp2 l)=(Zw5 l x L).map (kp2 l)
 |[]=>rfl
 |y::r=>by
  rw[ZXn,ZvI,Zw5];show(bif lexB (evK l x) (evK l y)then _ else _)=_
  cases lexB (evK l x) (evK l y)with
  |true=>rfl
  |false=>rw[cond_false,cond_false,ZXn,Zyx l x r]
def ZwY(l:List Ver):∀L:List<|Nat×Nat,ZvN (L.map<|kp2 l)=(ZvG l L).map (kp2 l)
 |[]=>rfl
 |x::r=>by
  rw[ZXn,ZvN,ZwY l r,Zyx];rfl
def Zyy(l:List Ver)(x:Nat×Nat):∀L,(Zw5 l x L).Perm (x::L)
 |[]=>.refl _
 |y::r=>by
  unfold Zw5;cases lexB (evK l x) (evK l y)with
  |true=>exact .refl _
  |false=>exact((Zyy l x r).cons y).trans (.swap ..)
def Zwc(l:List Ver):∀L,(ZvG l L).Perm L
 |[]=>.refl _
 |x::r=>(Zyy l x _).trans ((Zwc l r).cons x)
def ZAf(V:NL Ver){p:Nat×Nat}(h:InL V.l p):ZvF [.iptr false [vsA V]] (prA p)=some (evK V.l p):=by
 obtain⟨v,e,h1,h2⟩:=h;rw[Zw4 h1 h2];have a:=Z6 (f:=Ver.enc) h1;have d:=Z6 (f:=λe=>evA e) h2
 unfold ZvF prA;have c:decide (0<=((p.1:Nat):Int))=true:=decide_eq_true<|by omega
 have b:decide (0<=((p.2:Nat):Int))=true:=decide_eq_true<|by omega
 simp only[c,b,ZY3,cond_true,ZY4,a,Ver.enc,d]
def Zyz(V:NL Ver):∀L:List<|Nat×Nat,(∀p∈L,InL V.l p)->keysOf (ZvF [.iptr false [vsA V]]) (L.map prA)=some (L.map<|kp2 V.l)
 |[],_=>rfl
 |p::r,h=>by
  rw[ZXn,keysOf,ZAf V<|h p<|ZXV ..,Zyz V r<|λq hq=>h q<|ZY2 _ hq]
  rfl
def Zwu(l:List Ver)(L:List<|Nat×Nat):Prop:=L.Pairwise<|λp q=>evK l p≠evK l q
def ZyA{l:List Ver}{L:List (Nat×Nat)}(h:Zwu l L):ZvJ (L.map<|kp2 l)=true:=by
 rw[ZwH,ZZ3];exact h
def ZAg(V:NL Ver)(L:List<|Nat×Nat)(h1:∀p∈L,InL V.l p)(h2:Zwu V.l L)(g:L.length<=1000000)(r:AObj):
 fnV rE 62 [.sl 0 L.length 0 L.length false,.clo (.func 63) [] [.iptr false [vsA V]]] [.row 2<|L.map prA,r]=some (.tup [],[.row 2<|(ZvG V.l L).map prA,r]):=by
 have i:=Zyz V L h1;have e:=ZyA h2;have d:=ZwY V.l L;rw[V8 (s:=ZvW 63 2 ZvF) rfl];unfold ZvW;cases L with
 |nil=>rfl
 |cons p t=>
  have h:((p::t).map prA).isEmpty=false:=rfl;have b:((p::t).map prA).all Zwl=true:=by rw[ZYE,ZXs];intro x _;rfl
  have c:((p::t).map prA).all (fits 2)=true:=by rw[ZYE,ZXs];intro x _;rfl
  have a:Z4 ((p::t).map prA)=true:=Zw (λt=>rfl) _
  have k:Z4 [.iptr false [vsA V]]=true:=rfl;have f:Nat.ble (p::t).length 1000000=true:=ZXH g;have j:((ZvG V.l<|p::t).map (kp2 V.l)).map (·.2)=(ZvG V.l<|p::t).map prA:=by rw[ZYc];rfl
  simp only[ZYf,h,cond_false,i,e,b,c,a,f,d,j,ZXg,beq_self_eq_true,ZY3,ZXv];rfl
def ZwZ(l:List Ver)(bq a:Int):∀i,∀p∈Zr7 l bq a i,p.1<i/\∃v e,l[p.1]?=some v/\v.bc.l[p.2]?=some e/\e.Day<=bq/\v.At<=a
 |0,p,hp=>by cases hp
 |i+1,p,hp=>by
  unfold Zr7 at hp;rcases ZY9.1 hp with hp|hp
  .obtain⟨h1,h2⟩:=ZwZ l bq a i p hp;exact⟨by omega,h2⟩
  .cases g:l[i]? with
   |none=>rw[g]at hp;cases hp
   |some v=>
    rw[g]at hp;have b:p∈(bif Zvl l a i v then Zr4 v bq i v.bc.l.length else []):=hp;cases d:Zvl l a i v with
    |false=>rw[d]at b;cases b
    |true=>
     rw[d,cond_true]at b;unfold Zr4 at b;obtain⟨k,j,rfl⟩:=ZXI.1 b;obtain⟨h,f⟩:=ZYF.1 j;have c:k<v.bc.l.length:=by simpa using h
     refine⟨Nat.lt_succ_self i,v,v.bc.l[k],g,ZXj c,?_,?_⟩
     .unfold ZvS at f;rw[ZXj c]at f;exact of_decide_eq_true f
     .unfold Zvl at d;simp only[ZXf,ZXM]at d;have:=of_decide_eq_false d.2;omega
def ZyB(l:List Ver)(bq a:Int)(i:Nat):∀p∈Zr7 l bq a i,InL l p:=λp hp=>by
 obtain⟨_,v,e,h1,h2,_⟩:=ZwZ l bq a i p hp;exact⟨v,e,h1,h2⟩
def Zx0(l:List Ver)(bq c:Int):∀i,Zwu l (Zr7 l bq c i)
 |0=>.nil
 |i+1=>by
  unfold Zr7;refine List.pairwise_append.2 ⟨Zx0 l bq c i,?_,λp hp q hq f=>?_⟩
  .cases g:l[i]? with
   |none=>exact .nil
   |some v=>
    show List.Pairwise _ (bif Zvl l c i v then Zr4 v bq i v.bc.l.length else [])
    cases Zvl l c i v with
    |false=>exact .nil
    |true=>
     rw[cond_true];unfold Zr4;rw[ZZ3];have u:(List.range v.bc.l.length).Pairwise (λa b=>a<b):=List.pairwise_lt_range
     refine List.Pairwise.imp_of_mem ?_<|u.filter _;intro a b s r t f;have n:a<v.bc.l.length:=by simpa using(ZYF.1 s).1
     have j:b<v.bc.l.length:=by simpa using(ZYF.1 r).1
     rw[Zw4 (p:=(i,a)) g<|ZXj n,Zw4 (p:=(i,b)) g<|ZXj j]at f;simp only[List.cons.injEq]at f;have A:((a:Nat):Int)=((b:Nat):Int):=f.2.2.2.2.1;omega
  .obtain⟨h1,w,e,h2,x,_,_⟩:=ZwZ l bq c i p hp;cases g:l[i]? with
   |none=>rw[g]at hq;cases hq
   |some v=>
    rw[g]at hq;have d:q∈(bif Zvl l c i v then Zr4 v bq i v.bc.l.length else []):=hq;cases h:Zvl l c i v with
    |false=>rw[h]at d;cases d
    |true=>
     rw[h,cond_true]at d;unfold Zr4 at d;obtain⟨k,y,rfl⟩:=ZXI.1 d;have m:k<v.bc.l.length:=by simpa using(ZYF.1 y).1
     rw[Zw4 h2 x,Zw4 (p:=(i,k)) g<|ZXj m]at f;simp only[List.cons.injEq]at f;unfold Zvl at h;rw[Zyw]at h;simp only[ZXf,ZXM,ZZv]at h;have z:w∈l.take i:=by
      rw[ZYv];exact⟨p.1,by rw[ZYK h1];exact h2⟩
     have:=h.1 w z;rw[ZZ6]at this;have o:Zvh (v.Mv,v.An) (w.Mv,w.An)=true:=by
      rw[Zwt,f.2.2.1,f.2.2.2.1]
     rw[o]at this;cases this
def Zr3(l:List Ver)(bq a:Int):List (Nat×Nat):=ZvG l<|Zr7 l bq a l.length
def Zx1(V:NL Ver)(hV:VsS V)(bq bp:Int):pfn rE 33 [vsA V,I bq,I bp]=some (.isl false false 2<|(Zr3 V.l bq bp).map prA):=by
 have L:=ZAd V bq bp hV;have h1:=ZyB V.l bq bp V.l.length;have h2:=Zx0 V.l bq bp V.l.length;have h3:=ZwX hV bq bp V.l.length;have hlen:=hV.len;have hS:=λr=>ZAg V (Zr7 V.l bq bp V.l.length) h1 h2 (by omega) r
 have hp:=(Zwc V.l<|Zr7 V.l bq bp V.l.length).length_eq;have hfr:∀n,2<=n->Zd n (frV<|Zvq V bq bp)=true:=λn hn=>by
  have:Nat.blt 1 n=true:=by simp;omega
  simp only[go_sem,this]
 have hP:∀(M:List<|Nat×Nat)n,Zd n (M.map prA)=true:=λM n=>ZN _<|Zw (λt=>rfl) M
 have hC:∀(M:List<|Nat×Nat),Z4 (M.map prA)=true:=λM=>Zw (λt=>rfl) M
 have hK:∀(K:List<|Int×Int)n,Zd n (K.map plA)=true/\Zd n (ZO K.length)=true:=λK n=>⟨ZN _<|Zw (λt=>rfl) K,ZN _<|Ut _⟩
 have q2:=hfr 2<|by decide
 have q3:=hfr 3<|by decide
 have q4:=hfr 4<|by decide
 have c61:fnV rE 61 [vsA V,I bq,I bp] [.row 2 [],.row 1 [.sl 0 0 0 0 false]]=some (.clo (.func 128) [] [.iptr false [vsA V],.iptr false [I bp],.iptr false [I bq]],[.row 2 [],.row 1 [.sl 0 0 0 0 false]]):=by
  rw[Q6 (f:=61) rfl rfl];simp only[go_sem,c61]
 unfold Zr3;have hrf:rf rE (.clo (.func 128) [] [.iptr false [vsA V],.iptr false [I bp],.iptr false [I bq]]) [13] c33R0a c33R0b (Zvq V bq bp) [.row 2 [],.row 1 [.sl 0 0 0 0 false]] =
  some (.normal,Zvq V bq bp,[.row 2<|(Zr7 V.l bq bp V.l.length).map prA,.row 1 [.sl 0 (Zr7 V.l bq bp V.l.length).length 0 (Zr7 V.l bq bp V.l.length).length false],.loop .exhausted .normal (Zvq V bq bp) [13] c33R0a c33R0b,.map ((Zvn V.l V.l.length).map plA)<|ZO (Zvn V.l V.l.length).length]):=by
  have L':Zg rE [0,2,3,5,13,14,15] c128L1b [(0,.yld 2),(2,.iptr false [I bp]),(3,.iptr false [I bq]),(5,.mp 3),(13,vsA V),(14,I V.l.length),(15,.int .i64 0)] [.row 2 [],.row 1 [.sl 0 0 0 0 false],.loop .ready .normal (Zvq V bq bp) [13] c33R0a c33R0b,.map [] []]=_:=L;simp only[hiH,ZXg]at L';rw[Z1k (c:=c128) rfl];generalize Zr7 V.l bq bp V.l.length=M at*;generalize Zvn V.l V.l.length=K at*;simp only[go_sem,c128,c128L1,L',hP,hK];rfl
 generalize Zr7 V.l bq bp V.l.length=M at*;generalize Zvn V.l V.l.length=K at*;rw[Z5 (f:=33) rfl rfl];have htk:List.take M.length ((ZvG V.l M).map prA)=(ZvG V.l M).map prA:=ZXz<|Nat.le_of_eq<|by rw[ZXg,hp]
 simp only[go_sem,put,c33,c61,Sr,hrf,hP,hC,hS,hp,ZXg,htk,ZXS,beq_self_eq_true]
def ZoG(x:Gk):Bool:=x.br==1&&x.Ld==-1
def ZpM(x:Gk):pfn rE 136 [x.enc]=some (.bool<|ZoG x):=by
 rw[Z5 (f:=136) rfl rfl];unfold ZoG;cases c:x.br==1<;>simp only[go_sem,c136,Gk.enc,NL.enc,c,ZXk,ZXm]
def ZoF(s:Sta)(p:Pt)(K:List Int)(x:Gk):List Int:=bif ZoG x&&decide (ZoY x.Ring.l p>=0)then Qi Vm K (Zoq s x.bh)else K
def Zoy(s:Sta)(p:Pt):List Int:=s.Fa.foldl (ZoF s p) []
def ZoH(s:Sta)(p:Pt):List Int:=Zox<|Zoy s p
structure ClS(s:Sta):Prop where
 E:StE s
 pr:Jx s=true
def ClS.prop{s:Sta}(h:ClS s):Prop' s:=((Zdb s).1 h.pr).1
def Zpa{a b c:Int}(h:QM a b c=true):0<=a/\a<=63:=by
 unfold QM ZD at h;simp only[ZXf,decide_eq_true_eq]at h;exact h.1
def ClS.reg{s:Sta}(h:ClS s){x:Gk}(a:x∈s.Fa):0<=x.bh/\x.bh<=63:=by
 have:=h.prop.rg x a;unfold Vo at this;simp only[ZXf]at this;exact Zpa this.1
def ClS.mst{s:Sta}(h:ClS s){a:Int}(b:0<=a):pfn rE 69 [ldI s,I a]=some (I<|Zoq s a):=ZpJ s h.prop.pa a b
def ZpN{s:Sta}(h:ClS s)(p:Pt):∀(l:List Gk)(K:List Int),(∀x∈l,x∈s.Fa)->(∀z∈K,0<=z/\z<=63)->∀z∈l.foldl (ZoF s p) K,0<=z/\z<=63
 |[],K,_,hK=>hK
 |x::r,K,hl,hK=>by
  rw[ZY5];refine ZpN h p r _ (λy hy=>hl y<|ZY2 _ hy)<|λz hz=>?_
  unfold ZoF at hz;cases c:ZoG x&&decide (ZoY x.Ring.l p>=0)with
  |false=>rw[c]at hz;exact hK z hz
  |true=>
   rw[c,cond_true]at hz;unfold Qi at hz;cases d:K.any (Vm<|Zoq s x.bh)with
   |true=>rw[d]at hz;exact hK z hz
   |false=>
    rw[d,cond_false,ZY9,ZXO]at hz;rcases hz with hz|rfl
    .exact hK z hz
    .exact ZpH h.prop.pa<|h.reg<|hl x<|ZXV ..
def Zqo(s:Sta)(h:ClS s)(p:Pt):Zg rE [0,3,5,13,14,15] c140L0b [(0,ldI s),(3,.iptr false [I p.X,I p.Y]),(5,.mp 0),(13,.isl false false 6<|s.Fa.map Gk.enc),(14,I s.Fa.length),(15,.int .i64 0)] [.map [] []] =
 some (.exit 0,[(0,ldI s),(3,.iptr false [I p.X,I p.Y]),(5,.mp 0),(13,.isl false false 6<|s.Fa.map Gk.enc),(14,I s.Fa.length),(15,I s.Fa.length)],[.map ((Zoy s p).map I)<|ZO (Zoy s p).length]):=by
 have z:=h.E.sizes.regions;have a:=Zot s;have j:∀(K:List Int)n,Zd n (K.map I)=true/\Zd n (ZO K.length)=true:=λK n=>⟨ZN _<|Zw (λt=>rfl) K,ZN _<|Ut _⟩
 have L:=Y8 (E:=rE) (live:=[0,3,5,13,14,15]) (b:=c140L0b) s.Fa.length (λi=>[(0,ldI s),(3,.iptr false [I p.X,I p.Y]),(5,.mp 0),(13,.isl false false 6<|s.Fa.map Gk.enc),(14,I s.Fa.length),(15,I i)])
  (λi=>[.map (((s.Fa.take i).foldl (ZoF s p) []).map I)<|ZO ((s.Fa.take i).foldl (ZoF s p) []).length]) (λi=>rfl)
  (λi hi=>by
   obtain⟨x,k⟩:∃x,s.Fa[i]?=some x:=⟨_,ZXj hi⟩;have v:=ZXp k;have m:=Z6 (f:=Gk.enc) k;have c:=Zh hi;have d:=Zx (n:=i)<|by omega
   have g:=ZpM x;have u:=Zqn x.Ring.l x.Ring.ex (ZXW (h.E.regions x v).2.1 (by omega)) p
   have y:=h.mst (h.reg v).1;rw[Us _ _ k];generalize List.foldl (ZoF s p) [] (s.Fa.take i)=K at*;unfold ZoF;have w:=λ(q:AObj)=>Ur (eq:=Vm) Wi K (Zoq s x.bh) (h:=[.map (K.map I)<|ZO K.length,q]) (b:=0) rfl
   refine⟨[(0,ldI s),(3,.iptr false [I p.X,I p.Y]),(5,.mp 0),(13,.isl false false 6<|s.Fa.map Gk.enc),(14,I s.Fa.length),(15,I (i+1:Nat))],?_,rfl⟩;simp only[Gk.enc,NL.enc]at g;cases o:ZoG x with
   |false=>
    rw[o]at g;simp only[go_sem,c140L0b,m,c,d,g,Gk.enc,NL.enc,j,a,ZXm,cond_false]
   |true=>
   rw[o]at g;cases r:decide (ZoY x.Ring.l p>=0)with
   |false=>simp only[go_sem,c140L0b,m,c,d,g,u,r,Gk.enc,NL.enc,j,a,ZXk,cond_false]
   |true=>simp only[go_sem,c140L0b,m,c,d,g,u,y,w,r,Gk.enc,NL.enc,j,a,ZXk,cond_true])
  (e:=.exit 0) (fr:=[(0,ldI s),(3,.iptr false [I p.X,I p.Y]),(5,.mp 0),(13,.isl false false 6<|s.Fa.map Gk.enc),(14,I s.Fa.length),(15,I s.Fa.length)]) (h:=[.map ((Zoy s p).map I)<|ZO (Zoy s p).length]) (by
   rw[ZXG];show Zb rE _ _ [.map ((Zoy s p).map I)<|ZO (Zoy s p).length]=_
   simp only[go_sem,c140L0b,ZG,j,a]) (by simp)
 exact L
def Zqp(b:Nat)(h:Hp):fnV rE 261 [.mp b] h=some (.clo (.func 332) [] [.ptr h.length 0 0 1],h++[.row 1 [.mp b]]):=by
 rw[Q6 (f:=261) rfl rfl];simp only[go_sem,c261]
def Zqq(K:List Int)(vs:List AV)(d:∀z∈K,0<=z/\z<=63)(c:K.length<=1000000):fnV rE 18 [.clo (.func 332) [] [.ptr 1 0 0 1]] [.map (K.map I) vs,.row 1 [.mp 0]] =
 some (.sl 2 K.length 0 K.length false,[.map (K.map I) vs,.row 1 [.mp 0],.row 1<|(Zox K).map I]):=by
 have f:(K.map I).all Zp2=true:=by
  rw[ZYE,ZXs];intro z e;obtain⟨h1,h2⟩:=d z e;show(decide (-9223372036854775808<=z)&&decide (z<=9223372036854775807))=true
  rw[decide_eq_true (by omega),decide_eq_true<|by omega]
  rfl
 have b:Nat.ble K.length 1000000=true:=ZXH c;have a:Yk (K.map I)=(Zox K).map I:=Zpl K;rw[V8 (s:=ZoZ 332) rfl];unfold ZoZ;simp only[ZYn,ZYf,f,b,ZXC,a,ZXg];rfl
def ZpO(s:Sta)(h:ClS s)(p:Pt):pfn rE 140 [ldI s,.agg [I p.X,I p.Y]]=some (.isl false false 1<|(ZoH s p).map I):=by
 have L:=Zqo s h p;have m:∀z∈Zoy s p,0<=z/\z<=63:=ZpN h p s.Fa [] (λx hx=>hx)<|λz hz=>by cases hz
 have a:(Zoy s p).length<=1000000:=by
  have G:∀(l:List Gk)(K:List Int),(l.foldl (ZoF s p) K).length<=K.length+l.length:=by
   intro l;induction l with
   |nil=>intro K;exact ZXh _
   |cons x r ih=>
    intro K;rw[ZY5,ZXw];refine ZXW (ih _) ?_;have:(ZoF s p K x).length<=K.length+1:=by
     unfold ZoF Qi;cases ZoG x&&decide (ZoY x.Ring.l p>=0)with
     |false=>exact ZYa _
     |true=>
      rw[cond_true];cases K.any (Vm<|Zoq s x.bh)with
      |true=>exact ZYa _
      |false=>rw[cond_false,ZXy];exact ZXh _
    omega
  have:=G s.Fa [];have o:=h.E.sizes.regions;unfold Zoy;simp only[ZXK]at this;omega
 have e:=Zqp 0 [.map ((Zoy s p).map I)<|ZO (Zoy s p).length];have g:=Zqq (Zoy s p) (ZO (Zoy s p).length) m a;have b:(Zox<|Zoy s p).length=(Zoy s p).length:=(Zp3 _).length_eq;have k:Z4 ((Zox<|Zoy s p).map I)=true:=Zw (λt=>rfl) _
 have c:List.take (Zoy s p).length ((Zox<|Zoy s p).map I)=(Zox<|Zoy s p).map I:=ZXz<|by simp[b]
 have i:∀(K:List Int)n,Zd n (K.map I)=true/\Zd n (ZO K.length)=true:=λK n=>⟨ZN _<|Zw (λt=>rfl) K,ZN _<|Ut _⟩
 have d:=Zot s;have j:=Zow s;unfold ZoH;rw[Z5 (f:=140) rfl rfl];simp only[ZXw,ZXK,ZXl,ZXo,ZXA]at e;simp only[go_sem,c140,c140L0,L,e,g,i,d,k,b,ZXg,c,ZXS,beq_self_eq_true]
def Zqr(l:List Str)(a:l.length<=100000)(id:Str)(bw ex:Bool):pfn rE 257 [.isl bw ex 1<|l.map encS,.str id]=some (.bool<|l.any<|λx=>Z3 id x):=by
 have h:=Nz (f:=329) (enc:=encS) (p:=λx=>Z3 id x) (v:=.str id) rfl rfl l (by omega) (λx _=>rfl) rfl (λx _=>rfl) bw ex
 rw[Z5 (f:=257) rfl rfl,<-Vg];unfold WG;cases bw<;>simp only[go_sem,c257,h]
def ZoM(e:Gt):List Pt:=
 bif !Q9 e then []else
 bif e.br==1||(e.br==2||e.br==5)then e.Path.l.take 1 else
 bif e.br==6||e.br==10 then [e.bg]else
 bif e.br==9 then e.Lst.l.map (·.bg)else []
def Zqs{e:Gt}(h:Q9 e=true)(d:(e.br==1||(e.br==2||e.br==5))=true):0<e.Path.l.length:=by
 have c:=ZcV h;have b:Vh e.Path.l=true\/Ul e.Path.l=true:=by
  rcases(by simpa using d:e.br=1\/e.br=2\/e.br=5)with k|k|k
  .rw[ZcW k]at c;have a:(ZZ e.Id&&(ZD e.A 1 3&&Vh e.Path.l))=true:=c;simp only[ZXf]at a;exact Or.inl a.2.2
  .rw[ZcW k]at c;have a:(ZZ e.Id&&Ul e.Path.l)=true:=c;simp only[ZXf]at a;exact Or.inr a.2
  .rw[ZcW k]at c;have a:(ZZ e.Id&&Vh e.Path.l)=true:=c;simp only[ZXf]at a;exact Or.inl a.2
 rcases b with b|b
 .unfold Vh at b;rw[ZXf]at b;have:=of_decide_eq_true b.1;omega
 .unfold Ul at b;simp only[ZXf]at b;have:=of_decide_eq_true b.2.1;omega
def Zqt(e:Gt)(u:e.Lst.l.length<=1000):Zg rE [3,28,29,30] c139L0b [(3,.sl 0 0 0 0 false),(28,.isl false e.Lst.ex 7<|e.Lst.l.map Ent.enc),(29,I e.Lst.l.length),(30,.int .i64 0)] [.row 2 []] =
 some (.exit 1,[(3,.sl 0 e.Lst.l.length 0 e.Lst.l.length false),(28,.isl false e.Lst.ex 7<|e.Lst.l.map Ent.enc),(29,I e.Lst.l.length),(30,I e.Lst.l.length)],[.row 2 ((e.Lst.l.map (·.bg)).map Pt.enc)]):=by
 have d:∀(D:List Pt)n,Zd n (D.map Pt.enc)=true:=λD n=>ZN _<|Zw (λt=>rfl) D
 have L:=Y8 (E:=rE) (live:=[3,28,29,30]) (b:=c139L0b) e.Lst.l.length (λi=>[(3,.sl 0 i 0 i false),(28,.isl false e.Lst.ex 7<|e.Lst.l.map Ent.enc),(29,I e.Lst.l.length),(30,I i)])
  (λi=>[.row 2 (((e.Lst.l.take i).map (·.bg)).map Pt.enc)]) (λi=>rfl)
  (λi hi=>by
   obtain⟨x,p⟩:∃x,e.Lst.l[i]?=some x:=⟨_,ZXj hi⟩;have a:(e.Lst.l.take i).length=i:=by rw[ZXX];omega
   have s:=Z6 (f:=Ent.enc) p;have m:=Zh hi;have o:=Zx (n:=i)<|by omega
   have k:(e.Lst.l.take<|i+1).map (·.bg)=(e.Lst.l.take i).map (·.bg)++[x.bg]:=by
    rw[ZYm,p,ZXx];rfl
   have r:=λ(q:AObj)=>XC (h:=[.row 2 (((e.Lst.l.take i).map (·.bg)).map Pt.enc),q]) (fz:=false) (b:=0) (g:=i) (sz:=2) (bytes:=16) (es:=((e.Lst.l.take i).map (·.bg)).map Pt.enc) (bw:=false) (ex:=false) (ys:=[.agg [I x.bg.X,I x.bg.Y]]) (by show(bif (((e.Lst.l.take i).map (·.bg)).map Pt.enc).length==i then _ else none)=_;rw[ZXg,ZXg,a,beq_self_eq_true];rfl) rfl rfl (by decide) (by decide) (by simp;omega)
   have c:((e.Lst.l.take i).map (·.bg)++[x.bg]).map Pt.enc=((e.Lst.l.take i).map (·.bg)).map Pt.enc++[.agg [I x.bg.X,I x.bg.Y]]:=by rw[ZXx];rfl
   rw[k,c];have j:∀n,Zd n (((e.Lst.l.take i).map (·.bg)).map Pt.enc++[.agg [I x.bg.X,I x.bg.Y]])=true:=λn=>by rw[<-c];exact d _ n
   generalize((e.Lst.l.take i).map (·.bg)).map Pt.enc=es at*;refine⟨[(3,.sl 0 (i+1) 0 (i+1) false),(28,.isl false e.Lst.ex 7<|e.Lst.l.map Ent.enc),(29,I e.Lst.l.length),(30,I (i+1:Nat))],?_,rfl⟩;simp only[go_sem,c139L0b,s,m,o,r,j,Ent.enc])
  (e:=.exit 1) (fr:=[(3,.sl 0 e.Lst.l.length 0 e.Lst.l.length false),(28,.isl false e.Lst.ex 7<|e.Lst.l.map Ent.enc),(29,I e.Lst.l.length),(30,I e.Lst.l.length)]) (h:=[.row 2 ((e.Lst.l.map (·.bg)).map Pt.enc)]) (by
   rw[ZXG];simp only[go_sem,c139L0b,ZG,d]) (by simp)
 exact L
def Zqu(l:List Pt)(ex:Bool)(f:0<l.length)(e:l.length<=1000000):pfn rE 259 [.isl false ex 2<|l.map Pt.enc]=some (.isl false false 2<|l.map Pt.enc):=by
 have a:(l.map Pt.enc).all (fits 2)=true:=by
  rw[ZYE,ZXs];intro x _;rfl
 have d:(l.map Pt.enc).isEmpty=false:=by
  cases l with
  |nil=>exact absurd f<|ZYT _
  |cons x r=>rfl
 have b:Nat.ble l.length 1000000=true:=ZXH e;have g:Z4 (l.map Pt.enc)=true:=Zw (λt=>rfl) _
 have c:List.take l.length (l.map Pt.enc)=l.map Pt.enc:=ZXz<|by simp
 have h1:fnV rE 259 [.isl false ex 2<|l.map Pt.enc] []=some (.sl 0 l.length 0 l.length false,[.row 2<|l.map Pt.enc]):=by
  rw[V8 (s:=ZOi 2) rfl];simp only[ZOi,Q2,Qq,a,d,ZXg,b,beq_self_eq_true,ZXE,ZXC,ZXv,cond_true,ZXo,ZXK]
 unfold pfn;rw[h1,ZM];simp only[go_sem,g,c,ZXg,ZXS,beq_self_eq_true]
def Zqv(e:Gt)(q:EvS e):pfn rE 139 [evA e]=some (.isl false false 2<|(ZoM e).map Pt.enc):=by
 have c:=NH e q;have s:=Zqt e (by have:=q.lst;omega)
 have o:∀D:List Pt,Z4 (D.map Pt.enc)=true:=λD=>Zw (λt=>rfl) _
 have n:List.take e.Lst.l.length ((e.Lst.l.map (·.bg)).map Pt.enc)=(e.Lst.l.map (·.bg)).map Pt.enc:=ZXz<|by simp
 have h:=Zqs (e:=e);rw[Z5 (f:=139) rfl rfl];unfold ZoM;simp only[evA]at c;cases m:Q9 e with
 |false=>
  rw[m]at c;simp only[go_sem,c139,c,ZXv,cond_true,ZXD]
 |true=>
 rw[m]at c;have a:(e.br==1||(e.br==2||e.br==5))=true->∀x,pfn rE 259 [.isl false x 2<|(e.Path.l.take 1).map Pt.enc]=some (.isl false false 2<|(e.Path.l.take 1).map Pt.enc):=λhk x=>Zqu _ _ (by have:=h m hk;rw[ZXX];omega)<|by rw[ZXX];omega
 have b:(e.br==1||(e.br==2||e.br==5))=true->bounds none (some<|I 1) none e.Path.l.length=some (0,1,none):=λhk=>by
  have h1:=h m hk;have h2:Nat.ble 1 e.Path.l.length=true:=ZXH h1;simp[bounds,Vz,Wl,VA,numOf,VB,h2];rfl
 have p:List.take 1 (e.Path.l.map Pt.enc)=(e.Path.l.take 1).map Pt.enc:=List.map_take.symm;cases d:e.br==1 with
 |true=>
  rw[d]at a b;have a:=a rfl;have b:=b rfl;simp only[go_sem,c139,c139L0,c,d,b,p,a,ZXq,cond_false,cond_true,ZXE,if_true]
 |false=>
 cases g:e.br==2 with
 |true=>
  rw[d,g]at a b;have a:=a rfl;have b:=b rfl;simp only[go_sem,c139,c139L0,c,d,g,b,p,a,ZXq,cond_false,cond_true,ZXE,ZXY,if_true]
 |false=>
 cases j:e.br==5 with
 |true=>
  rw[d,g,j]at a b;have a:=a rfl;have b:=b rfl;simp only[go_sem,c139,c139L0,c,d,g,j,b,p,a,ZXq,cond_false,cond_true,ZXY,if_true]
 |false=>
 cases k:e.br==6 with
 |true=>simp only[go_sem,c139,c139L0,c,d,g,j,k,ZXq,cond_false,cond_true,ZXE,ZXU,ZXn,ZXD,Pt.enc]
 |false=>
 cases i:e.br==10 with
 |true=>simp only[go_sem,c139,c139L0,c,d,g,j,k,i,ZXq,cond_false,cond_true,ZXY,ZXU,ZXn,ZXD,Pt.enc]
 |false=>
 cases r:e.br==9 with
 |true=>simp only[go_sem,c139,c139L0,c,s,d,g,j,k,i,r,ZXq,cond_false,cond_true,ZXU,o,n,ZXg,ZXS,beq_self_eq_true]
 |false=>simp only[go_sem,c139,c139L0,c,d,g,j,k,i,r,ZXq,cond_false,cond_true,ZXU,ZXD]
abbrev rqL(s:Sta)(e:Gt)(a m:Int):List AV:=[ldI s,I e.br,I e.Day,I e.A,I e.B,I e.bz,.str e.Id,.str e.bv,.str e.Text,.isl false e.Ids.ex 1<|e.Ids.l.map encS,.isl false e.bm.ex 3<|e.bm.l.map Nm.enc,
 I e.An.N,.str e.An.bn,I e.An.Num,I e.An.Den,I e.bg.X,I e.bg.Y,.isl false e.Path.ex 2<|e.Path.l.map Pt.enc,.isl false e.Lst.ex 7<|e.Lst.l.map Ent.enc,I a,I m]
abbrev rqI(s:Sta)(e:Gt)(a m:Int):AV:=.iptr false<|rqL s e a m
structure RqS(s:Sta)(e:Gt)(m:Int):Prop where
 c:ClS s
 ev:EvS e
 f:Q9 e=true
 m:0<=m/\m<=63
def Zp0(s:Sta)(e:Gt)(a m:Int):Int:=bif (e.br==14&&a != 0)||(e.br==13&&Zoq s e.B != m)then 18 else 0
def Zqw(s:Sta)(e:Gt)(a m:Int)(h:RqS s e m):pfn rE 70 [rqI s e a m]=some (I<|Zp0 s e a m):=by
 have l:(e.br==13)=true->pfn rE 69 [ldI s,I e.B]=some (I<|Zoq s e.B):=λhk=>by
  have n:=ZcV h.f;rw[ZcW (k:=13)<|by simpa using hk]at n
  have i:K5 e.A e.B=true:=n;unfold K5 ZD at i;simp only[ZXf,decide_eq_true_eq]at i;exact h.c.mst<|by omega
 have j:=Zow s;have p:=Zot s;rw[Z5 (f:=70) rfl rfl];unfold Zp0;cases g:e.br==14 with
 |true=>
  have b:(e.br==13)=false:=by
   rw[(by simpa using g:e.br=14)]
   rfl
  cases o:a != 0 with
  |true=>simp only[go_sem,c70,g,o,b,ZXk,ZXE,cond_true]
  |false=>simp only[go_sem,c70,g,o,b,ZXk,ZXm,ZXU,cond_false]
 |false=>
  cases b:e.br==13 with
  |false=>simp only[go_sem,c70,g,b,ZXm,ZXU,cond_false]
  |true=>
   have l:=l b;cases d:Zoq s e.B != m<;>simp only[go_sem,c70,g,b,d,l,j,ZXk,ZXm,ZXU,cond_true,cond_false]
def Zp5(s:Sta)(e:Gt)(m:Int):Int:=bif e.br==15&&!s.Fa.any (λx=>ZoG x&&Zoq s x.bh==m)then 18 else 0
def Zqx(s:Sta)(e:Gt)(a m:Int)(h:RqS s e m)(x:Gk)(g:x∈s.Fa):pfn rE 135 [x.enc,.iptr false [rqI s e a m]]=some (.bool<|ZoG x&&Zoq s x.bh==m):=by
 have b:=ZpM x;have i:=h.c.mst (h.c.reg g).1;have d:=Zow s;have j:=Zot s;simp only[Gk.enc,NL.enc]at b;rw[Z5 (f:=135) rfl rfl];cases c:ZoG x with
 |false=>
  rw[c]at b;simp only[go_sem,c135,Gk.enc,NL.enc,b,ZXm]
 |true=>
  rw[c]at b;simp only[go_sem,c135,Gk.enc,NL.enc,b,i,ZXk]
def ZpP(l:List Gk)(c:l.length<=1000000)(p:Gk->Bool)(g:Nat)(cap:List AV)(a:Z4 cap=true)(b:∀x∈l,pfn rE g (x.enc::cap)=some (.bool<|p x)):pfn rE 137 [.isl false false 6<|l.map Gk.enc,.clo (.func g) [] cap]=some (.bool<|l.any p):=by
 have h:=WF (E:=rE) (f:=258) (sz:=6) (n:=some 6) (enc:=Gk.enc) (p:=p) (g:=g) (cap:=cap) rfl rfl a l (by omega) (λx _=>x.el) b false false
 rw[Z5 (f:=137) rfl rfl,<-Vg];unfold WG;simp only[go_sem,c137,h,a]
def Zqy(s:Sta)(e:Gt)(a m:Int)(h:RqS s e m):pfn rE 72 [rqI s e a m]=some (I<|Zp5 s e m):=by
 have g:=Zow s;have i:=Zot s;have j:Z4 [.iptr false [rqI s e a m]]=true:=by simp only[go_sem]
 have k:=ZpP s.Fa (by have:=h.c.E.sizes.regions;omega) (λx=>ZoG x&&Zoq s x.bh==m) 135 [.iptr false [rqI s e a m]] j<|Zqx s e a m h
 rw[Z5 (f:=72) rfl rfl];unfold Zp5;cases d:e.br==15 with
 |false=>simp only[go_sem,c72,d,ZXm,cond_false]
 |true=>
  generalize s.Fa.any (λx=>ZoG x&&Zoq s x.bh==m)=b at*
  cases b<;>simp only[go_sem,c72,d,k,ZXk,ZXq,ZXv,cond_true,cond_false]
def plE(s:Sta)(m:Int):List Pt->Int
 |[]=>0
 |p::r=>bif !(ZoH s p).any (λx=>m==x)then 18 else bif (ZoH s p).any (λc=>c != m&&!ZoW s m c)then 19 else plE s m r
def Zp1(s:Sta)(e:Gt)(a m:Int):Int:=
 bif e.br==1 then bif s.Fa.any (λx=>Z3 x.Id e.Id)then 0 else bif e.A==1&&a==0 then 18 else bif e.A==1 then 0 else plE s m<|ZoM e
 else plE s m<|ZoM e
def ZpQ{s:Sta}(h:ClS s):∀p∈s.ba,pfn rE 69 [ldI s,I p.a]=some (I<|Zoq s p.a)/\pfn rE 69 [ldI s,I p.b]=some (I<|Zoq s p.b):=by
 intro p d;have c:=h.prop.pa;unfold WK at c;simp only[ZXf]at c;have:=Zpo<|ZXs.1 c.2.1 p d;exact⟨h.mst this.1.1,h.mst this.2.1⟩
def Zqz(l:List Int)(c:l.length<=1000000)(p:Int->Bool)(g:Nat)(cap:List AV)(a:Z4 cap=true)(b:∀x∈l,pfn rE g (I x::cap)=some (.bool<|p x)):pfn rE 27 [.isl false false 1<|l.map I,.clo (.func g) [] cap]=some (.bool<|l.any p):=by
 have h:=WF (E:=rE) (f:=47) (sz:=1) (n:=none) (enc:=I) (p:=p) (g:=g) (cap:=cap) rfl rfl a l (by omega) (λx _=>⟨rfl,rfl⟩) b false false
 rw[Z5 (f:=27) rfl rfl,<-Vg];unfold WG;simp only[go_sem,c27,h,a]
def ZqA(s:Sta)(e:Gt)(a m:Int)(x:Gk):pfn rE 138 [x.enc,.iptr false [rqI s e a m]]=some (.bool<|Z3 x.Id e.Id):=by
 have c:=Zow s;have b:=Zot s;rw[Z5 (f:=138) rfl rfl];simp only[go_sem,c138,Gk.enc,NL.enc]
def ZqB(s:Sta)(e:Gt)(a m:Int)(h:RqS s e m)(c:Int):pfn rE 141 [I c,.iptr false [rqI s e a m]]=some (.bool<|c != m&&!ZoW s m c):=by
 have g:=ZpL s m c h.c.E.sizes.rulings<|ZpQ h.c;have b:=Zow s;have i:=Zot s;rw[Z5 (f:=141) rfl rfl];cases d:c != m with
 |false=>simp only[go_sem,c141,d,ZXm]
 |true=>simp only[go_sem,c141,d,g,b,ZXk]
def ZqC(s:Sta)(h:ClS s)(p:Pt):(ZoH s p).length<=100000:=by
 unfold ZoH;rw[(Zp3 _).length_eq];have G:∀(l:List Gk)(K:List Int),(l.foldl (ZoF s p) K).length<=K.length+l.length:=by
  intro l;induction l with
  |nil=>intro K;exact ZXh _
  |cons x r ih=>
   intro K;rw[ZY5,ZXw];refine ZXW (ih _) ?_;have:(ZoF s p K x).length<=K.length+1:=by
    unfold ZoF Qi;cases ZoG x&&decide (ZoY x.Ring.l p>=0)with
    |false=>exact ZYa _
    |true=>
     rw[cond_true];cases K.any (Vm<|Zoq s x.bh)with
     |true=>exact ZYa _
     |false=>rw[cond_false,ZXy];exact ZXh _
   omega
 have:=G s.Fa [];have a:=h.E.sizes.regions;unfold Zoy;simp only[ZXK]at this;omega
def ZpR(s:Sta)(e:Gt)(a m:Int)(h:RqS s e m)(l:List Pt)(B:l.length<=1000):∀(k i:Nat),i+k=l.length->
 ∃fr',(plE s m (l.drop i)=0->Zg rE [1,50,51,52] c73L0b [(1,.iptr false [rqI s e a m]),(50,.isl false false 2<|l.map Pt.enc),(51,I l.length),(52,I i)] []=some (.exit 1,fr',[]))/\
  (plE s m (l.drop i)≠0->Zg rE [1,50,51,52] c73L0b [(1,.iptr false [rqI s e a m]),(50,.isl false false 2<|l.map Pt.enc),(51,I l.length),(52,I i)] []=some (.ret,fr',[])/\get fr' 2=I (plE s m<|l.drop i))
 |0,i,hi=>by
  have q:l.drop i=[]:=ZYD<|by omega
  have b:i=l.length:=by omega
  refine⟨[(1,.iptr false [rqI s e a m]),(2,.bot),(50,.isl false false 2<|l.map Pt.enc),(51,I l.length),(52,I i)],λ_=>?_,λo=>?_⟩
  .rw[b];refine Q7 rfl ?_ (by simp)
   simp only[go_sem,c73L0b,ZG]
  .rw[q]at o;exact absurd rfl o
 |k+1,i,hi=>by
  obtain⟨x,j⟩:∃x,l[i]?=some x:=⟨_,ZXj<|by omega⟩
  have t:=Z6 (f:=Pt.enc) j;have b:=Zh<|Z7 j;have u:=Zx (n:=i)<|by omega
  have q:l.drop i=x::l.drop (i+1):=by
   rw[ZXP<|Z7 j];congr 1;have:=ZXj<|Z7 j;rw[j]at this;exact(Option.some.inj this).symm
  have A:=Zow s;have C:=Zot s;have o:Z4 [.iptr false [rqI s e a m]]=true:=by simp only[go_sem]
  have r:=ZpO s h.c x;have w:=ZqC s h.c x;have g:=DR (ZoH s x) false m<|by omega
  have p:=Zqz (ZoH s x) (by omega) (λc=>c != m&&!ZoW s m c) 141 [.iptr false [rqI s e a m]] o<|λc _=>ZqB s e a m h c
  rw[q];unfold plE;cases v:(ZoH s x).any (λy=>m==y)with
  |false=>
   rw[v]at g;refine⟨[(1,.iptr false [rqI s e a m]),(2,I 18),(50,.isl false false 2<|l.map Pt.enc),(51,I l.length),(52,I i)],λhq=>?_,λ_=>⟨?_,by simp only[go_sem,ZXv,cond_true]⟩⟩
   .exact absurd (show(18:Int)=0 from hq)<|by decide
   .refine Q7 rfl ?_ (by simp)
    simp only[go_sem,c73L0b,t,b,Pt.enc,r,g]
  |true=>
  rw[v]at g;cases z:(ZoH s x).any (λc=>c != m&&!ZoW s m c)with
  |true=>
   rw[z]at p;refine⟨[(1,.iptr false [rqI s e a m]),(2,I 19),(50,.isl false false 2<|l.map Pt.enc),(51,I l.length),(52,I i)],λhq=>?_,λ_=>⟨?_,by simp only[go_sem,ZXq,cond_false,cond_true]⟩⟩
   .exact absurd (show(19:Int)=0 from hq)<|by decide
   .refine Q7 rfl ?_ (by simp)
    simp only[go_sem,c73L0b,t,b,Pt.enc,r,g,p]
  |false=>
  rw[z]at p;obtain⟨fr',h1,h2⟩:=ZpR s e a m h l B k (i+1)<|by omega
  have d:Zb rE c73L0b [(1,.iptr false [rqI s e a m]),(50,.isl false false 2<|l.map Pt.enc),(51,I l.length),(52,I i)] []=some (.normal,[(1,.iptr false [rqI s e a m]),(2,.bot),(50,.isl false false 2<|l.map Pt.enc),(51,I l.length),(52,I (i+1:Nat))],[]):=by
   simp only[go_sem,c73L0b,t,b,u,Pt.enc,r,g,p]
  rw[Yt rfl d];exact⟨fr',h1,h2⟩
def ZqD(s:Sta)(e:Gt)(a m:Int)(h:RqS s e m):pfn rE 73 [rqI s e a m]=some (I<|Zp1 s e a m):=by
 have t:=Zow s;have u:=Zot s;have v:Z4 [.iptr false [rqI s e a m]]=true:=by simp only[go_sem]
 have b:=ZpP s.Fa (by have:=h.c.E.sizes.regions;omega) (λx=>Z3 x.Id e.Id) 138 [.iptr false [rqI s e a m]] v<|λx _=>ZqA s e a m x
 have i:=Zqv e h.ev;have g:(ZoM e).length<=1000:=by
  unfold ZoM;have h1:=h.ev.lst;cases Q9 e with
  |false=>exact ZXi _
  |true=>
  cases e.br==1||(e.br==2||e.br==5)with
  |true=>show(e.Path.l.take 1).length<=1000;rw[ZXX];omega
  |false=>
  cases e.br==6||e.br==10 with
  |true=>show 1<=1000;omega
  |false=>
  cases e.br==9 with
  |true=>show(e.Lst.l.map (·.bg)).length<=1000;rw[ZXg];omega
  |false=>exact ZXi _
 have L:=ZpR s e a m h (ZoM e) g (ZoM e).length 0<|by omega
 rw[ZXS]at L;obtain⟨fr',k,l2⟩:=L;simp only[evA]at i;rw[Z5 (f:=73) rfl rfl];unfold Zp1;have r:((0:Nat):Int)=0:=rfl;rw[r]at k l2;by_cases p:plE s m (ZoM e)=0
 .have k:=k p;rw[p];cases d:e.br==1 with
  |false=>simp only[go_sem,c73,c73L0,d,i,k,cond_false,ZXg]
  |true=>
   cases j:s.Fa.any (λx=>Z3 x.Id e.Id)with
   |true=>
    rw[j]at b;simp only[go_sem,c73,c73L0,d,b,cond_true]
   |false=>
   rw[j]at b;cases n:e.A==1 with
   |false=>simp only[go_sem,c73,c73L0,d,n,b,i,k,cond_true,cond_false,ZXm,ZXg]
   |true=>cases o:a==0<;>simp only[go_sem,c73,c73L0,d,n,o,b,cond_true,cond_false,ZXk]
 .obtain⟨l2,q⟩:=l2 p;cases d:e.br==1 with
  |false=>simp only[go_sem,c73,c73L0,d,i,l2,q,cond_false,ZXg]
  |true=>
   cases j:s.Fa.any (λx=>Z3 x.Id e.Id)with
   |true=>
    rw[j]at b;simp only[go_sem,c73,c73L0,d,b,cond_true]
   |false=>
   rw[j]at b;cases n:e.A==1 with
   |false=>simp only[go_sem,c73,c73L0,d,n,b,i,l2,q,cond_true,cond_false,ZXm,ZXg]
   |true=>cases o:a==0<;>simp only[go_sem,c73,c73L0,d,n,o,b,cond_true,cond_false,ZXk]
def kOf(ks:List Int)(e:Gt):Bool:=ks.any<|λx=>e.br==x
def ZoJ(e:Gt)(ks:List Int)(ex:Bool)(hl:ks.length<=1000):pfn rE 254 [.isl false ex 1<|ks.map I,evI e]=some (.bool<|kOf ks e):=by
 have h:=DR ks ex e.br<|by omega
 rw[Z5 (f:=254) rfl rfl];unfold kOf;simp only[go_sem,c254,h]
def Zor(s:Sta)(e:Gt):List Str:=
 (((e.Ids.l++bif kOf [9,12] e then [e.Id]else [])++bif kOf [7] e then [e.bv]else [])++bif kOf [8] e then e.Lst.l.map (·.Id)else [])++bif kOf [12] e then(s.Nk.filter<|λu=>Z3 u.Id e.Id).map (·.Ga)else []
def ZoQ(e:Gt)(x:Gk):Bool:=kOf [1,3,12] e&&Z3 x.Id e.Id
def ZoR(e:Gt)(x:By):Bool:=(kOf [3,4,8,12] e&&Z3 x.Id e.Id)||((kOf [4] e&&Z3 x.Id e.bv)||(kOf [6] e&&Z3 x.Id e.Text))
def ZoS(e:Gt)(x:Ev):Bool:=(kOf [11] e&&Z3 x.Id e.Id)||(kOf [6] e&&Z3 x.Id e.bv)
def ZoT(l:List Str)(x:Ga):Bool:=l.any<|λy=>Z3 x.Id y
def Zou(s:Sta)(m o:Int):Bool:=Zoq s o==m
def Zpb(s:Sta)(e:Gt)(m:Int):Bool:=
 s.Fa.all (λx=>!ZoQ e x||Zou s m x.bh)&&(s.Gm.all (λx=>!ZoR e x||Zou s m x.bh)&&(s.Bt.all (λx=>!ZoS e x||Zou s m x.bh)&&s.Bc.all (λx=>!ZoT (Zor s e) x||Zou s m x.bh)))
def Zp6(s:Sta)(e:Gt)(m:Int):Int:=bif Zpb s e m then 0 else 18
def ZoA(s:Sta)(e:Gt)(a m:Int):Fr:=[(1,.iptr false [rqI s e a m]),(2,.ptr 0 0 0 1),(12,.clo (.func 256) [] [.iptr false [ldI s],.ptr 1 0 0 1,evI e,.ptr 3 0 0 1])]
def thX(s:Sta)(e:Gt)(a m:Int)(n:Int)(st:LoopState)(ex:AExit)(l:List Str):Hp:=[.row 1 [I n],.row 1 [.clo (.func 254) [] [evI e]],.row 1<|l.map encS,.row 1 [.sl 2 l.length 0 l.length false],.loop st ex (ZoA s e a m) [13] c71R0a c71R0b]
abbrev thH(s:Sta)(e:Gt)(a m:Int):Hp:=thX s e a m 0 .ready .normal<|Zor s e
abbrev thD(s:Sta)(e:Gt)(a m:Int):Hp:=thX s e a m 18 .done .ret<|Zor s e
def ZoI(s:Sta)(e:Gt)(a m:Int):Zd 5 (frV<|ZoA s e a m)=true/\Zd 6 (frV<|ZoA s e a m)=true:=by
 have hbl:=Zot s;have hcl:=Zow s;have hc:Z4 [rqI s e a m,ldI s,evI e]=true:=by simp only[go_sem,hcl]
 have hb:=λn=>ZN (n:=n) _ hc
 simp only[Zd,ZXf]at hb;constructor
 .obtain⟨h1,h2,h3,_⟩:=hb 5;simp only[go_sem,ZoA,h3]
 .obtain⟨h1,h2,h3,_⟩:=hb 6;simp only[go_sem,ZoA,h3]
def Zpc(s:Sta)(e:Gt)(a m:Int)(o:Int)(q:AObj)(hq:∀n,Zj n q=true)(hM:pfn rE 69 [ldI s,I o]=some (I<|Zoq s o)):
 U4 rE 4 [I o] (thH s e a m++[q])=some (bif Zou s m o then(.bool true,thH s e a m++[q])else(.bool false,thD s e a m++[q])):=by
 have hcl:=Zow s;have hbl:=Zot s;obtain⟨hf4,hf5⟩:=ZoI s e a m;unfold Zou;have hS:∀n,Zd n ((Zor s e).map encS)=true:=λn=>ZN _<|Zw (λt=>rfl) _
 cases c:Zoq s o==m with
 |true=>
  have h:=Ss (E:=rE) (b:=4) (args:=[I o]) (h:=thH s e a m++[q]) (fr:=ZoA s e a m) (ps:=[13]) (assign:=c71R0a) (body:=c71R0b)
   (fr0:=(13,I o)::ZoA s e a m) rfl rfl (by simp only[go_sem,c71R0a,thX,ZoA,ZXl,ZXo]<;>rfl) (by rfl)
   (e:=.normal) (fr2:=[]) (h2:=thX s e a m 0 .busy .normal (Zor s e)++[q])
   (by
    have hne:(Zoq s o != m)=false:=by rw[bne,c];rfl
    simp only[go_sem,c71R0b,thX,ZoA,ZXl,ZXo,hM,hne,hq,hS]<;>rfl) (by rfl)
  exact h
 |false=>
  have h:=Ss (E:=rE) (b:=4) (args:=[I o]) (h:=thH s e a m++[q]) (fr:=ZoA s e a m) (ps:=[13]) (assign:=c71R0a) (body:=c71R0b)
   (fr0:=(13,I o)::ZoA s e a m) rfl rfl (by simp only[go_sem,c71R0a,thX,ZoA,ZXl,ZXo]<;>rfl) (by rfl)
   (e:=.ret) (fr2:=[]) (h2:=thX s e a m 18 .busy .normal (Zor s e)++[q])
   (by
    have hne:(Zoq s o != m)=true:=by rw[bne,c];rfl
    simp only[go_sem,c71R0b,thX,ZoA,ZXl,ZXo,hM,hne,hq,hS]<;>rfl) (by rfl)
  exact h
def ZpS(s:Sta)(e:Gt)(a m:Int)(h:RqS s e m)(i:Nat)(x:Gk)(hx:s.Fa[i]?=some x)(hl:s.Fa.length<=1000)(ho:0<=x.bh):
 Zb rE c256L0b [(0,.yld 4),(1,.iptr false [ldI s]),(2,.ptr 1 0 0 1),(3,evI e),(4,.ptr 3 0 0 1),(20,.isl false false 6<|s.Fa.map Gk.enc),(21,I s.Fa.length),(22,I i)] (thH s e a m)=bif !ZoQ e x||Zou s m x.bh then some (.normal,[(0,.yld 4),(1,.iptr false [ldI s]),(2,.ptr 1 0 0 1),(3,evI e),(4,.ptr 3 0 0 1),(20,.isl false false 6<|s.Fa.map Gk.enc),(21,I s.Fa.length),(22,I (i+1:Nat))],thH s e a m)else some (.ret,[(0,.yld 4),(1,.iptr false [ldI s]),(2,.ptr 1 0 0 1),(3,evI e),(4,.ptr 3 0 0 1),(20,.isl false false 6<|s.Fa.map Gk.enc),(21,I s.Fa.length),(22,I i)],thD s e a m):=by
 have hg:=Z6 (f:=Gk.enc) hx;have hi':=Zh<|Z7 hx;have hwr:=Zx (n:=i) (by have:=Z7 hx;omega)
 have hcl:=Zow s;have hbl:=Zot s;obtain⟨hf4,hf5⟩:=ZoI s e a m;have hS:∀n,Zd n ((Zor s e).map encS)=true:=λn=>ZN _<|Zw (λt=>rfl) _
 have hq:∀n,Zj n (.row 6 [x.enc])=true:=λn=>ZN (n:=n) [x.enc]<|Zw (f:=Gk.enc) (λt=>rfl) [x]
 have hy:=Zpc s e a m x.bh (.row 6 [x.enc]) hq<|h.c.mst ho;simp only[thX,ZXl,ZXo,Gk.enc,NL.enc]at hy;simp only[Gk.enc,NL.enc]at hq;have hk0:=ZoJ e [1,3,12] false<|by decide
 simp only[ZXn,ZXD]at hk0;unfold ZoQ;cases c1:kOf [1,3,12] e with
 |false=>
  rw[c1]at hk0;simp only[go_sem,c256L0b,thX,hg,hi',hwr,hf4,hf5,hq,hS,Gk.enc,NL.enc,ZXv,ZXE,ZXk,ZXm,cond_true,cond_false,hk0]
 |true=>
 rw[c1]at hk0;cases c2:Z3 x.Id e.Id with
 |false=>simp only[go_sem,c256L0b,thX,hg,hi',hwr,hf4,hf5,hq,hS,Gk.enc,NL.enc,ZXv,ZXE,ZXk,ZXm,cond_true,cond_false,hk0,c2]
 |true=>cases c15009:Zou s m x.bh<;>rw[c15009]at hy<;>simp only[cond_true,cond_false]at hy<;>simp only[go_sem,c256L0b,thX,S3,hg,hi',hwr,hf4,hf5,hq,hS,hy,Gk.enc,NL.enc,ZXq,ZXv,ZYq,ZXY,ZXk,ZXm,cond_true,cond_false,hk0,c2]
set_option maxHeartbeats 4000000 in
def ZpT(s:Sta)(e:Gt)(a m:Int)(h:RqS s e m)(i:Nat)(x:By)(hx:s.Gm[i]?=some x)(hl:s.Gm.length<=1000)(ho:0<=x.bh):
 Zb rE c256L1b [(0,.yld 4),(1,.iptr false [ldI s]),(2,.ptr 1 0 0 1),(3,evI e),(4,.ptr 3 0 0 1),(48,.isl false false 5<|s.Gm.map By.enc),(49,I s.Gm.length),(50,I i)] (thH s e a m)=bif !ZoR e x||Zou s m x.bh then some (.normal,[(0,.yld 4),(1,.iptr false [ldI s]),(2,.ptr 1 0 0 1),(3,evI e),(4,.ptr 3 0 0 1),(48,.isl false false 5<|s.Gm.map By.enc),(49,I s.Gm.length),(50,I (i+1:Nat))],thH s e a m)else some (.ret,[(0,.yld 4),(1,.iptr false [ldI s]),(2,.ptr 1 0 0 1),(3,evI e),(4,.ptr 3 0 0 1),(48,.isl false false 5<|s.Gm.map By.enc),(49,I s.Gm.length),(50,I i)],thD s e a m):=by
 have hg:=Z6 (f:=By.enc) hx;have hi':=Zh<|Z7 hx;have hwr:=Zx (n:=i) (by have:=Z7 hx;omega)
 have hcl:=Zow s;have hbl:=Zot s;obtain⟨hf4,hf5⟩:=ZoI s e a m;have hS:∀n,Zd n ((Zor s e).map encS)=true:=λn=>ZN _<|Zw (λt=>rfl) _
 have hq:∀n,Zj n (.row 5 [x.enc])=true:=λn=>ZN (n:=n) [x.enc]<|Zw (f:=By.enc) (λt=>rfl) [x]
 have hy:=Zpc s e a m x.bh (.row 5 [x.enc]) hq<|h.c.mst ho;simp only[thX,ZXl,ZXo,By.enc,NL.enc]at hy;simp only[By.enc,NL.enc]at hq;have hk0:=ZoJ e [3,4,8,12] false<|by decide
 simp only[ZXn,ZXD]at hk0;have hk1:=ZoJ e [4] false<|by decide
 simp only[ZXn,ZXD]at hk1;have hk2:=ZoJ e [6] false<|by decide
 simp only[ZXn,ZXD]at hk2;unfold ZoR;cases c1:kOf [3,4,8,12] e<;>cases c15004:kOf [4] e<;>cases c15006:kOf [6] e<;>rw[c1]at hk0<;>rw[c15004]at hk1<;>rw[c15006]at hk2<;>cases d1:Z3 x.Id e.Id<;>cases d2:Z3 x.Id e.bv<;>cases d3:Z3 x.Id e.Text<;>
  (first|(simp only[go_sem,c256L1b,thX,S3,hg,hi',hwr,hf4,hf5,hq,hS,hy,By.enc,NL.enc,ZXq,ZXv,ZXU,ZXE,ZYq,ZXY,ZXk,ZXm,cond_true,cond_false,hk0,hk1,hk2,d1,d2,d3];done)|(cases c15009:Zou s m x.bh<;>rw[c15009]at hy<;>simp only[cond_true,cond_false]at hy<;>simp only[go_sem,c256L1b,thX,S3,hg,hi',hwr,hf4,hf5,hq,hS,hy,By.enc,NL.enc,ZXq,ZXv,ZYq,ZXY,ZXk,ZXm,cond_true,cond_false,hk0,hk1,hk2,d1,d2,d3]))
set_option maxHeartbeats 1000000 in
def ZpU(s:Sta)(e:Gt)(a m:Int)(h:RqS s e m)(i:Nat)(x:Ev)(hx:s.Bt[i]?=some x)(hl:s.Bt.length<=1000)(ho:0<=x.bh):
 Zb rE c256L2b [(0,.yld 4),(1,.iptr false [ldI s]),(2,.ptr 1 0 0 1),(3,evI e),(4,.ptr 3 0 0 1),(102,.isl false false 4<|s.Bt.map Ev.enc),(103,I s.Bt.length),(104,I i)] (thH s e a m)=bif !ZoS e x||Zou s m x.bh then some (.normal,[(0,.yld 4),(1,.iptr false [ldI s]),(2,.ptr 1 0 0 1),(3,evI e),(4,.ptr 3 0 0 1),(102,.isl false false 4<|s.Bt.map Ev.enc),(103,I s.Bt.length),(104,I (i+1:Nat))],thH s e a m)else some (.ret,[(0,.yld 4),(1,.iptr false [ldI s]),(2,.ptr 1 0 0 1),(3,evI e),(4,.ptr 3 0 0 1),(102,.isl false false 4<|s.Bt.map Ev.enc),(103,I s.Bt.length),(104,I i)],thD s e a m):=by
 have hg:=Z6 (f:=Ev.enc) hx;have hi':=Zh<|Z7 hx;have hwr:=Zx (n:=i) (by have:=Z7 hx;omega)
 have hcl:=Zow s;have hbl:=Zot s;obtain⟨hf4,hf5⟩:=ZoI s e a m;have hS:∀n,Zd n ((Zor s e).map encS)=true:=λn=>ZN _<|Zw (λt=>rfl) _
 have hq:∀n,Zj n (.row 4 [x.enc])=true:=λn=>ZN (n:=n) [x.enc]<|Zw (f:=Ev.enc) (λt=>rfl) [x]
 have hy:=Zpc s e a m x.bh (.row 4 [x.enc]) hq<|h.c.mst ho;simp only[thX,ZXl,ZXo,Ev.enc,NL.enc]at hy;simp only[Ev.enc,NL.enc]at hq;have hk0:=ZoJ e [11] false<|by decide
 simp only[ZXn,ZXD]at hk0;have hk1:=ZoJ e [6] false<|by decide
 simp only[ZXn,ZXD]at hk1;unfold ZoS;cases c1:kOf [11] e<;>cases c15006:kOf [6] e<;>rw[c1]at hk0<;>rw[c15006]at hk1<;>cases d1:Z3 x.Id e.Id<;>cases d2:Z3 x.Id e.bv<;>
  (first|(simp only[go_sem,c256L2b,thX,S3,hg,hi',hwr,hf4,hf5,hq,hS,hy,Ev.enc,NL.enc,ZXq,ZXv,ZXU,ZXE,ZYq,ZXY,ZXk,ZXm,cond_true,cond_false,hk0,hk1,d1,d2];done)|(cases c15009:Zou s m x.bh<;>rw[c15009]at hy<;>simp only[cond_true,cond_false]at hy<;>simp only[go_sem,c256L2b,thX,S3,hg,hi',hwr,hf4,hf5,hq,hS,hy,Ev.enc,NL.enc,ZXq,ZXv,ZYq,ZXY,ZXk,ZXm,cond_true,cond_false,hk0,hk1,d1,d2]))
def ZpV(s:Sta)(e:Gt)(a m:Int)(h:RqS s e m)(i:Nat)(x:Ga)(hx:s.Bc[i]?=some x)(hl:s.Bc.length<=1000)(ho:0<=x.bh)(hd:(Zor s e).length<=100000):
 Zb rE c256L3b [(0,.yld 4),(4,.ptr 3 0 0 1),(142,.isl false false 16<|s.Bc.map Ga.enc),(143,I s.Bc.length),(144,I i)] (thH s e a m)=bif !ZoT (Zor s e) x||Zou s m x.bh then some (.normal,[(0,.yld 4),(4,.ptr 3 0 0 1),(142,.isl false false 16<|s.Bc.map Ga.enc),(143,I s.Bc.length),(144,I (i+1:Nat))],thH s e a m)else some (.ret,[(0,.yld 4),(4,.ptr 3 0 0 1),(142,.isl false false 16<|s.Bc.map Ga.enc),(143,I s.Bc.length),(144,I i)],thD s e a m):=by
 have hg:=Z6 (f:=Ga.enc) hx;have hi':=Zh<|Z7 hx;have hwr:=Zx (n:=i) (by have:=Z7 hx;omega)
 have hcl:=Zow s;have hbl:=Zot s;obtain⟨hf4,hf5⟩:=ZoI s e a m;have hS:∀n,Zd n ((Zor s e).map encS)=true:=λn=>ZN _<|Zw (λt=>rfl) _
 have hq:∀n,Zj n (.row 16 [x.enc])=true:=λn=>ZN (n:=n) [x.enc]<|Zw (f:=Ga.enc) (λt=>rfl) [x]
 have hy:=Zpc s e a m x.bh (.row 16 [x.enc]) hq<|h.c.mst ho;simp only[thX,ZXl,ZXo,Ga.enc,NL.enc]at hy;simp only[Ga.enc,NL.enc]at hq;unfold ZoT;have hD:=Zqr (Zor s e) hd x.Id true false;have hcS:Z4 ((Zor s e).map encS)=true:=Zw (λt=>rfl) _
 have htk:List.take (Zor s e).length ((Zor s e).map encS)=(Zor s e).map encS:=ZXz<|by simp
 cases c1:(Zor s e).any (λy=>Z3 x.Id y)with
 |false=>
  rw[c1]at hD;simp only[go_sem,c256L3b,thX,hg,hi',hwr,hf4,hf5,hq,hS,Ga.enc,NL.enc,ZXv,ZXE,ZXk,ZXm,cond_true,cond_false,hD,hcS,htk,ZXg,ZXS,beq_self_eq_true]
 |true=>
  rw[c1]at hD;cases c15009:Zou s m x.bh<;>rw[c15009]at hy<;>simp only[cond_true,cond_false]at hy<;>simp only[go_sem,c256L3b,thX,S3,hg,hi',hwr,hf4,hf5,hq,hS,hy,Ga.enc,NL.enc,ZXq,ZXv,ZYq,ZXY,ZXk,ZXm,cond_true,cond_false,hD,hcS,htk,ZXg,ZXS,beq_self_eq_true]
def ZqE(s:Sta)(e:Gt)(a m:Int)(h:RqS s e m)(hl:s.Fa.length<=1000)(ho:∀x∈s.Fa,0<=x.bh):
 ∃fr' h',Zg rE [0,1,2,3,4,20,21,22] c256L0b [(0,.yld 4),(1,.iptr false [ldI s]),(2,.ptr 1 0 0 1),(3,evI e),(4,.ptr 3 0 0 1),(20,.isl false false 6<|s.Fa.map Gk.enc),(21,I s.Fa.length),(22,.int .i64 0)] (thH s e a m)=some (if s.Fa.all (λx=>!ZoQ e x||Zou s m x.bh)=true then .exit 0 else .ret,fr',h')/\
  (s.Fa.all (λx=>!ZoQ e x||Zou s m x.bh)=true->fr'=[(0,.yld 4),(1,.iptr false [ldI s]),(2,.ptr 1 0 0 1),(3,evI e),(4,.ptr 3 0 0 1),(20,.isl false false 6<|s.Fa.map Gk.enc),(21,I s.Fa.length),(22,I s.Fa.length)]/\h'=thH s e a m)/\(s.Fa.all (λx=>!ZoQ e x||Zou s m x.bh)=false->h'=thD s e a m):=by
 have hbl:=Zot s;have hcl:=Zow s;obtain⟨hf4,hf5⟩:=ZoI s e a m;have hS:∀n,Zd n ((Zor s e).map encS)=true:=λn=>ZN _<|Zw (λt=>rfl) _
 have L:=Jk (E:=rE) (live:=[0,1,2,3,4,20,21,22]) (b:=c256L0b) s.Fa (λ_ x=>!ZoQ e x||Zou s m x.bh) (λi=>[(0,.yld 4),(1,.iptr false [ldI s]),(2,.ptr 1 0 0 1),(3,evI e),(4,.ptr 3 0 0 1),(20,.isl false false 6<|s.Fa.map Gk.enc),(21,I s.Fa.length),(22,I i)]) (λ_=>thH s e a m) 0
  (λfr h'=>fr=[(0,.yld 4),(1,.iptr false [ldI s]),(2,.ptr 1 0 0 1),(3,evI e),(4,.ptr 3 0 0 1),(20,.isl false false 6<|s.Fa.map Gk.enc),(21,I s.Fa.length),(22,I s.Fa.length)]/\h'=thH s e a m) (λ_ h'=>h'=thD s e a m) (λi=>rfl)
  (λi x hx hP=>by
   have:=ZpS s e a m h i x hx hl<|ho x<|ZXp hx;rw[hP,cond_true]at this;exact⟨_,this,rfl⟩)
  (λi x hx hP=>by
   have:=ZpS s e a m h i x hx hl<|ho x<|ZXp hx;rw[hP,cond_false]at this;exact⟨_,_,this,rfl⟩)
  ⟨[(0,.yld 4),(1,.iptr false [ldI s]),(2,.ptr 1 0 0 1),(3,evI e),(4,.ptr 3 0 0 1),(20,.isl false false 6<|s.Fa.map Gk.enc),(21,I s.Fa.length),(22,I s.Fa.length)],thH s e a m,by simp only[go_sem,c256L0b,thX,ZG,hf4,hS],rfl,rfl⟩
 rw[QE]at L;exact L
def ZqF(s:Sta)(e:Gt)(a m:Int)(h:RqS s e m)(hl:s.Gm.length<=1000)(ho:∀x∈s.Gm,0<=x.bh):
 ∃fr' h',Zg rE [0,1,2,3,4,48,49,50] c256L1b [(0,.yld 4),(1,.iptr false [ldI s]),(2,.ptr 1 0 0 1),(3,evI e),(4,.ptr 3 0 0 1),(48,.isl false false 5<|s.Gm.map By.enc),(49,I s.Gm.length),(50,.int .i64 0)] (thH s e a m)=some (if s.Gm.all (λx=>!ZoR e x||Zou s m x.bh)=true then .exit 2 else .ret,fr',h')/\
  (s.Gm.all (λx=>!ZoR e x||Zou s m x.bh)=true->fr'=[(0,.yld 4),(1,.iptr false [ldI s]),(2,.ptr 1 0 0 1),(3,evI e),(4,.ptr 3 0 0 1),(48,.isl false false 5<|s.Gm.map By.enc),(49,I s.Gm.length),(50,I s.Gm.length)]/\h'=thH s e a m)/\(s.Gm.all (λx=>!ZoR e x||Zou s m x.bh)=false->h'=thD s e a m):=by
 have hbl:=Zot s;have hcl:=Zow s;obtain⟨hf4,hf5⟩:=ZoI s e a m;have hS:∀n,Zd n ((Zor s e).map encS)=true:=λn=>ZN _<|Zw (λt=>rfl) _
 have L:=Jk (E:=rE) (live:=[0,1,2,3,4,48,49,50]) (b:=c256L1b) s.Gm (λ_ x=>!ZoR e x||Zou s m x.bh) (λi=>[(0,.yld 4),(1,.iptr false [ldI s]),(2,.ptr 1 0 0 1),(3,evI e),(4,.ptr 3 0 0 1),(48,.isl false false 5<|s.Gm.map By.enc),(49,I s.Gm.length),(50,I i)]) (λ_=>thH s e a m) 2
  (λfr h'=>fr=[(0,.yld 4),(1,.iptr false [ldI s]),(2,.ptr 1 0 0 1),(3,evI e),(4,.ptr 3 0 0 1),(48,.isl false false 5<|s.Gm.map By.enc),(49,I s.Gm.length),(50,I s.Gm.length)]/\h'=thH s e a m) (λ_ h'=>h'=thD s e a m) (λi=>rfl)
  (λi x hx hP=>by
   have:=ZpT s e a m h i x hx hl<|ho x<|ZXp hx;rw[hP,cond_true]at this;exact⟨_,this,rfl⟩)
  (λi x hx hP=>by
   have:=ZpT s e a m h i x hx hl<|ho x<|ZXp hx;rw[hP,cond_false]at this;exact⟨_,_,this,rfl⟩)
  ⟨[(0,.yld 4),(1,.iptr false [ldI s]),(2,.ptr 1 0 0 1),(3,evI e),(4,.ptr 3 0 0 1),(48,.isl false false 5<|s.Gm.map By.enc),(49,I s.Gm.length),(50,I s.Gm.length)],thH s e a m,by simp only[go_sem,c256L1b,thX,ZG,hf4,hS],rfl,rfl⟩
 rw[QE]at L;exact L
def ZqG(s:Sta)(e:Gt)(a m:Int)(h:RqS s e m)(hl:s.Bt.length<=1000)(ho:∀x∈s.Bt,0<=x.bh):
 ∃fr' h',Zg rE [0,1,2,3,4,102,103,104] c256L2b [(0,.yld 4),(1,.iptr false [ldI s]),(2,.ptr 1 0 0 1),(3,evI e),(4,.ptr 3 0 0 1),(102,.isl false false 4<|s.Bt.map Ev.enc),(103,I s.Bt.length),(104,.int .i64 0)] (thH s e a m)=some (if s.Bt.all (λx=>!ZoS e x||Zou s m x.bh)=true then .exit 4 else .ret,fr',h')/\
  (s.Bt.all (λx=>!ZoS e x||Zou s m x.bh)=true->fr'=[(0,.yld 4),(1,.iptr false [ldI s]),(2,.ptr 1 0 0 1),(3,evI e),(4,.ptr 3 0 0 1),(102,.isl false false 4<|s.Bt.map Ev.enc),(103,I s.Bt.length),(104,I s.Bt.length)]/\h'=thH s e a m)/\(s.Bt.all (λx=>!ZoS e x||Zou s m x.bh)=false->h'=thD s e a m):=by
 have hbl:=Zot s;have hcl:=Zow s;obtain⟨hf4,hf5⟩:=ZoI s e a m;have hS:∀n,Zd n ((Zor s e).map encS)=true:=λn=>ZN _<|Zw (λt=>rfl) _
 have L:=Jk (E:=rE) (live:=[0,1,2,3,4,102,103,104]) (b:=c256L2b) s.Bt (λ_ x=>!ZoS e x||Zou s m x.bh) (λi=>[(0,.yld 4),(1,.iptr false [ldI s]),(2,.ptr 1 0 0 1),(3,evI e),(4,.ptr 3 0 0 1),(102,.isl false false 4<|s.Bt.map Ev.enc),(103,I s.Bt.length),(104,I i)]) (λ_=>thH s e a m) 4
  (λfr h'=>fr=[(0,.yld 4),(1,.iptr false [ldI s]),(2,.ptr 1 0 0 1),(3,evI e),(4,.ptr 3 0 0 1),(102,.isl false false 4<|s.Bt.map Ev.enc),(103,I s.Bt.length),(104,I s.Bt.length)]/\h'=thH s e a m) (λ_ h'=>h'=thD s e a m) (λi=>rfl)
  (λi x hx hP=>by
   have:=ZpU s e a m h i x hx hl<|ho x<|ZXp hx;rw[hP,cond_true]at this;exact⟨_,this,rfl⟩)
  (λi x hx hP=>by
   have:=ZpU s e a m h i x hx hl<|ho x<|ZXp hx;rw[hP,cond_false]at this;exact⟨_,_,this,rfl⟩)
  ⟨[(0,.yld 4),(1,.iptr false [ldI s]),(2,.ptr 1 0 0 1),(3,evI e),(4,.ptr 3 0 0 1),(102,.isl false false 4<|s.Bt.map Ev.enc),(103,I s.Bt.length),(104,I s.Bt.length)],thH s e a m,by simp only[go_sem,c256L2b,thX,ZG,hf4,hS],rfl,rfl⟩
 rw[QE]at L;exact L
def ZqH(s:Sta)(e:Gt)(a m:Int)(h:RqS s e m)(hl:s.Bc.length<=1000)(ho:∀x∈s.Bc,0<=x.bh)(hd:(Zor s e).length<=100000):
 ∃fr' h',Zg rE [0,4,142,143,144] c256L3b [(0,.yld 4),(4,.ptr 3 0 0 1),(142,.isl false false 16<|s.Bc.map Ga.enc),(143,I s.Bc.length),(144,.int .i64 0)] (thH s e a m)=some (if s.Bc.all (λx=>!ZoT (Zor s e) x||Zou s m x.bh)=true then .exit 6 else .ret,fr',h')/\
  (s.Bc.all (λx=>!ZoT (Zor s e) x||Zou s m x.bh)=true->fr'=[(0,.yld 4),(4,.ptr 3 0 0 1),(142,.isl false false 16<|s.Bc.map Ga.enc),(143,I s.Bc.length),(144,I s.Bc.length)]/\h'=thH s e a m)/\(s.Bc.all (λx=>!ZoT (Zor s e) x||Zou s m x.bh)=false->h'=thD s e a m):=by
 have hbl:=Zot s;have hcl:=Zow s;obtain⟨hf4,hf5⟩:=ZoI s e a m;have hS:∀n,Zd n ((Zor s e).map encS)=true:=λn=>ZN _<|Zw (λt=>rfl) _
 have L:=Jk (E:=rE) (live:=[0,4,142,143,144]) (b:=c256L3b) s.Bc (λ_ x=>!ZoT (Zor s e) x||Zou s m x.bh) (λi=>[(0,.yld 4),(4,.ptr 3 0 0 1),(142,.isl false false 16<|s.Bc.map Ga.enc),(143,I s.Bc.length),(144,I i)]) (λ_=>thH s e a m) 6
  (λfr h'=>fr=[(0,.yld 4),(4,.ptr 3 0 0 1),(142,.isl false false 16<|s.Bc.map Ga.enc),(143,I s.Bc.length),(144,I s.Bc.length)]/\h'=thH s e a m) (λ_ h'=>h'=thD s e a m) (λi=>rfl)
  (λi x hx hP=>by
   have:=ZpV s e a m h i x hx hl (ho x<|ZXp hx) hd;rw[hP,cond_true]at this;exact⟨_,this,rfl⟩)
  (λi x hx hP=>by
   have:=ZpV s e a m h i x hx hl (ho x<|ZXp hx) hd;rw[hP,cond_false]at this;exact⟨_,_,this,rfl⟩)
  ⟨[(0,.yld 4),(4,.ptr 3 0 0 1),(142,.isl false false 16<|s.Bc.map Ga.enc),(143,I s.Bc.length),(144,I s.Bc.length)],thH s e a m,by simp only[go_sem,c256L3b,thX,ZG,hf4,hS],rfl,rfl⟩
 rw[QE]at L;exact L
def owH(e:Gt)(l:List Str):Hp:=[.row 1 [I 0],.row 1 [.clo (.func 254) [] [evI e]],.row 1<|l.map encS,.row 1 [.sl 2 l.length 0 l.length false]]
def Zpd(e:Gt)(l:List Str)(x:Str)(hl:l.length<=1000000)(r:List AObj):appW (owH e l++r) true 1 16 (.sl 2 l.length 0 l.length false) (.isl false false 1 [.str x]) =
 some (.sl 2 (l.length+1) 0 (l.length+1) false,[.row 1 [I 0],.row 1 [.clo (.func 254) [] [evI e]],.row 1<|(l++[x]).map encS,.row 1 [.sl 2 l.length 0 l.length false]]++r):=by
 have:=XC (h:=owH e l++r) (fz:=true) (b:=2) (g:=l.length) (sz:=1) (bytes:=16) (es:=l.map encS) (bw:=false) (ex:=false) (ys:=[.str x]) (by
  show(bif (l.map encS).length==l.length then some (1,l.map encS)else none)=_
  rw[ZXg,beq_self_eq_true];rfl) rfl rfl (by decide) (by decide) (by simp;omega)
 rw[this,ZXx];rfl
def ZoU(e:Gt)(n:Nat):bel n (evI e)=true:=by
 have hc:Z4 [evI e]=true:=by simp only[go_sem]
 have:=ZN (n:=n) [evI e] hc;unfold Zd at this;rw[ZXf]at this;exact this.1
def ZqI(s:Sta)(e:Gt)(l:List Str)(hl:l.length+e.Lst.l.length<=100000):Zg rE [2,3,5,6,35,36,37] c134L0b [(2,.iptr false [ldI s]),(3,evI e),(5,.ptr 1 0 0 1),(6,.ptr 3 0 0 1),(35,.isl false e.Lst.ex 7<|e.Lst.l.map Ent.enc),(36,I e.Lst.l.length),(37,.int .i64 0)] (owH e l) =
 some (.exit 0,[(2,.iptr false [ldI s]),(3,evI e),(5,.ptr 1 0 0 1),(6,.ptr 3 0 0 1),(35,.isl false e.Lst.ex 7<|e.Lst.l.map Ent.enc),(36,I e.Lst.l.length),(37,I e.Lst.l.length)],owH e (l++e.Lst.l.map (·.Id))):=by
 have hbl:=Zot s;have hbe:=ZoU e;have hS:∀(D:List Str)n,Zd n (D.map encS)=true:=λD n=>ZN _<|Zw (λt=>rfl) _
 have L:=Y8 (E:=rE) (live:=[2,3,5,6,35,36,37]) (b:=c134L0b) e.Lst.l.length (λi=>[(2,.iptr false [ldI s]),(3,evI e),(5,.ptr 1 0 0 1),(6,.ptr 3 0 0 1),(35,.isl false e.Lst.ex 7<|e.Lst.l.map Ent.enc),(36,I e.Lst.l.length),(37,I i)])
  (λi=>owH e (l++(e.Lst.l.take i).map (·.Id))) (λi=>rfl)
  (λi hi=>by
   obtain⟨x,hx⟩:∃x,e.Lst.l[i]?=some x:=⟨_,ZXj hi⟩;have hg:=Z6 (f:=Ent.enc) hx;have hi':=Zh hi;have hwr:=Zx (n:=i)<|by omega
   have htk:l++(e.Lst.l.take<|i+1).map (·.Id)=(l++(e.Lst.l.take i).map (·.Id))++[x.Id]:=by
    rw[ZYm,hx,ZXx,ZY0];rfl
   have hlen:(l++(e.Lst.l.take i).map (·.Id)).length<=1000000:=by rw[ZXy,ZXg,ZXX];omega
   rw[htk];generalize l++(e.Lst.l.take i).map (·.Id)=D at*;have ha:=λq=>Zpd e D x.Id hlen [q]
   simp only[owH,ZXl,ZXo]at ha;have hl1:(D++[x.Id]).length=D.length+1:=by simp
   refine⟨[(2,.iptr false [ldI s]),(3,evI e),(5,.ptr 1 0 0 1),(6,.ptr 3 0 0 1),(35,.isl false e.Lst.ex 7<|e.Lst.l.map Ent.enc),(36,I e.Lst.l.length),(37,I (i+1:Nat))],?_,rfl⟩;unfold owH;rw[hl1];simp only[go_sem,c134L0b,hg,hi',hwr,ha,Ent.enc,hbe,hS])
  (e:=.exit 0) (fr:=[(2,.iptr false [ldI s]),(3,evI e),(5,.ptr 1 0 0 1),(6,.ptr 3 0 0 1),(35,.isl false e.Lst.ex 7<|e.Lst.l.map Ent.enc),(36,I e.Lst.l.length),(37,I e.Lst.l.length)]) (h:=owH e (l++e.Lst.l.map (·.Id))) (by
   rw[ZXG];simp only[go_sem,c134L0b,owH,ZG,hbe,hS]) (by simp)
 have e0:l++(e.Lst.l.take 0).map (·.Id)=l:=by simp
 rw[e0]at L;exact L
def ZqJ(s:Sta)(e:Gt)(l:List Str)(hl:l.length+s.Nk.length<=100000):Zg rE [2,3,5,6,54,55,56] c134L1b [(2,.iptr false [ldI s]),(3,evI e),(5,.ptr 1 0 0 1),(6,.ptr 3 0 0 1),(54,.isl false false 6<|s.Nk.map be.enc),(55,I s.Nk.length),(56,.int .i64 0)] (owH e l) =
 some (.exit 2,[(2,.iptr false [ldI s]),(3,evI e),(5,.ptr 1 0 0 1),(6,.ptr 3 0 0 1),(54,.isl false false 6<|s.Nk.map be.enc),(55,I s.Nk.length),(56,I s.Nk.length)],owH e (l++(s.Nk.filter<|λu=>Z3 u.Id e.Id).map (·.Ga))):=by
 have hbl:=Zot s;have hbe:=ZoU e;have hS:∀(D:List Str)n,Zd n (D.map encS)=true:=λD n=>ZN _<|Zw (λt=>rfl) _
 have L:=Y8 (E:=rE) (live:=[2,3,5,6,54,55,56]) (b:=c134L1b) s.Nk.length (λi=>[(2,.iptr false [ldI s]),(3,evI e),(5,.ptr 1 0 0 1),(6,.ptr 3 0 0 1),(54,.isl false false 6<|s.Nk.map be.enc),(55,I s.Nk.length),(56,I i)])
  (λi=>owH e (l++((s.Nk.take i).filter (λu=>Z3 u.Id e.Id)).map (·.Ga))) (λi=>rfl)
  (λi hi=>by
   obtain⟨x,hx⟩:∃x,s.Nk[i]?=some x:=⟨_,ZXj hi⟩;have hg:=Z6 (f:=be.enc) hx;have hi':=Zh hi;have hwr:=Zx (n:=i)<|by omega
   have htk:l++((s.Nk.take<|i+1).filter (λu=>Z3 u.Id e.Id)).map (·.Ga)=(l++((s.Nk.take i).filter (λu=>Z3 u.Id e.Id)).map (·.Ga))++bif Z3 x.Id e.Id then [x.Ga]else []:=by
    rw[ZYm,hx,ZZ4,ZXx,ZY0];congr 2;show([x].filter _).map _=_
    cases hc:Z3 x.Id e.Id<;>simp[hc]
   have hlen:(l++((s.Nk.take i).filter (λu=>Z3 u.Id e.Id)).map (·.Ga)).length<=1000000:=by
    rw[ZXy,ZXg];have:=ZYt (λu:be=>Z3 u.Id e.Id)<|s.Nk.take i
    rw[ZXX]at this;omega
   rw[htk];generalize l++((s.Nk.take i).filter (λu=>Z3 u.Id e.Id)).map (·.Ga)=D at*
   refine⟨[(2,.iptr false [ldI s]),(3,evI e),(5,.ptr 1 0 0 1),(6,.ptr 3 0 0 1),(54,.isl false false 6<|s.Nk.map be.enc),(55,I s.Nk.length),(56,I (i+1:Nat))],?_,rfl⟩;cases c:Z3 x.Id e.Id with
   |false=>
    rw[cond_false,ZXr];simp only[go_sem,c134L1b,owH,hg,hi',hwr,be.enc,c,hbe,hS]
   |true=>
    rw[cond_true];have ha:=λq=>Zpd e D x.Ga hlen [q]
    simp only[owH,ZXl,ZXo]at ha;have hl1:(D++[x.Ga]).length=D.length+1:=by simp
    unfold owH;rw[hl1];simp only[go_sem,c134L1b,hg,hi',hwr,ha,be.enc,c,hbe,hS])
  (e:=.exit 2) (fr:=[(2,.iptr false [ldI s]),(3,evI e),(5,.ptr 1 0 0 1),(6,.ptr 3 0 0 1),(54,.isl false false 6<|s.Nk.map be.enc),(55,I s.Nk.length),(56,I s.Nk.length)]) (h:=owH e (l++(s.Nk.filter<|λu=>Z3 u.Id e.Id).map (·.Ga))) (by
   rw[ZXG];simp only[go_sem,c134L1b,owH,ZG,hbe,hS]) (by simp)
 have e0:l++((s.Nk.take 0).filter (λu=>Z3 u.Id e.Id)).map (·.Ga)=l:=by simp
 rw[e0]at L;exact L
def ZqK(l:List Str)(ex:Bool)(hl:l.length<=1000000)(h:Hp):fnV rE 255 [.isl false ex 1<|l.map encS] h=some (.sl h.length l.length 0 l.length false,h++[.row 1<|l.map encS]):=by
 have hble:Nat.ble l.length 1000000=true:=ZXH hl;have hfit:(l.map encS).all (fits 1)=true:=by rw[ZYE,ZXs];intro x _;rfl
 rw[V8 (s:=J9) rfl];simp only[J9,Q2,Qq,hfit,ZXg,hble,beq_self_eq_true,ZXE,ZXC,cond_true]
def c134_eq:c134=.seq s134p0 (.seq s134p1<|.seq s134p2<|.seq s134p3<|.seq s134p4<|.seq s134p5<|.seq s134p6<|.seq s134p7 .ret):=(rfl)
def owG(s:Sta)(e:Gt)(k:Nat)(b:Bool):Fr:=bif b then [(2,.iptr false [ldI s]),(3,evI e),(5,.ptr 1 0 0 1),(6,.ptr 3 0 0 1)]else [(2,.iptr false [ldI s]),(3,evI e),(5,.ptr 1 0 0 1),(6,.ptr 3 0 0 1),(k,.bool false)]
def ow1(e:Gt)(l:List Str):List Str:=l++bif kOf [9,12] e then [e.Id]else []
def ow2(e:Gt)(l:List Str):List Str:=l++bif kOf [7] e then [e.bv]else []
def ow3(e:Gt)(l:List Str):List Str:=l++bif kOf [8] e then e.Lst.l.map (·.Id)else []
def ow4(s:Sta)(e:Gt)(l:List Str):List Str:=l++bif kOf [12] e then(s.Nk.filter<|λu=>Z3 u.Id e.Id).map (·.Ga)else []
def ZpW(s:Sta)(e:Gt):Zor s e=ow4 s e (ow3 e<|ow2 e<|ow1 e e.Ids.l):=rfl
def ZqL(s:Sta)(e:Gt)(l:List Str)(b:Bool)(hl:l.length<=100000):Zb rE s134p3 (owG s e 0 b) (owH e l)=some (.normal,owG s e 17<|kOf [9,12] e,owH e<|ow1 e l):=by
 have hbl:=Zot s;have hbe:=ZoU e;have hS:∀(D:List Str)n,Zd n (D.map encS)=true:=λD n=>ZN _<|Zw (λt=>rfl) _
 have hk:=ZoJ e [9,12] false<|by decide
 simp only[ZXn,ZXD]at hk;unfold ow1;cases c:kOf [9,12] e with
 |false=>
  rw[c]at hk;rw[cond_false,ZXr];cases b<;>simp only[go_sem,s134p3,owG,cond_true,cond_false,owH,hk,hbe,hS]
 |true=>
  rw[c]at hk;rw[cond_true];have ha:=Zpd e l e.Id (by omega) []
  have hl1:(l++[e.Id]).length=l.length+1:=by simp
  unfold owH at ha⊢;rw[hl1];simp only[ZXr]at ha;cases b<;>simp only[go_sem,s134p3,owG,cond_true,cond_false,hk,ha,hbe,hS]
def ZqM(s:Sta)(e:Gt)(l:List Str)(b:Bool)(hl:l.length<=100000):Zb rE s134p4 (owG s e 17 b) (owH e l)=some (.normal,owG s e 25<|kOf [7] e,owH e<|ow2 e l):=by
 have hbl:=Zot s;have hbe:=ZoU e;have hS:∀(D:List Str)n,Zd n (D.map encS)=true:=λD n=>ZN _<|Zw (λt=>rfl) _
 have hk:=ZoJ e [7] false<|by decide
 simp only[ZXn,ZXD]at hk;unfold ow2;cases c:kOf [7] e with
 |false=>
  rw[c]at hk;rw[cond_false,ZXr];cases b<;>simp only[go_sem,s134p4,owG,cond_true,cond_false,owH,hk,hbe,hS]
 |true=>
  rw[c]at hk;rw[cond_true];have ha:=Zpd e l e.bv (by omega) []
  have hl1:(l++[e.bv]).length=l.length+1:=by simp
  unfold owH at ha⊢;rw[hl1];simp only[ZXr]at ha;cases b<;>simp only[go_sem,s134p4,owG,cond_true,cond_false,hk,ha,hbe,hS]
def ZqN(s:Sta)(e:Gt)(l:List Str)(b:Bool)(hl:l.length+e.Lst.l.length<=100000):Zb rE s134p5 (owG s e 25 b) (owH e l)=some (.normal,owG s e 33<|kOf [8] e,owH e<|ow3 e l):=by
 have hbl:=Zot s;have hbe:=ZoU e;have hS:∀(D:List Str)n,Zd n (D.map encS)=true:=λD n=>ZN _<|Zw (λt=>rfl) _
 have hE:∀n,Zd n (e.Lst.l.map Ent.enc)=true:=λn=>ZN _<|Zw (λt=>rfl) _
 have hk:=ZoJ e [8] false<|by decide
 simp only[ZXn,ZXD]at hk;unfold ow3;cases c:kOf [8] e with
 |false=>
  rw[c]at hk;rw[cond_false,ZXr];cases b<;>simp only[go_sem,s134p5,owG,cond_true,cond_false,owH,hk,hbe,hS]
 |true=>
  rw[c]at hk;rw[cond_true];have hL:=ZqI s e l hl;generalize l++e.Lst.l.map (·.Id)=D at*;unfold owH at hL⊢;cases b<;>simp only[go_sem,s134p5,c134L0,owG,cond_true,cond_false,hk,hL,hbe,hS]
def ZqO(s:Sta)(e:Gt)(l:List Str)(b:Bool)(hl:l.length+s.Nk.length<=100000):Zb rE s134p6 (owG s e 33 b) (owH e l)=some (.normal,owG s e 49<|kOf [12] e,owH e<|ow4 s e l):=by
 have hbl:=Zot s;have hbe:=ZoU e;have hS:∀(D:List Str)n,Zd n (D.map encS)=true:=λD n=>ZN _<|Zw (λt=>rfl) _
 have hE:∀n,Zd n (s.Nk.map be.enc)=true:=λn=>ZN _<|Zw (λt=>rfl) _
 have hk:=ZoJ e [12] false<|by decide
 simp only[ZXn,ZXD]at hk;unfold ow4;cases c:kOf [12] e with
 |false=>
  rw[c]at hk;rw[cond_false,ZXr];cases b<;>simp only[go_sem,s134p6,owG,cond_true,cond_false,owH,hk,hbe,hS]
 |true=>
  rw[c]at hk;rw[cond_true];have hL:=ZqJ s e l hl;generalize l++(s.Nk.filter<|λu=>Z3 u.Id e.Id).map (·.Ga)=D at*
  unfold owH at hL⊢;cases b<;>simp only[go_sem,s134p6,c134L1,owG,cond_true,cond_false,hk,hL,hbe,hS]
def ZqP(s:Sta)(e:Gt)(hl:e.Ids.l.length<=1000000):Zb rE s134p2 [(2,.iptr false [ldI s]),(3,evI e),(5,.ptr 1 0 0 1)] [.row 1 [I 0],.row 1 [.clo (.func 254) [] [evI e]]]=some (.normal,owG s e 0 true,owH e e.Ids.l):=by
 have hC:=ZqK e.Ids.l e.Ids.ex hl [.row 1 [I 0],.row 1 [.clo (.func 254) [] [evI e]]];have hbl:=Zot s;have hbe:=ZoU e;have hS:∀(D:List Str)n,Zd n (D.map encS)=true:=λD n=>ZN _<|Zw (λt=>rfl) _
 unfold owH owG;simp only[go_sem,s134p2,cond_true,hC,hbe]
def ZpX(s:Sta)(e:Gt)(h1:e.Ids.l.length<=1000)(h2:e.Lst.l.length<=1000)(h3:s.Nk.length<=1000):(ow1 e e.Ids.l).length<=1001/\(ow2 e<|ow1 e e.Ids.l).length<=1002/\(ow3 e<|ow2 e<|ow1 e e.Ids.l).length<=2002/\(Zor s e).length<=3002:=by
 have a1:(ow1 e e.Ids.l).length<=1001:=by
  unfold ow1;cases kOf [9,12] e<;>simp<;>omega
 have a2:(ow2 e<|ow1 e e.Ids.l).length<=1002:=by
  unfold ow2;cases kOf [7] e<;>simp<;>omega
 have a3:(ow3 e<|ow2 e<|ow1 e e.Ids.l).length<=2002:=by
  rw[ow3];cases kOf [8] e<;>simp<;>omega
 refine⟨a1,a2,a3,?_⟩;rw[ZpW,ow4];have:=ZYt (λu:be=>Z3 u.Id e.Id) s.Nk
 cases kOf [12] e<;>simp<;>omega
def ZqQ(s:Sta)(e:Gt)(h1:e.Ids.l.length<=1000)(h2:e.Lst.l.length<=1000)(h3:s.Nk.length<=1000):fnV rE 134 [ldI s,evA e] [.row 1 [I 0]]=some (.clo (.func 256) [] [.iptr false [ldI s],.ptr 1 0 0 1,evI e,.ptr 3 0 0 1],owH e<|Zor s e):=by
 obtain⟨a1,a2,a3,a4⟩:=ZpX s e h1 h2 h3;have q2:=ZqP s e<|by omega
 have q3:=ZqL s e e.Ids.l true<|by omega
 have q4:=ZqM s e (ow1 e e.Ids.l) (kOf [9,12] e)<|by omega
 have q5:=ZqN s e (ow2 e<|ow1 e e.Ids.l) (kOf [7] e)<|by omega
 have q6:=ZqO s e (ow3 e<|ow2 e<|ow1 e e.Ids.l) (kOf [8] e)<|by omega
 rw[<-ZpW]at q6;have hbl:=Zot s;have hcl:=Zow s;have hbe:=ZoU e;have hS:∀(D:List Str)n,Zd n (D.map encS)=true:=λD n=>ZN _<|Zw (λt=>rfl) _
 have q0:Zb rE s134p0 [(0,ldI s),(1,evA e)] [.row 1 [I 0]]=some (.normal,[(2,.iptr false [ldI s]),(3,evI e)],[.row 1 [I 0]]):=by
  simp only[go_sem,s134p0,hcl,hbe]
 have q1:Zb rE s134p1 [(2,.iptr false [ldI s]),(3,evI e)] [.row 1 [I 0]]=some (.normal,[(2,.iptr false [ldI s]),(3,evI e),(5,.ptr 1 0 0 1)],[.row 1 [I 0],.row 1 [.clo (.func 254) [] [evI e]]]):=by
  simp only[go_sem,s134p1,hbe]
 generalize Zor s e=D at*;have q7:∀b,∃fr,Zb rE s134p7 (owG s e 49 b) (owH e D)=some (.normal,fr,owH e D)/\get fr 4=.clo (.func 256) [] [.iptr false [ldI s],.ptr 1 0 0 1,evI e,.ptr 3 0 0 1]:=by
  intro b;cases b
  .exact⟨_,by simp only[go_sem,s134p7,owG,owH,cond_true,cond_false]<;>rfl,rfl⟩
  .exact⟨_,by simp only[go_sem,s134p7,owG,owH,cond_true,cond_false]<;>rfl,rfl⟩
 obtain⟨fr,q7,g7⟩:=q7<|kOf [12] e;rw[Q6 (f:=134) rfl rfl,c134_eq];simp only[go_sem,q0,q1,q2,q3,q4,q5,q6,q7,g7]
def ClS.str{s:Sta}(h:ClS s){x:By}(hx:x∈s.Gm):0<=x.bh/\x.bh<=63:=by
 have:=h.prop.st x hx;unfold Vp at this;simp only[ZXf]at this;exact Zpa this.1
def ClS.bld{s:Sta}(h:ClS s){x:Ev}(hx:x∈s.Bt):0<=x.bh/\x.bh<=63:=by
 have:=h.prop.bu x hx;unfold Vq at this;simp only[ZXf]at this;exact Zpa this.1
def ClS.dor{s:Sta}(h:ClS s){x:Ga}(hx:x∈s.Bc):0<=x.bh/\x.bh<=63:=by
 obtain⟨i,hi⟩:=ZYp hx;have:=h.prop.dr i x hi;unfold Vr at this;simp only[ZXf]at this;exact Zpa this.1
def ZqR(s:Sta)(e:Gt)(a m:Int)(h:RqS s e m):
 rf rE (.clo (.func 256) [] [.iptr false [ldI s],.ptr 1 0 0 1,evI e,.ptr 3 0 0 1]) [13] c71R0a c71R0b (ZoA s e a m) (owH e<|Zor s e)=bif Zpb s e m
  then some (.normal,ZoA s e a m,thX s e a m 0 .exhausted .normal<|Zor s e)else some (.ret,ZoA s e a m,thX s e a m 18 .exhausted .ret<|Zor s e):=by
 have hz:=h.c.E.sizes;have hd:=(ZpX s e (by have:=h.ev.ids;omega) (by have:=h.ev.lst;omega) hz.units).2.2.2
 obtain⟨f1,h1,L1,A1,B1⟩:=ZqE s e a m h hz.regions<|λx hx=>(h.c.reg hx).1
 obtain⟨f2,h2,L2,A2,B2⟩:=ZqF s e a m h hz.streets<|λx hx=>(h.c.str hx).1
 obtain⟨f3,h3,L3,A3,B3⟩:=ZqG s e a m h hz.buildings<|λx hx=>(h.c.bld hx).1
 obtain⟨f4,h4,L4,A4,B4⟩:=ZqH s e a m h hz.doors (λx hx=>(h.c.dor hx).1)<|by omega
 have hbl:=Zot s;have hcl:=Zow s;obtain⟨hf4,hf5⟩:=ZoI s e a m;have hS:∀n,Zd n ((Zor s e).map encS)=true:=λn=>ZN _<|Zw (λt=>rfl) _
 unfold Zpb;rw[Z1k (c:=c256) rfl];cases c1:s.Fa.all (λx=>!ZoQ e x||Zou s m x.bh)with
 |false=>
  have e1:=B1 c1;subst e1;rw[c1]at L1;simp only[thX,ZXB,if_false]at L1;rw[ZXm,cond_false];simp only[go_sem,c256,c256L0,owH,thX,ZXl,ZXo,L1,hf4,hS];rfl
 |true=>
 obtain⟨e1,e1'⟩:=A1 c1;subst e1;subst e1';rw[c1]at L1;simp only[thX,if_true]at L1;cases c2:s.Gm.all (λx=>!ZoR e x||Zou s m x.bh)with
 |false=>
  have e1:=B2 c2;subst e1;rw[c2]at L2;simp only[thX,ZXB,if_false]at L2;rw[ZXk,ZXm,cond_false];simp only[go_sem,c256,c256L0,c256L1,owH,thX,ZXl,ZXo,L1,L2,hf4,hS];rfl
 |true=>
 obtain⟨e1,e1'⟩:=A2 c2;subst e1;subst e1';rw[c2]at L2;simp only[thX,if_true]at L2;cases c15003:s.Bt.all (λx=>!ZoS e x||Zou s m x.bh)with
 |false=>
  have e1:=B3 c15003;subst e1;rw[c15003]at L3;simp only[thX,ZXB,if_false]at L3;rw[ZXk,ZXk,ZXm,cond_false];simp only[go_sem,c256,c256L0,c256L1,c256L2,owH,thX,ZXl,ZXo,L1,L2,L3,hf4,hS];rfl
 |true=>
 obtain⟨e1,e1'⟩:=A3 c15003;subst e1;subst e1';rw[c15003]at L3;simp only[thX,if_true]at L3;cases c15004:s.Bc.all (λx=>!ZoT (Zor s e) x||Zou s m x.bh)with
 |false=>
  have e1:=B4 c15004;subst e1;rw[c15004]at L4;simp only[thX,ZXB,if_false]at L4;rw[ZXk,ZXk,ZXk,cond_false];simp only[go_sem,c256,c256L0,c256L1,c256L2,c256L3,owH,thX,ZXl,ZXo,L1,L2,L3,L4,hf4,hS];rfl
 |true=>
 obtain⟨e1,e1'⟩:=A4 c15004;subst e1;subst e1';rw[c15004]at L4;simp only[thX,if_true]at L4;rw[ZXk,ZXk,ZXk,cond_true];simp only[go_sem,c256,c256L0,c256L1,c256L2,c256L3,owH,thX,ZXl,ZXo,L1,L2,L3,L4,hf4,hS];rfl
def ZqS(s:Sta)(e:Gt)(a m:Int)(h:RqS s e m):pfn rE 71 [rqI s e a m]=some (I<|Zp6 s e m):=by
 have hrf:=ZqR s e a m h;have hO:=ZqQ s e (by have:=h.ev.ids;omega) (by have:=h.ev.lst;omega) h.c.E.sizes.units
 have hcl:=Zow s;have hbl:=Zot s;have hS:∀n,Zd n ((Zor s e).map encS)=true:=λn=>ZN _<|Zw (λt=>rfl) _
 obtain⟨hf4,hf5⟩:=ZoI s e a m;generalize Zor s e=D at*;unfold Zp6;rw[Z5 (f:=71) rfl rfl];unfold owH at hrf hO;cases c:Zpb s e m with
 |true=>
  rw[c,cond_true]at hrf;simp only[ZoA]at hrf;simp only[go_sem,c71,hO,Sr,hrf,hS,thX,ZoA]
 |false=>
  rw[c,cond_false]at hrf;simp only[ZoA]at hrf;simp only[go_sem,c71,hO,Sr,hrf,hS,thX,ZoA]
def Zpf{a:Int}(h:Zoz a=true):0<=a/\a<=63:=by
 unfold Zoz at h;simpa using h
def cvV:List (Nat×Int)->Int
 |[]=>0
 |x::l=>bif x.2==0 then cvV l else x.2
abbrev cvF(R:AV)(L:List<|Nat×Int)(i:Nat):Fr:=[(46,.isl false false 1<|L.map λx=>.clo (.func x.1) [R] []),(47,I L.length),(48,I i)]
def ZpY(R:AV)(hc:clean R=true)(L:List<|Nat×Int)(hl:L.length<=1000)(hp:∀x∈L,pfn rE x.1 [R]=some (I x.2)):∀(k i:Nat),i+k=L.length->
 ∃fr',Zg rE [46,47,48] c34L0b (cvF R L i) []=some (bif cvV (L.drop i)==0 then .exit 0 else .ret,fr',[])/\(cvV (L.drop i)≠0->get fr' 6=I (cvV<|L.drop i))
 |0,i,hk=>by
  have hi:i=L.length:=by omega
  subst hi;refine⟨_,Q7 rfl (e:=.exit 0) (by simp only[go_sem,c34L0b,ZG]<;>rfl) (by simp) |>.trans (by rw[List.drop_length];rfl),?_⟩
  rw[List.drop_length];exact λh=>absurd rfl h
 |k+1,i,hk=>by
  obtain⟨x,hx⟩:∃x,L[i]?=some x:=⟨_,ZXj<|by omega⟩
  have hg:=Z6 (f:=λx:Nat×Int=>AV.clo (.func x.1) [R] []) hx
  have hi':=Zh<|Z7 hx;have hwr:=Zx (n:=i) (by have:=Z7 hx;omega)
  have hy:=hp x<|ZXp hx;have hd:L.drop i=x::L.drop (i+1):=by
   have h1:=ZXP<|Z7 hx;rw[h1];congr 1;have:=ZXj<|Z7 hx;rw[this]at hx;exact Option.some.inj hx
  rw[hd,cvV];cases c:x.2==0 with
  |true=>
   have hn:(x.2 != 0)=false:=by rw[bne,c];rfl
   obtain⟨fr',h1,h2⟩:=ZpY R hc L hl hp k (i+1)<|by omega
   refine⟨fr',?_,h2⟩;rw[cond_true,Yt rfl (fr':=(6,.bot)::cvF R L (i+1)) (h':=[]) (by
    simp only[go_sem,c34L0b,hg,hi',hwr,hy,hn,hc])]
   exact h1
  |false=>
   have hn:(x.2 != 0)=true:=by rw[bne,c];rfl
   rw[cond_false,c,cond_false];refine⟨_,Q7 rfl (e:=.ret) (fr':=[(6,I x.2),(46,.isl false false 1<|L.map λx=>.clo (.func x.1) [R] []),(47,I L.length),(48,I i)]) (by
    simp only[go_sem,c34L0b,hg,hi',hy,hn,hc]) (by simp),λ_=>rfl⟩
def ZoN(s:Sta)(a:Int)(e:Gt):Int:=bif !Jx s||(!Zoz a||!Q9 e)then 1 else
 cvV [(70,Zp0 s e a<|Zoq s a),(71,Zp6 s e<|Zoq s a),(72,Zp5 s e<|Zoq s a),(73,Zp1 s e a<|Zoq s a)]
def Zpq(s:Sta)(hE:StE s)(a:Int)(e:Gt)(hv:EvS e):pfn rE 34 [stA s,I a,evA e]=some (I<|ZoN s a e):=by
 have hO:=Zp7 s hE;have hA:=Zp8 a;have hF:=NH e hv;have hcl:=Zow s;have hbl:=Zot s;unfold ZoN;rw[Z5 (f:=34) rfl rfl];cases c:Jx s with
 |false=>
  rw[c]at hO;simp only[go_sem,c34,hO,ZXv,ZXE]
 |true=>
 rw[c]at hO;cases c1:Zoz a with
 |false=>
  rw[c1]at hA;simp only[go_sem,c34,hO,hA,ZXv,ZXE,ZXq,ZXU]
 |true=>
 rw[c1]at hA;cases c2:Q9 e with
 |false=>
  rw[c2]at hF;simp only[go_sem,c34,hO,hA,hF,ZXv,ZXq,ZXU]
 |true=>
 rw[c2]at hF;have h:ClS s:=⟨hE,c⟩;have m1:=h.mst (Zpf c1).1;have hr:0<=Zoq s a/\Zoq s a<=63:=ZpH h.prop.pa<|Zpf c1;have hq:RqS s e (Zoq s a):=⟨h,hv,c2,hr⟩;generalize Zoq s a=m at*;have hR:clean (rqI s e a m)=true:=by simp only[go_sem]
 obtain⟨fr',L1,L2⟩:=ZpY (rqI s e a m) hR [(70,Zp0 s e a m),(71,Zp6 s e m),(72,Zp5 s e m),(73,Zp1 s e a m)] (by simp) (by
  intro x hx;simp only[ZXF,ZY1,or_false]at hx;rcases hx with rfl|rfl|rfl|rfl
  .exact Zqw s e a m hq
  .exact ZqS s e a m hq
  .exact Zqy s e a m hq
  .exact ZqD s e a m hq) 4 0 rfl
 rw[ZXS]at L1 L2;generalize cvV [(70,Zp0 s e a m),(71,Zp6 s e m),(72,Zp5 s e m),(73,Zp1 s e a m)]=v at*;have hbR:∀n,bel n (rqI s e a m)=true:=λn=>by
  have:=ZN (n:=n) [rqI s e a m]<|by simp only[Z4,hR,ZXC]
  simpa only[Zd,ZXC]using this
 replace L1:Zg rE [46,47,48] c34L0b [(46,.isl false false 1 [.clo (.func 70) [rqI s e a m] [],.clo (.func 71) [rqI s e a m] [],.clo (.func 72) [rqI s e a m] [],.clo (.func 73) [rqI s e a m] []]),(47,.int .i64 ((4:Nat):Int)),(48,.int .i64 0)] []=some (bif v==0 then .exit 0 else .ret,fr',[]):=L1
 cases c15003:v==0 with
 |true=>
  have hv0:v=0:=by simpa using c15003
  subst hv0;rw[c15003,cond_true]at L1;simp only[go_sem,c34,c34L0,hO,hA,hF,m1,hcl,L1,ZXq,ZXU]
 |false=>
  have hv0:v≠0:=by simpa using c15003
  have g:=L2 hv0;rw[c15003,cond_false]at L1;simp only[go_sem,c34,c34L0,hO,hA,hF,m1,hcl,L1,g,ZXq,ZXU]
def Zvw(s:Sta)(a:Int)(e:Gt):Int:=bif ZoN s a e==0 then Qk s a e else ZoN s a e
def Zvx(s:Sta)(a:Int)(e:Gt):Sta:=bif ZoN s a e==0&&Qk s a e==0 then ZP s a e else s
def Zvi(l:List Ver)(st:Sta×List Int)(p:Nat×Nat):Sta×List Int:=match l[p.1]? with
 |some v=>(match v.bc.l[p.2]? with
  |some e=>(Zvx st.1 v.Mv e,st.2++[Zvw st.1 v.Mv e])
  |none=>st)
 |none=>st
def Zr5(l:List Ver)(bq bp:Int):Sta×List Int:=(Zr3 l bq bp).foldl (Zvi l) (Yh,[])
def ZyC{l:List Ver}{p:Nat×Nat}{v:Ver}{e:Gt}(h1:l[p.1]?=some v)(h2:v.bc.l[p.2]?=some e)(st:Sta×List Int):Zvi l st p=(Zvx st.1 v.Mv e,st.2++[Zvw st.1 v.Mv e]):=by
 unfold Zvi;rw[h1];simp only[h2]
def ZeI{e:Gt}(h:Xn e=true):∀x∈e.Lst.l,x.Id.size<=1000:=by
 simp only[Xn,ZXf]at h;obtain⟨h1,_,_,_,_,_,h6⟩:=h;have k6:=of_decide_eq_true h6;unfold FT at h1;rw[ZXz<|by omega]at h1
 intro x hx;have:=ZXs.1 h1 x hx;unfold M2 at this;simp[ZU]at this;omega
structure VsF(V:NL Ver):Prop where
 s:VsS V
 few:∀v∈V.l,∀e∈v.bc.l,Xn e=true
structure StN(n:Nat)(s:Sta):Prop where
 e:StE s
 regions:s.Fa.length<=10*n
 streets:s.Gm.length<=10*n
 buildings:s.Bt.length<=10*n
 doors:s.Bc.length<=10*n
 units:s.Nk.length<=10*n
 merged:s.Gc.length<=10*n
 rulings:s.ba.length<=10*n
def StN.f{n:Nat}{s:Sta}(h:StN n s)(hn:n<=50):StF s:=by
 obtain⟨a,b1,b2,b3,b4,b5,b6,b7⟩:=h;exact⟨a,by omega,by omega,by omega,by omega,by omega,by omega,by omega⟩
def Zx2:StE Yh:=by
 refine⟨⟨ZXi _,ZXi _,ZXi _,ZXi _,ZXi _,ZXi _,ZXi _⟩,?_,?_,?_,?_,?_⟩
 all_goals (intro x hx;cases hx)
def StN.zero(n:Nat):StN n Yh:=⟨Zx2,ZXi _,ZXi _,ZXi _,ZXi _,ZXi _,ZXi _,ZXi _⟩
def StN.mono{n m:Nat}{s:Sta}(h:StN n s)(hm:n<=m):StN m s:=by
 obtain⟨a,b1,b2,b3,b4,b5,b6,b7⟩:=h;exact⟨a,by omega,by omega,by omega,by omega,by omega,by omega,by omega⟩
def StN.apply{n:Nat}{s:Sta}(h:StN n s)(hn:n<=50)(a:Int){e:Gt}(he:Xn e=true):StN (n+1) (ZP s a e):=by
 have hE:=ZeH s (h.f hn) a e (JL e he)<|ZeI he;have key:∀t:Sta,t=ZP s a e->(t.Fa.length<=10*(n+1)/\t.Gm.length<=10*(n+1)/\t.Bt.length<=10*(n+1)/\t.Bc.length<=10*(n+1)/\t.Nk.length<=10*(n+1)/\t.Gc.length<=10*(n+1)/\t.ba.length<=10*(n+1)):=by
  intro t ht;unfold ZP at ht;cases c:okB s a e&&(Q1 (wk0 s a e)==0&&Wh (stepW<|wk0 s a e).s.Bc)with
  |true=>
   rw[c,cond_true]at ht;subst ht;obtain⟨h1,h2,h3,h4,h5,h6,h7⟩:=Z4u (wk0 s a e) (JL e he).lst;have e0:(wk0 s a e).s=s:=rfl;rw[e0]at h1 h2 h3 h4 h5 h6 h7;obtain⟨_,b1,b2,b3,b4,b5,b6,b7⟩:=h;exact⟨by omega,by omega,by omega,by omega,by omega,by omega,by omega⟩
  |false=>
   rw[c,cond_false]at ht;subst ht;exact⟨ZXi _,ZXi _,ZXi _,ZXi _,ZXi _,ZXi _,ZXi _⟩
 obtain⟨k1,k2,k3,k4,k5,k6,k7⟩:=key _ rfl;exact⟨hE,k1,k2,k3,k4,k5,k6,k7⟩
def StN.sta{n:Nat}{s:Sta}(h:StN n s)(hn:n<=50)(a:Int){e:Gt}(he:Xn e=true):StN (n+1) (Zvx s a e):=by
 unfold Zvx;cases ZoN s a e==0&&Qk s a e==0 with
 |true=>exact h.apply hn a he
 |false=>exact h.mono<|ZYa _
def ZyD{V:NL Ver}(hV:VsF V){p:Nat×Nat}{v:Ver}{e:Gt}(h1:V.l[p.1]?=some v)(h2:v.bc.l[p.2]?=some e):Xn e=true:=hV.few v (ZXp h1) e<|ZXp h2
def Zx3{V:NL Ver}(hV:VsF V):∀(O:List<|Nat×Nat)(n:Nat)(st:Sta×List Int),StN n st.1->n+O.length<=50->StN (n+O.length) (O.foldl (Zvi V.l) st).1/\(O.foldl (Zvi V.l) st).2.length<=st.2.length+O.length
 |[],n,st,h,_=>⟨h,ZXh _⟩
 |p::r,n,st,h,hl=>by
  rw[ZXw]at hl⊢;rw[ZY5];have h1:StN (n+1) (Zvi V.l st p).1/\(Zvi V.l st p).2.length<=st.2.length+1:=by
   unfold Zvi;cases hv:V.l[p.1]? with
   |none=>exact⟨h.mono<|ZYa _,ZYa _⟩
   |some v=>
    dsimp only;cases he:v.bc.l[p.2]? with
    |none=>exact⟨h.mono<|ZYa _,ZYa _⟩
    |some e=>exact⟨h.sta (by omega) _<|ZyD hV hv he,by simp⟩
  obtain⟨h2,h3⟩:=Zx3 hV r (n+1) _ h1.1<|by omega
  rw[show n+(r.length+1)=n+1+r.length by omega]
  exact⟨h2,by omega⟩
def ZsZ(s:Sta):Z4 [stA s]=true:=by
 have h1:Z4 (s.Fa.map Gk.enc)=true:=Zw (λt=>rfl) _
 have h2:Z4 (s.Gm.map By.enc)=true:=Zw (λt=>rfl) _
 have h3:Z4 (s.Bt.map Ev.enc)=true:=Zw (λt=>rfl) _
 have h4:Z4 (s.Bc.map Ga.enc)=true:=Zw (λt=>rfl) _
 have h5:Z4 (s.Nk.map be.enc)=true:=Zw (λt=>rfl) _
 have h6:Z4 (s.Gc.map bf.enc)=true:=Zw (λt=>rfl) _
 have h7:Z4 (s.ba.map bf.enc)=true:=Zw (λt=>rfl) _
 simp only[go_sem]
abbrev asF(V:NL Ver)(O:List<|Nat×Nat)(n i:Nat):Fr:=[(0,vsA V),(6,.ptr 0 0 0 1),(8,.ptr 1 0 0 1),(9,.sl 2 n 0 n false),(19,.isl false false 2<|O.map prA),(20,I O.length),(21,I i)]
abbrev asH(s:Sta)(errs:List Int):Hp:=[.row 7 [stA Yh],.row 7 [stA s],.row 1<|errs.map I]
def ZyE(s:Sta)(errs:List Int)(x:Int)(hl:errs.length<=100000)(r:List AObj):appW (.row 7 [stA Yh]::.row 7 [stA s]::.row 1 (errs.map I)::r) false 1 8 (.sl 2 errs.length 0 errs.length false) (.isl false false 1 [I x])=some (.sl 2 (errs.length+1) 0 (errs.length+1) false,.row 7 [stA Yh]::.row 7 [stA s]::.row 1 ((errs++[x]).map I)::r):=by
 have:=XC (h:=.row 7 [stA Yh]::.row 7 [stA s]::.row 1 (errs.map I)::r) (fz:=false) (b:=2) (g:=errs.length) (sz:=1) (bytes:=8) (es:=errs.map I) (bw:=false) (ex:=false) (ys:=[I x]) (by simp[rowAt]) rfl rfl (by decide) (by decide) (by simp;omega)
 rw[this,ZXx];rfl
def ZAh(V:NL Ver)(hV:VsF V)(O:List<|Nat×Nat)(hO:∀p∈O,InL V.l p)(hl:O.length<=40):
 Zg rE [0,6,8,9,19,20,21] c15L0b (asF V O 0 0) (asH Yh []) =
  some (.exit 0,asF V O (O.foldl (Zvi V.l) (Yh,[])).2.length O.length,asH (O.foldl (Zvi V.l) (Yh,[])).1 (O.foldl (Zvi V.l) (Yh,[])).2):=by
 have hq:∀(t:Sta)n,Zj n (.row 7 [stA t])=true:=λt n=>ZN (n:=n) [stA t]<|ZsZ t
 have hqe:∀(e:Gt)n,Zj n (.row 18 [evA e])=true:=λe n=>ZN (n:=n) [evA e]<|ZwW e
 have hqp:∀(a b:Nat)n,Zj n (.row 2 [.agg [I a,I b]])=true:=λa b n=>rfl
 have hqi:∀(l:List Int)n,Zd n (l.map I)=true:=λl n=>ZN _<|Zw (λt=>rfl) l
 have z0:((0:Int)<=0/\(0:Int)<((2:Nat):Int))=True:=by simp
 have z1:((0:Int)<=1/\(1:Int)<((2:Nat):Int))=True:=by simp
 have t0:Int.toNat 0*1=0:=rfl;have t1:Int.toNat 1*1=1:=rfl;have L:=Y8 (E:=rE) (live:=[0,6,8,9,19,20,21]) (b:=c15L0b) O.length (λi=>asF V O ((O.take i).foldl (Zvi V.l) (Yh,[])).2.length i) (λi=>asH ((O.take i).foldl (Zvi V.l) (Yh,[])).1 ((O.take i).foldl (Zvi V.l) (Yh,[])).2) (λi=>rfl)
  (λi hi=>by
   obtain⟨p,hp⟩:∃p,O[i]?=some p:=⟨_,ZXj hi⟩;obtain⟨v,e,h1,h2⟩:=hO p<|ZXp hp;have hg:=Z6 (f:=prA) hp;have hg1:=Z6 (f:=Ver.enc) h1;have hg2:=Z6 (f:=λe=>evA e) h2
   have hi':=Zh hi;have hwr:=Zx (n:=i)<|by omega
   have hfe:=ZyD hV h1 h2;have hz:=Zx3 hV (O.take i) 0 (Yh,[]) (StN.zero 0)<|by simp;omega
   rw[Us _ _ hp,ZyC h1 h2];have hle:(O.take i).length<=i:=by simp;omega
   generalize hst:(O.take i).foldl (Zvi V.l) (Yh,[])=st at*;obtain⟨s,errs⟩:=st;have hs:StF s:=hz.1.f<|by omega
   have he2:errs.length<=100:=by have:errs.length<=0+(O.take i).length:=hz.2;omega
   have hC:=Zpq s hs.e v.Mv e<|JL e hfe;have hY:=JJ s hs v.Mv e<|JL e hfe;refine⟨asF V O (errs++[Zvw s v.Mv e]).length<|i+1,?_,rfl⟩;show Zb rE c15L0b (asF V O errs.length i) (asH s errs)=some (.normal,asF V O (errs++[Zvw s v.Mv e]).length<|i+1,asH (Zvx s v.Mv e)<|errs++[Zvw s v.Mv e])
   have hA:=λx r=>ZyE s errs x (by omega) r
   have hA2:=λx r=>ZyE (ZP s v.Mv e) errs x (by omega) r
   unfold Zvx Zvw;have hqs:=hq s;have hqz:=hq Yh;have hqa:=hq<|ZP s v.Mv e;have hqe':=hqe e;have hE:=hqi errs;have hE2:=λx=>hqi<|errs++[x]
   generalize ZP s v.Mv e=t at*;generalize Qk s v.Mv e=f at*;generalize ZoN s v.Mv e=c at*;have hv:v.enc=.agg [I v.Mv,I v.An,I v.At,.str v.Prev,.isl false v.bc.ex 18<|v.bc.l.map λe=>evA e,I v.Index,.isl false v.Sig.ex 1<|v.Sig.l.map encS,.isl false v.Path.ex 1<|v.Path.l.map encS]:=rfl
   rw[hv]at hg1;cases c1:c==0 with
   |false=>
    rw[ZXm,cond_false,cond_false];simp only[go_sem,c15L0b,asF,asH,prA,hg,hg1,hg2,hi',hwr,hC,c1,hA,hqs,hqz,hqe',hqp,hE,hE2,z0,z1,t0,t1,if_true,ZXy,ZY7]
   |true=>
    rw[ZXk,cond_true];cases c2:f==0 with
    |false=>
     rw[cond_false];simp only[go_sem,c15L0b,asF,asH,prA,hg,hg1,hg2,hi',hwr,hC,hY,c1,c2,hA,hqs,hqz,hqa,hqe',hqp,hE,hE2,z0,z1,t0,t1,if_true,ZXy,ZY7]
    |true=>
     rw[cond_true];simp only[go_sem,c15L0b,asF,asH,prA,hg,hg1,hg2,hi',hwr,hC,hY,c1,c2,hA2,hqs,hqz,hqa,hqe',hqp,hE,hE2,z0,z1,t0,t1,if_true,ZXy,ZY7])
  (e:=.exit 0) (fr:=asF V O (O.foldl (Zvi V.l) (Yh,[])).2.length O.length) (h:=asH (O.foldl (Zvi V.l) (Yh,[])).1 (O.foldl (Zvi V.l) (Yh,[])).2) (by
   rw[ZXG];generalize O.foldl (Zvi V.l) (Yh,[])=st;obtain⟨s,errs⟩:=st;have hqs:=hq s;have hqz:=hq Yh;have hE:=hqi errs;simp only[go_sem,c15L0b,asF,asH,ZG,hqs,hqz,hE]) (by simp)
 exact L
def Zwd(l:List Ver)(bq bp:Int):∀p∈Zr3 l bq bp,InL l p:=λp hp=>ZyB l bq bp _ p<|(Zwc l _).mem_iff.1 hp
def ZyF(V:NL Ver)(hV:VsF V)(bq bp:Int)(hl:(Zr3 V.l bq bp).length<=40):pfn rE 15 [vsA V,I bq,I bp]=some (.tup [stA (Zr5 V.l bq bp).1,.isl false false 1<|(Zr5 V.l bq bp).2.map I]):=by
 have hO:=Zx1 V hV.s bq bp;have L:=ZAh V hV (Zr3 V.l bq bp) (Zwd V.l bq bp) hl;unfold Zr5;have hq:∀(t:Sta)n,Zj n (.row 7 [stA t])=true:=λt n=>ZN (n:=n) [stA t]<|ZsZ t
 have hqi:∀(l:List Int)n,Zd n (l.map I)=true:=λl n=>ZN _<|Zw (λt=>rfl) l
 have hci:∀(l:List Int),Z4 (l.map I)=true:=λl=>Zw (λt=>rfl) l
 generalize Zr3 V.l bq bp=O at*;generalize O.foldl (Zvi V.l) (Yh,[])=st at*;obtain⟨s,errs⟩:=st;have L':Zg rE [0,6,8,9,19,20,21] c15L0b [(0,vsA V),(6,.ptr 0 0 0 1),(8,.ptr 1 0 0 1),(9,.sl 2 0 0 0 false),(19,.isl false false 2<|O.map prA),(20,I O.length),(21,.int .i64 0)] [.row 7 [.agg HE],.row 7 [.agg HE],.row 1 []]=_:=L;have hz:∀n,Zj n (.row 7 [.agg HE])=true:=λn=>rfl
 have hqs:=hq s;have hc:=ZsZ s;have hE:=hqi errs;have hcE:=hci errs;have htk:List.take errs.length (errs.map I)=errs.map I:=ZXz<|by simp
 simp only[HE]at hz L';rw[Z5 (f:=15) rfl rfl];simp only[stA]at hc;simp only[go_sem,c15,c15L0,hO,L',hz,hqs,hE,hcE,htk,ZXS,ZXg,beq_self_eq_true]
def Zr8(l:List Ver)(i:Nat):Nat:=((l.take i).map (λv=>v.bc.l.length)).sum
def Zwe{l:List Ver}{i:Nat}{v:Ver}(h:l[i]?=some v):Zr8 l (i+1)=Zr8 l i+v.bc.l.length:=by
 unfold Zr8;rw[ZYm,h];simp
def Zx4{l:List Ver}(h:∀v∈l,v.bc.l.length<=140737488355328):∀i,Zr8 l i<=i*140737488355328
 |0=>by simp[Zr8]
 |i+1=>by
  have ih:=Zx4 h i;rw[ZYz];cases hv:l[i]? with
  |none=>
   have:Zr8 l (i+1)=Zr8 l i:=by unfold Zr8;rw[ZYm,hv];simp
   omega
  |some v=>
   have h1:=Zwe hv;have h2:=h v<|ZXp hv;omega
def ZvP(l:List Ver)(most:Int)(i:Nat)(v:Ver):Bool:=!decide (((Zr8 l (i+1):Nat):Int)>most)&&v.bc.l.all Xn
def ZvT(l:List Ver)(most:Int):Bool:=Zu (ZvP l most) 0 (l.take 20)&&decide ((l.length:Int)<=20)
def ZyG(V:NL Ver)(most:Int)(n:Nat)(v:Ver)(i:Nat)(hv:V.l[i]?=some v)(hl:v.bc.l.length<=140737488355328):
 ∃fr',Zg rE [0,1,5,6,7] c25L0b [(0,vsA V),(1,I most),(5,I n),(6,I i),(7,.int .i64 0)] []=some (if v.bc.l.all Xn=true then .exit 2 else .ret,fr',[])/\(v.bc.l.all Xn=true->Z2 [0,1,4,5,6] fr'=[(0,vsA V),(1,I most),(4,.bot),(5,I n),(6,I i)])/\(v.bc.l.all Xn=false->get fr' 4=.bool false):=by
 have hg1:=Z6 (f:=Ver.enc) hv;have hev:v.enc=.agg [I v.Mv,I v.An,I v.At,.str v.Prev,.isl false v.bc.ex 18<|v.bc.l.map λe=>evA e,I v.Index,.isl false v.Sig.ex 1<|v.Sig.l.map encS,.isl false v.Path.ex 1<|v.Path.l.map encS]:=rfl
 rw[hev]at hg1;have L:=QT (E:=rE) (live:=[0,1,5,6,7]) (b:=c25L0b) (h:=[]) v.bc.l (λ_ e=>Xn e) (λk=>[(0,vsA V),(1,I most),(5,I n),(6,I i),(7,I k)]) 2 (λfr=>Z2 [0,1,4,5,6] fr=[(0,vsA V),(1,I most),(4,.bot),(5,I n),(6,I i)]) (λfr=>get fr 4=.bool false) (λk=>rfl)
  (λk e he hP=>by
   have hg2:=Z6 (f:=λe=>evA e) he
   have hi':=Zh<|Z7 he;have hwr:=Zx (n:=k) (by have:=Z7 he;omega)
   have hF:=Z4z e;rw[hP]at hF;refine⟨_,by simp only[go_sem,c25L0b,hg1,hg2,hi',hwr,hF];rfl,?_⟩
   simp only[go_sem])
  (λk e he hP=>by
   have hg2:=Z6 (f:=λe=>evA e) he
   have hi':=Zh<|Z7 he;have hF:=Z4z e;rw[hP]at hF;refine⟨_,by simp only[go_sem,c25L0b,hg1,hg2,hi',hF];rfl,?_⟩
   simp only[go_sem])
  ⟨_,by simp only[go_sem,c25L0b,hg1,ZG];rfl,by simp only[go_sem]⟩
 rw[QE]at L;exact L
def ZAm(V:NL Ver)(most:Int)(hm:∀v∈V.l,v.bc.l.length<=140737488355328):pfn rE 25 [vsA V,I most]=some (.bool<|ZvT V.l most):=by
 have L:=QT (E:=rE) (live:=[0,1,5,6]) (b:=c25L1b) (h:=[]) (V.l.take 20) (ZvP V.l most) (λi=>[(0,vsA V),(1,I most),(5,I<|Zr8 V.l i),(6,I i)]) 0 (λfr=>get fr 0=vsA V) (λfr=>get fr 4=.bool false) (λi=>rfl)
  (λi v hx hP=>by
   obtain⟨hv,hi20⟩:V.l[i]?=some v/\i<20:=by
    have h1:=Z7 hx;rw[ZXX]at h1;rw[ZYK<|by omega]at hx
    exact⟨hx,by omega⟩
   have hlt:=Z7 hv;have hi':=Zh hlt;have h20:decide ((i:Int)<20)=true:=decide_eq_true<|by omega
   have hwr:=Zx (n:=i)<|by omega
   have hs:=Zwe hv;have hle:=Zx4 hm<|i+1;have hm1:=hm v<|ZXp hv;have hw2:IntKind.i64.wrap (((Zr8 V.l i:Nat):Int)+((v.bc.l.length:Nat):Int))=((Zr8 V.l (i+1):Nat):Int):=by
    rw[YM (by omega)<|by omega];omega
   have hg1:=Z6 (f:=Ver.enc) hv;have hev:v.enc=.agg [I v.Mv,I v.An,I v.At,.str v.Prev,.isl false v.bc.ex 18<|v.bc.l.map λe=>evA e,I v.Index,.isl false v.Sig.ex 1<|v.Sig.l.map encS,.isl false v.Path.ex 1<|v.Path.l.map encS]:=rfl
   rw[hev]at hg1;unfold ZvP at hP;rw[ZXf]at hP;have hd:decide (((Zr8 V.l (i+1):Nat):Int)>most)=false:=by simpa using hP.1
   obtain⟨fr',L0,h1,_⟩:=ZyG V most (Zr8 V.l<|i+1) v i hv hm1;rw[if_pos hP.2]at L0;have h1':=h1 hP.2;have L0':Zg rE [0,1,5,6,7] c25L0b [(0,vsA V),(1,I most),(5,I<|Zr8 V.l<|i+1),(6,I i),(7,.int .i64 0)] []=_:=L0;refine⟨_,by simp only[go_sem,c25L1b,c25L0,hg1,hi',h20,hwr,hw2,hd,L0',h1'];rfl,?_⟩
   simp only[go_sem])
  (λi v hx hP=>by
   obtain⟨hv,hi20⟩:V.l[i]?=some v/\i<20:=by
    have h1:=Z7 hx;rw[ZXX]at h1;rw[ZYK<|by omega]at hx
    exact⟨hx,by omega⟩
   have hlt:=Z7 hv;have hi':=Zh hlt;have h20:decide ((i:Int)<20)=true:=decide_eq_true<|by omega
   have hs:=Zwe hv;have hle:=Zx4 hm<|i+1;have hm1:=hm v<|ZXp hv;have hw2:IntKind.i64.wrap (((Zr8 V.l i:Nat):Int)+((v.bc.l.length:Nat):Int))=((Zr8 V.l (i+1):Nat):Int):=by
    rw[YM (by omega)<|by omega];omega
   have hg1:=Z6 (f:=Ver.enc) hv;have hev:v.enc=.agg [I v.Mv,I v.An,I v.At,.str v.Prev,.isl false v.bc.ex 18<|v.bc.l.map λe=>evA e,I v.Index,.isl false v.Sig.ex 1<|v.Sig.l.map encS,.isl false v.Path.ex 1<|v.Path.l.map encS]:=rfl
   rw[hev]at hg1;unfold ZvP at hP;cases hd:decide (((Zr8 V.l (i+1):Nat):Int)>most)with
   |true=>
    refine⟨_,by simp only[go_sem,c25L1b,c25L0,hg1,hi',h20,hw2,hd];rfl,?_⟩
    simp only[go_sem]
   |false=>
    have hP2:v.bc.l.all Xn=false:=by rw[hd]at hP;simpa using hP
    obtain⟨fr',L0,_,h2⟩:=ZyG V most (Zr8 V.l<|i+1) v i hv hm1;rw[hP2]at L0;have h2':=h2 hP2;have L0':Zg rE [0,1,5,6,7] c25L0b [(0,vsA V),(1,I most),(5,I<|Zr8 V.l<|i+1),(6,I i),(7,.int .i64 0)] []=some (.ret,fr',[]):=L0;refine⟨_,by simp only[go_sem,c25L1b,c25L0,hg1,hi',h20,hw2,hd,L0'];rfl,?_⟩
    simp only[go_sem,h2'])
  (by
   rw[ZXX];rcases ZYj V.l.length 20 with h|h
   .rw[Nat.min_eq_right<|by omega]
    exact⟨_,by simp only[go_sem,c25L1b,ZG];rfl,by simp only[go_sem]⟩
   .rw[ZYU h];have h20:decide (((20:Nat):Int)<20)=false:=rfl;cases c:decide (((20:Nat):Int)<((V.l.length:Nat):Int))with
    |true=>exact⟨_,by simp only[go_sem,c25L1b,c,h20];rfl,by simp only[go_sem]⟩
    |false=>exact⟨_,by simp only[go_sem,c25L1b,c];rfl,by simp only[go_sem]⟩)
 obtain⟨fr',L1,h0,h1⟩:=L;have L':Zg rE [0,1,5,6] c25L1b [(0,vsA V),(1,I most),(5,.int .i64 0),(6,.int .i64 0)] []=_:=L1;rw[Z5 (f:=25) rfl rfl];unfold ZvT;cases c:Zu (ZvP V.l most) 0 (V.l.take 20)with
 |true=>
  rw[c,if_pos rfl]at L';have h0':=h0 c;simp only[go_sem,c25,c25L1,L',h0']
 |false=>
  rw[c,if_neg ZZx]at L';have h1':=h1 c;simp only[go_sem,c25,c25L1,L',h1']
def ZAn(l:List Ver)(i:Nat):Zr8 l i<=Zr8 l l.length:=by
 unfold Zr8;rw[ZXG]
 conv=>rhs;rw[<-ZYe i l]
 rw[ZXx,List.sum_append];omega
def ZAp{l:List Ver}{v:Ver}(h:v∈l):v.bc.l.length<=Zr8 l l.length:=by
 obtain⟨i,hi⟩:=ZYv.1 h;have h1:=Zwe hi;have h2:=ZAn l<|i+1;omega
def ZyH(l:List Ver)(bq bp:Int):∀i,(Zr7 l bq bp i).length<=Zr8 l i
 |0=>ZXi _
 |i+1=>by
  have ih:=ZyH l bq bp i;unfold Zr7;rw[ZXy];cases hv:l[i]? with
  |none=>
   have:Zr8 l (i+1)=Zr8 l i:=by unfold Zr8;rw[ZYm,hv];simp
   show _+0<=_
   omega
  |some v=>
   have h1:=Zwe hv;have h2:=Zyu v bq i v.bc.l.length;show _+(bif Zvl l bp i v then Zr4 v bq i v.bc.l.length else []).length<=_
   cases Zvl l bp i v with
   |true=>rw[cond_true];omega
   |false=>rw[cond_false,ZXK];omega
def Zwf(l:List Ver)(bq bp:Int):(Zr3 l bq bp).length<=Zr8 l l.length:=by
 unfold Zr3;rw[(Zwc l _).length_eq];exact ZyH l bq bp l.length
structure FewS(l:List Ver):Prop where
 len:l.length<=20
 few:∀v∈l,∀e∈v.bc.l,Xn e=true
 sum:Zr8 l l.length<=16
def Zx5{l:List Ver}(h:ZvT l 16=true):FewS l:=by
 unfold ZvT at h;rw[ZXf]at h;have hl:l.length<=20:=by have:=of_decide_eq_true h.2;omega
 rw[ZXz hl]at h;have hA:∀(i:Nat)v,l[i]?=some v->ZvP l 16 i v=true:=λi v hv=>by
  have:=Zda.1 h.1 i v hv;simpa using this
 refine⟨hl,λv hv e he=>?_,?_⟩
 .obtain⟨i,hi⟩:=ZYv.1 hv;have:=hA i v hi;unfold ZvP at this;rw[ZXf]at this;exact ZXs.1 this.2 e he
 .rcases Nat.eq_zero_or_pos l.length with h0|h0
  .rw[h0];exact ZXi _
  .obtain⟨v,hv⟩:∃v,l[l.length-1]?=some v:=⟨_,ZXj<|by omega⟩
   have:=hA _ v hv;unfold ZvP at this;rw[ZXf,Nat.sub_add_cancel h0]at this;have h1:=of_decide_eq_false (by simpa using this.1:decide (((Zr8 l l.length:Nat):Int)>16)=false)
   omega
def FewS.vs{V:NL Ver}(h:FewS V.l):VsF V:=by
 refine⟨⟨by have:=h.len;omega,λv hv=>?_⟩,h.few⟩
 have h1:=ZAp hv;have h2:=h.sum;omega
def Zwg(V:NL Ver)(h:FewS V.l)(bq bp:Int):pfn rE 15 [vsA V,I bq,I bp]=some (.tup [stA (Zr5 V.l bq bp).1,.isl false false 1<|(Zr5 V.l bq bp).2.map I]):=by
 have h1:=Zwf V.l bq bp;have h2:=h.sum;exact ZyF V h.vs bq bp<|by omega
def ZOa(q:Int×Lab):AV:=.agg [I q.1,.str q.2.Ga,I q.2.bz,I q.2.Seen,I q.2.Home,.bool q.2.Back]
structure StOk(s:Sta):Prop where
 e:StE s
 rg:s.Fa.length<=400
 dr:s.Bc.length<=500
 fd:∀id,(ZOz s id).length<=1000
def dlF(ex bw b2:Bool)(l:List Off)(V:NL Ver)(C:List Int)(day:Int)(door:Str)(at':Int):Fr:=[(0,ofA ex l),(1,vsA V),(2,.isl bw b2 1<|C.map I),(5,I day),(7,.str door),(16,.ptr 0 0 0 1),(18,.ptr 1 0 0 1),(19,.mp 2),(20,.ptr 4 0 0 1),(21,.ptr 5 0 0 1),(22,I at')]
def dlH(ex b3 e3:Bool)(l:List Off)(os:List Ord)(p:Str)(day:Int)(st:Int->Sta)(K:List Int)(T:List<|Int×Lab)(x:Lab):Hp:=
 [.row 3 [.agg [.isl false false 6 [],I 0,.str emp]],.row 4 [.agg [ofA ex l,orA b3 e3 os,.str p,I day]],ksM st K,.row 6<|T.map ZOa,.row 3 [.agg [.sl 3 T.length 0 T.length false,I 0,.str emp]],.row 5 [x.enc]]
def ZO7(V:NL Ver)(day k:Int):Sta:=(Zr5 V.l day k).1
def ZVm(ex bw b2 b3 e3:Bool)(l:List Off)(hS:∀o∈l,OffS o)(V:NL Ver)(hV:FewS V.l)(C:List Int)(os:List Ord)(ho:os.length<=50000)(hos:∀o∈os,OrdS o)(p:Str)(hp:p.size<=1000)(day:Int)(door:Str)
 (hst:∀k,StOk<|ZO7 V day k) (at':Nat) (k:Int) (hk:C[at']?=some k) (K:List Int) (T:List<|Int×Lab) (hT:T.length<=100000) (x:Lab) (hx:x.Ga.size<=1000) (y:Lab) (hy:ZOo l (ZO7 V day k) os p day k x=y):
 ∃fr',Zb rE c6L0b (dlF ex bw b2 l V C day door at') (dlH ex b3 e3 l os p day (ZO7 V day) K T x) =
  some (bif (nxT l at' y.bz).2==0 then .normal else .exit 0,fr',dlH ex b3 e3 l os p day (ZO7 V day) (bif K.any (k==·)then K else K++[k]) (T++[((at':Int),y)]) y)/\
  Z2 [7,16,20,21] fr'=[(7,.str door),(16,.ptr 0 0 0 1),(20,.ptr 4 0 0 1),(21,.ptr 5 0 0 1)]/\
  ((nxT l at' y.bz).2=0->Z2 [0,1,2,5,7,16,18,19,20,21,22] fr'=dlF ex bw b2 l V C day door (nxT l at' y.bz).1):=by
 have h32:=ZVi ex b3 e3 l hS os ho hos p hp day (ZO7 V day k) (hst k).e (hst k).rg (hst k).dr k x hx<|(hst k).fd _;rw[hy]at h32;have h33:=ZV1 ex l hS at' y.bz;have h13:=Zwg V hV day k;have hg:=Z6 (f:=I) hk;have hn0:(0<=(at':Int))=True:=by simp
 have hn:((at':Int)).toNat=at':=rfl;have hap:=λ(r0 r1 r2 r4 r5:AObj)(ys:AV)(hy:fits 6 ys=true)=>XC (h:=[r0,r1,r2,.row 6<|T.map ZOa,r4,r5]) (fz:=false) (b:=3) (g:=T.length) (sz:=6) (es:=T.map ZOa) (bw:=false) (ex:=false) (ys:=[ys]) (bytes:=56) (by grind [rowAt]) rfl (by grind) (by omega) (by omega) (by grind)
 have hbT:∀n(T:List<|Int×Lab),Zd n (T.map ZOa)=true:=λn T=>ZN _<|Zw (λt=>rfl) T
 have hbK:∀n(K:List Int),Zj n (ksM (ZO7 V day) K)=true:=λn K=>by
  show(Zd n (K.map I)&&Zd n (K.map λk=>stA<|ZO7 V day k))=true
  rw[ZN _<|Zw (λt=>rfl) K,ZN _<|Zw (λt=>rfl) K];rfl
 have f0:∀(h:Hp)(n:Nat),freeze true h (n+1) (.isl true e3 6<|os.map Ord.enc)=some (.isl true e3 6<|os.map Ord.enc):=λh n=>rfl
 have g1:∀(h:Hp)(z:AV)(K:List Int),K.any (k==·)=true->h[2]?=some (ksM (ZO7 V day) K)->W5 h false [1] false z (.mp 2) (I k)=_:=λh z K c1 c=>ZVk (ZO7 V day) K k c z c1
 have g2:∀(h:Hp)(z:AV),h[2]?=some (ksM (ZO7 V day) K)->W5 h false [1] true z (.mp 2) (I k)=_:=λh z c=>ZVj (ZO7 V day) K k c z
 have g3:∀(h:Hp),K.any (k==·)=false->h[2]?=some (ksM (ZO7 V day) K)->YK h false [1] (.mp 2) (I k) (stA<|ZO7 V day k)=_:=λh c1 c=>ZVl (ZO7 V day) K k c c1
 have hK2:(K++[k]).any (k==·)=true:=by simp
 unfold ZO7 at*;generalize hs0:(Zr5 V.l day k).1=s at*;generalize nxT l at' y.bz=nx at*;obtain⟨n1,n2⟩:=nx;obtain⟨y1,y2,y3,y4,y5⟩:=y;obtain⟨x1,x2,x3,x4,x5⟩:=x;dsimp only at*;have hap:=λr0 r1 r2 r4 r5=>hap r0 r1 r2 r4 r5 (ZOa (at',⟨y1,y2,y3,y4,y5⟩)) rfl
 simp only[ZOa,Lab.enc,stA,orA,ofA]at h32 h33 hap g1 g2 g3 h13;unfold dlF dlH;simp only[ZOa,Lab.enc,orA,ofA];cases hin:K.any (k==·)with
 |true=>
  have g1:=λ(h:Hp)z=>g1 h z K hin
  simp only[hin,cond_true]at g2;cases c:n2==0 with
  |true=>
   cases b3<;>refine⟨_,by simp only[go_sem,c6L0b,hg,hn0,hn,g1,g2,h32,h33,hap,hbT,hbK,f0,c,ZXy,ZY7,ZXx,cond_true];rfl,?_⟩
   all_goals exact⟨rfl,λ_=>rfl⟩
  |false=>
   have c':¬n2=0:=beq_eq_false_iff_ne.1 c;cases b3<;>refine⟨_,by simp only[go_sem,c6L0b,hg,hn0,hn,g1,g2,h32,h33,hap,hbT,hbK,f0,c,ZXy,ZY7,ZXx,cond_true];rfl,?_⟩
   all_goals exact⟨rfl,λh=>absurd h c'⟩
 |false=>
  have g1:=λ(h:Hp)z=>g1 h z (K++[k]) hK2
  have g3:=λ(h:Hp)=>g3 h hin
  simp only[hin,cond_false]at g2;cases c:n2==0 with
  |true=>
   cases b3<;>refine⟨_,by simp only[go_sem,c6L0b,hg,hn0,hn,g1,g2,g3,h13,h32,h33,hap,hbT,hbK,f0,c,ZXy,ZY7,ZXx,cond_false];rfl,?_⟩
   all_goals exact⟨rfl,λ_=>rfl⟩
  |false=>
   have c':¬n2=0:=beq_eq_false_iff_ne.1 c;cases b3<;>refine⟨_,by simp only[go_sem,c6L0b,hg,hn0,hn,g1,g2,g3,h13,h32,h33,hap,hbT,hbK,f0,c,ZXy,ZY7,ZXx,cond_false];rfl,?_⟩
   all_goals exact⟨rfl,λh=>absurd h c'⟩
noncomputable def dlY(l:List Off)(V:NL Ver)(C:List Int)(os:List Ord)(p:Str)(day:Int)(a:Nat)(x:Lab):Lab:=ZOo l (ZO7 V day<|gI C a) os p day (gI C a) x
noncomputable def dlR(l:List Off)(V:NL Ver)(C:List Int)(os:List Ord)(p:Str)(day:Int):Nat->Nat->Lab->List (Int×Lab)
 |0,_,_=>[]
 |n+1,a,x=>((a:Int),dlY l V C os p day a x)::bif (nxT l a (dlY l V C os p day a x).bz).2==0 then dlR l V C os p day n (nxT l a (dlY l V C os p day a x).bz).1.toNat (dlY l V C os p day a x)else []
noncomputable def dlZ(l:List Off)(V:NL Ver)(C:List Int)(os:List Ord)(p:Str)(day:Int):Nat->Nat->Lab->Lab
 |0,_,x=>x
 |n+1,a,x=>bif (nxT l a (dlY l V C os p day a x).bz).2==0 then dlZ l V C os p day n (nxT l a (dlY l V C os p day a x).bz).1.toNat (dlY l V C os p day a x)else dlY l V C os p day a x
def ZQP{l:List Off}{s:Sta}:∀{D:List Str}{i:Nat}{q:Nat×Str},pkT l s D i=some q->ZOW l s q.2=true/\q.2∈D
 |d::r,i,q,h=>by
  unfold pkT at h;by_cases c:ZOW l s d=true
  .grind
  .rw[if_neg c]at h;have:=ZQP h;exact⟨this.1,ZY2 _ this.2⟩
def ZSP{d:Str}(h:ZOv d=true):d.size<=12:=by grind [ZOv]
def ZSQ{l:List Off}{s:Sta}{d:Str}(h:ZOW l s d=true):ZOv d=true/\(ZOj l s d).2=0:=by grind [ZOW]
def ZPB(l:List Off)(s:Sta)(os:List Ord)(p:Str)(d k:Int)(x:Lab):
 (k<=x.Seen/\ZOo l s os p d k x=x)\/(x.Seen<k/\(ZOo l s os p d k x).Seen=k/\(ZOo l s os p d k x).Home=x.Home/\
  ((ZOo l s os p d k x=⟨x.Ga,x.Home,k,x.Home,true⟩/\pkT l s (ZOz s<|ZOM os p x.Ga d) 0=none)\/
   ∃q,pkT l s (ZOz s<|ZOM os p x.Ga d) 0=some q/\ZOo l s os p d k x=⟨q.2,(ZOj l s q.2).1,k,x.Home,false⟩)):=by grind [ZOo]
def ZVn{l:List Off}{s:Sta}{os:List Ord}{p:Str}{d k:Int}{x:Lab}(hx:x.Ga.size<=1000):(ZOo l s os p d k x).Ga.size<=1000:=by
 rcases ZPB l s os p d k x with⟨_,h⟩|⟨_,_,_,⟨h,_⟩|⟨q,h1,h⟩⟩
 .grind
 .grind
 .have:=ZSP (ZSQ (ZQP h1).1).1
  grind
noncomputable def dlM(l:List Off)(C:List Int)(a:Nat)(x:Lab):Nat:=
 66*(C.filter λk=>decide (x.Seen<k)).length+(if 0<=x.bz/\x.bz<l.length then(gI (spD l x.bz.toNat) a).toNat else 0)
def ZVo{l:List Off}{a:Nat}{b:Int}(h:(nxT l a b).2=0):∃c:Nat,b=c/\c<l.length/\a<l.length/\a≠c/\(nxT l a b).1=(ZP2 l a c:Int):=by
 unfold nxT at h⊢;cases c1:ZOE l [(a:Int),b]with
 |false=>grind
 |true=>
  rw[c1]at h;obtain⟨⟨_,h1⟩,⟨h2,h3⟩,_⟩:=ZQK c1;cases c2:((a:Int)==b)with
  |true=>grind
  |false=>
   have:=beq_eq_false_iff_ne.1 c2;refine⟨b.toNat,by omega,by omega,by omega,by omega,rfl⟩
def filter_lt{α:Type}(P Q:α->Bool):∀(C:List α)(i:Nat)(k:α),C[i]?=some k->(∀x,Q x=true->P x=true)->P k=true->Q k=false->(C.filter Q).length<(C.filter P).length
 |x::r,0,k,hk,hQ,h1,h2=>by
  cases hk;rw[List.filter_cons_of_pos h1,List.filter_cons_of_neg (by grind),ZXw]
  have:(r.filter Q).length<=(r.filter P).length:=by
   induction r with
   |nil=>grind
   |cons y r ih=>
    grind
  omega
 |x::r,i+1,k,hk,hQ,h1,h2=>by
  have ih:=filter_lt P Q r i k hk hQ h1 h2
  grind
def ZSR{l:List Off}(hl:VaS l)(V:NL Ver)(C:List Int)(hC:C.length=l.length)(os:List Ord)(p:Str)(day:Int){a:Nat}{x:Lab}(h:(nxT l a (dlY l V C os p day a x).bz).2=0):
 ∃b:Nat,(nxT l a (dlY l V C os p day a x).bz).1=b/\b<l.length/\a<l.length/\b∈lkN l a/\dlM l C b (dlY l V C os p day a x)<dlM l C a x:=by
 obtain⟨c,h1,h2,h3,h4,h5⟩:=ZVo h;obtain⟨n1,n2⟩:=hl.nxt h3 h2 h4;have hb:=(ZOR hl.lk n1);refine⟨_,h5,hb,h3,n1,?_⟩;have d1:=hl.all h2 h3;have d2:=hl.all h2 hb;have e:∀z:Nat,dlM l C z (dlY l V C os p day a x)=66*(C.filter λk=>decide ((dlY l V C os p day a x).Seen<k)).length+(gI (spD l c) z).toNat:=by
  simp_all[dlM]
 have hg:=ZPw (D:=C) (v:=a)<|by omega
 rcases ZPB l (ZO7 V day<|gI C a) os p day (gI C a) x with⟨_,hy⟩|⟨h6,h7,_⟩
 .grind [dlY]
 .have h7:(dlY l V C os p day a x).Seen=gI C a:=h7;rw[e,h7];have:=filter_lt (λk=>decide (x.Seen<k)) (λk=>decide (gI C a<k)) C a _ hg (λk hk=>by grind) (decide_eq_true h6) (by simp)
  grind [dlM]
def ZSS(ex bw b2 b3 e3:Bool)(l:List Off)(hS:∀o∈l,OffS o)(hl:VaS l)(V:NL Ver)(hV:FewS V.l)(C:List Int)(hC:C.length=l.length)(os:List Ord)(ho:os.length<=50000)(hos:∀o∈os,OrdS o)(p:Str)(hp:p.size<=1000)(day:Int)(door:Str)
 (hst:∀k,StOk<|ZO7 V day k):∀(n a:Nat)(x:Lab)(K:List Int)(T:List<|Int×Lab),dlM l C a x<n->a<l.length->T.length+n<=100000->x.Ga.size<=1000->
 ∃fr' K',Zg rE [0,1,2,5,7,16,18,19,20,21,22] c6L0b (dlF ex bw b2 l V C day door a) (dlH ex b3 e3 l os p day (ZO7 V day) K T x) =
  some (.exit 0,fr',dlH ex b3 e3 l os p day (ZO7 V day) K' (T++dlR l V C os p day n a x)<|dlZ l V C os p day n a x)/\
  Z2 [7,16,20,21] fr'=[(7,.str door),(16,.ptr 0 0 0 1),(20,.ptr 4 0 0 1),(21,.ptr 5 0 0 1)]
 |0,_,_,_,_,h,_,_,_=>absurd h<|ZYT _
 |n+1,a,x,K,T,hm,ha,hT,hx=>by
  have hk:=ZPw (D:=C) (v:=a)<|by omega
  obtain⟨fr',r1,r2,r3⟩:=ZVm ex bw b2 b3 e3 l hS V hV C os ho hos p hp day door hst a _ hk K T (by omega) x hx (dlY l V C os p day a x) rfl
  unfold dlR dlZ;cases c:(nxT l a (dlY l V C os p day a x).bz).2==0 with
  |false=>
   rw[c,cond_false]at r1;exact⟨fr',_,Q7 (by rfl) r1 (by simp),r2⟩
  |true=>
   rw[c,cond_true]at r1;have c':=eq_of_beq c;obtain⟨b,s1,s2,_,_,s4⟩:=ZSR hl V C hC os p day c';have r3:=r3 c';rw[s1]at r3⊢;obtain⟨fr2,K2,i1,i2⟩:=ZSS ex bw b2 b3 e3 l hS hl V hV C hC os ho hos p hp day door hst n b (dlY l V C os p day a x) (bif K.any (gI C a==·)then K else K++[gI C a]) (T++[((a:Int),dlY l V C os p day a x)]) (by omega) s2 (by grind)<|ZVn hx
   rw[ZY0]at i1;refine⟨fr2,K2,?_,i2⟩;rw[Yt (by rfl) r1,r3,i1]
   rfl
noncomputable def ZQc(l:List Off)(C:List Int)(os:List Ord)(p:Str)(day home:Int)(door:Str):Bool:=
 ZOs l C&&((dyB day&&(ZOK os&&ZOe p))&&(!decide (home<0)&&(!decide (home>=(l.length:Int))&&ZOv door)))
def ZOw(home:Int)(door:Str):Lab:=⟨door,home,-1,home,false⟩
def dlK(door:Str)(y:Lab):Int:=bif y.Back then 3 else bif Z3 y.Ga door then 1 else 2
def dlD(y:Lab):Str:=bif y.Back then emp else y.Ga
def dlA(T:List<|Int×Lab)(k:Int)(d:Str):AV:=.agg [.isl false false 6<|T.map ZOa,I k,.str d]
noncomputable def ZQQ(l:List Off)(V:NL Ver)(C:List Int)(os:List Ord)(p:Str)(day home:Int)(door:Str):List (Int×Lab):=dlR l V C os p day 10000 home.toNat<|ZOw home door
noncomputable def ZQR(l:List Off)(V:NL Ver)(C:List Int)(os:List Ord)(p:Str)(day home:Int)(door:Str):Lab:=dlZ l V C os p day 10000 home.toNat<|ZOw home door
noncomputable def ZPT(l:List Off)(V:NL Ver)(C:List Int)(os:List Ord)(p:Str)(day home:Int)(door:Str):AV:=
 bif ZQc l C os p day home door then .tup [dlA (ZQQ l V C os p day home door) (dlK door<|ZQR l V C os p day home door)<|dlD<|ZQR l V C os p day home door,I 0]else .tup [dlA [] 0 emp,I 1]
def ZST{l:List Off}(hl:VaS l)(C:List Int)(hC:C.length=l.length)(a:Nat)(ha:a<l.length)(x:Lab):dlM l C a x<10000:=by
 unfold dlM;have h1:=ZYt (λk=>decide (x.Seen<k)) C
 have h2:=hl.l64;split
 .next h=>
  have:=hl.all (f:=x.bz.toNat) (v:=a) (by omega) ha
  omega
 grind
set_option maxHeartbeats 4000000 in
def ZVp(ex bw b2 b3 e3:Bool)(l:List Off)(hv:pfn rE 30 [ofA ex l]=some (.bool<|ZO5 l))(hS:ZO5 l=true->∀o∈l,OffS o)(V:NL Ver)(hV:FewS V.l)(C:List Int)(hC:C.length<=1000000)(os:List Ord)(ho:os.length<=50000)(hos:∀o∈os,OrdS o)(p:Str)(hp:p.size<=1000)(day home:Int)(door:Str)
 (hst:∀k,StOk<|ZO7 V day k):pfn rE 6 [ofA ex l,vsA V,.isl bw b2 1<|C.map I,orA b3 e3 os,.str p,I day,I home,.str door]=some (ZPT l V C os p day home door):=by
 have h29:=ZSL ex bw b2 l hv C hC;have h30:=ZVe b3 e3 os ho hos p hp day;have h31:=ZSI door;unfold ZPT ZQc;have f0:∀(h:Hp)(n:Nat),freeze true h (n+1) (.isl true b2 1<|C.map I)=some (.isl true b2 1<|C.map I):=λh n=>rfl
 have f1:∀(h:Hp)(n:Nat),freeze true h (n+1) (.isl true e3 6<|os.map Ord.enc)=some (.isl true e3 6<|os.map Ord.enc):=λh n=>rfl
 simp only[orA,ofA]at h29 h30⊢;rw[Z5 (f:=6) rfl rfl];cases c1:ZOs l C with
 |false=>
  rw[c1]at h29;cases bw<;>simp only[go_sem,c6,h29,f0,ZXm,cond_false]<;>rfl
 |true=>
  rw[c1]at h29;cases c2:(dyB day&&(ZOK os&&ZOe p))with
  |false=>
   rw[c2]at h30;cases bw<;>cases b3<;>simp only[go_sem,c6,h29,h30,f0,f1,ZXm,ZXk,cond_false]<;>rfl
  |true=>
   rw[c2]at h30;cases c3:decide (home<0)with
   |true=>cases bw<;>cases b3<;>simp only[go_sem,c6,h29,h30,f0,f1,c3,ZXq,ZXm,ZXk,cond_false]<;>rfl
   |false=>
    cases c5004:decide (home>=(l.length:Int))with
    |true=>cases bw<;>cases b3<;>simp only[go_sem,c6,h29,h30,f0,f1,c3,c5004,ZXg,ZXq,ZXv,ZXm,ZXk,cond_false]<;>rfl
    |false=>
     cases c5005:ZOv door with
     |false=>
      rw[c5005]at h31;cases bw<;>cases b3<;>simp only[go_sem,c6,h29,h30,h31,f0,f1,c3,c5004,ZXg,ZXq,ZXv,ZXm,ZXk,cond_false]<;>rfl
     |true=>
      rw[c5005]at h31;have d3:=of_decide_eq_false c3;have d4:=of_decide_eq_false c5004;obtain⟨a,rfl⟩:∃a:Nat,home=a:=⟨home.toNat,by omega⟩
      have c1':=c1;unfold ZOs at c1';simp only[ZXf,beq_iff_eq]at c1';have hS:=hS c1'.1;have hl:=ZPx hS c1'.1;have hC':C.length=l.length:=by omega
      obtain⟨fr',K',l1,l2⟩:=ZSS ex bw b2 b3 e3 l hS hl V hV C hC' os ho hos p hp day door hst 10000 a (ZOw a door) [] [] (ZST hl C hC' a (by omega) _) (by omega) (by simp) (by have:=ZSP c5005;show door.size<=1000;omega)
      have hz:ZQR l V C os p day a door=dlZ l V C os p day 10000 a (ZOw a door):=rfl;have ht:ZQQ l V C os p day a door=dlR l V C os p day 10000 a (ZOw a door):=rfl;rw[hz,ht];generalize dlZ l V C os p day 10000 a (ZOw a door)=y at*;generalize dlR l V C os p day 10000 a (ZOw a door)=T at*;have hcT:Z4 (T.map ZOa)=true:=Zw (λt=>rfl) _
      have htk:List.take T.length (T.map ZOa)=T.map ZOa:=ZXz<|by simp
      have hK:ksM (ZO7 V day) []=.map [] []:=rfl;obtain⟨y1,y2,y3,y4,y5⟩:=y;unfold dlA dlK dlD;simp only[dlF,dlH,ZOw,Lab.enc,orA,ofA,ZXD,ZXK,ZXo,hK]at l1;dsimp only;cases y5 with
      |true=>cases bw<;>cases b3<;>simp only[go_sem,put,c6,c6L0,h29,h30,h31,f0,f1,c3,c5004,l1,l2,hcT,htk,ZXS,beq_self_eq_true,ZXg,ZXq,ZXv,ZXk,cond_true]
      |false=>
       cases c5007:Z3 y1 door with
       |true=>cases bw<;>cases b3<;>simp only[go_sem,put,c6,c6L0,h29,h30,h31,f0,f1,c3,c5004,c5007,l1,l2,hcT,htk,ZXS,beq_self_eq_true,ZXg,ZXq,ZXv,ZXk,cond_true,cond_false]
       |false=>cases bw<;>cases b3<;>simp only[go_sem,put,c6,c6L0,h29,h30,h31,f0,f1,c3,c5004,c5007,l1,l2,hcT,htk,ZXS,beq_self_eq_true,ZXg,ZXq,ZXv,ZXk,cond_true,cond_false]
end Go.AM
