/- What the functions of the program compute, part 2, for TicketKnows. No condition. -/
import Derived.Test.YtnjibjdmniajjaaGreatDoorP5a
import Derived.Test.YtnjibjdmniajjaaGreatDoorQ5
set_option linter.unusedVariables false
set_option linter.defProp false
set_option linter.unusedSimpArgs false
set_option linter.unusedSectionVars false
open Nat renaming reduceAdd → qq, reduceSub → qx, reduceMul → qz, reduceLT → qv, reduceLeDiff → qk, reduceBEq → qy
namespace Go.AM
open Go
def Zwa(a b:Int):Int:=bif decide (a<b)then -1 else bif decide (a>b)then 1 else 0
def orL:List Int->Int
 |[]=>0
 |a::r=>bif a != 0 then a else orL r
def Zyp:∀a b:List Int,a.length=b.length->orL (List.zipWith Zwa a b)=cmpL a b
 |[],[],_=>rfl
 |[],_::_,h=>by cases h
 |_::_,[],h=>by cases h
 |a::r,b::s,h=>by
  have ih:=Zyp r s<|by simpa using h
  have e1:lexB (a::r) (b::s)=(decide (a<b)||(a==b&&lexB r s)):=rfl;have e2:lexB (b::s) (a::r)=(decide (b<a)||(b==a&&lexB s r)):=rfl;rw[List.zipWith_cons_cons,orL,ih];unfold cmpL Zwa;rw[e1,e2];by_cases h1:a<b
  .simp[h1]
  .by_cases h2:b<a
   .have h4:(a==b)=false:=by simpa using(by omega:¬a=b)
    simp[h1,h2,h4]
   .have h4:a=b:=by omega
    subst h4;simp
def Zyq(a:Int):pfn e0 124 [I a]=some (.bool false):=by
 have hn:(a != a)=false:=by simp
 rw[Z5 (f:=124) rfl rfl];simp only[go_sem,c124,hn]
def Zwb(a b:Int):pfn e0 68 [I a,I b]=some (I<|Zwa a b):=by
 have h1:=Zyq a;have h2:=Zyq b;unfold Zwa;rw[Z5 (f:=68) rfl rfl];cases c:decide (a<b)with
 |true=>simp only[go_sem,c68,h1,h2,c]
 |false=>cases c2:decide (a>b)<;>simp only[go_sem,c68,h1,h2,c,c2]
def ZA7(l:List Int)(hl:l.length<=1000):pfn e0 67 [.isl false false 1<|l.map I]=some (I<|orL l):=by
 obtain⟨e,fr',h',L,hh,hQ⟩:=Z9Y (E:=e0) (live:=[3,6,7,8]) (b:=c67L0b) l.length
  (λi fr h=>fr=[(3,I 0),(6,.isl false false 1<|l.map I),(7,I l.length),(8,I i)]/\h=[]/\orL l=orL (l.drop i))
  (λe fr h=>h=[]/\((e=.exit 0/\get fr 3=I 0/\orL l=0)\/(e=.ret/\get fr 2=I (orL l))))
  (λi fr h m=>by obtain⟨rfl,_,_⟩:=m;rfl)
  (λi fr h hi m=>by
   obtain⟨rfl,rfl,ho⟩:=m;obtain⟨x,hx⟩:∃x,l[i]?=some x:=⟨_,ZSb hi⟩;have hg:=Z6 (f:=I) hx;have hi':=Zh hi;have hwr:=Zx (n:=i)<|by omega
   have hd:l.drop i=x::l.drop (i+1):=by
    rw[ZTu hi,(ZS7.1 hx).2]
   rw[hd,orL]at ho;cases c:x != 0 with
   |true=>
    rw[c,cond_true]at ho;refine Or.inr ⟨.ret,_,[],by simp only[go_sem,c67L0b,hg,hi',c];rfl,by simp,rfl,Or.inr ⟨rfl,?_⟩⟩
    rw[ho];simp only[go_sem]
   |false=>
    rw[c,cond_false]at ho;refine Or.inl ⟨_,[],by simp only[go_sem,c67L0b,hg,hi',hwr,c];rfl,?_,rfl,ho⟩
    simp only[go_sem])
  (λfr h m=>by
   obtain⟨rfl,rfl,ho⟩:=m;rw[List.drop_length]at ho;refine⟨.exit 0,_,[],by simp only[go_sem,c67L0b,ZG];rfl,by simp,rfl,Or.inl ⟨rfl,?_,ho⟩⟩
   simp only[go_sem])
  l.length 0 [(3,I 0),(6,.isl false false 1<|l.map I),(7,I l.length),(8,.int .i64 0)] [] (by omega) ⟨rfl,rfl,rfl⟩
 subst hh;rw[Z5 (f:=67) rfl rfl];rcases hQ with⟨rfl,h3,ho⟩|⟨rfl,h2⟩
 .simp only[go_sem,c67,c67L0,L,h3,ho]
 .simp only[go_sem,c67,c67L0,L,h2]
def Zyr{caps:List AV}{x:AV}{k:List Int}(h:ZvF caps x=some k):∃bw b2 ex vs,caps=[.iptr bw [.isl b2 ex 8 vs]]/\∃(i kk:Nat)(au nu at' n5 day:Int)(s3:Str)(b3 ex3 b6 ex6 b7 ex7:Bool)(z6 z7:Nat)(es l6 l7 cs:List AV)(e1:AV),
 x=.agg [I i,I kk]/\vs[i]?=some (.agg [I au,I nu,I at',.str s3,.isl b3 ex3 18 es,I n5,.isl b6 ex6 z6 l6,.isl b7 ex7 z7 l7])/\es[kk]?=some (.agg<|e1::I day::cs)/\k=[day,at',au,nu,(kk:Int)]:=by
 unfold ZvF at h;split at h
 .rename_i bw b2 ex vs i kk;cases c1:decide (0<=i)&&decide (0<=kk)with
  |false=>rw[c1]at h;cases h
  |true=>
  rw[c1,cond_true]at h;simp only[ZS5,decide_eq_true_eq]at c1;obtain⟨n,rfl⟩:∃n:Nat,i=n:=⟨i.toNat,by omega⟩
  obtain⟨m,rfl⟩:∃m:Nat,kk=m:=⟨kk.toNat,by omega⟩
  simp only[Int.toNat_natCast]at h;split at h
  .rename_i hv;split at h
   .rename_i he;cases h;exact⟨_,_,_,_,rfl,n,m,_,_,_,_,_,_,_,_,_,_,_,_,_,_,_,_,_,_,_,rfl,hv,he,rfl⟩
   .cases h
  .cases h
 .cases h
def ZA8(caps:List AV)(x y:AV)(kx ky:List Int)(hx:ZvF caps x=some kx)(hy:ZvF caps y=some ky):∃h',fnV e0 66 ([x,y]++caps) []=some (.int .i64<|cmpL kx ky,h'):=by
 obtain⟨bw,b2,ex,vs,rfl,i,k,au,nu,at',n5,day,s3,b3,ex3,b6,ex6,b7,ex7,z6,z7,es,l6,l7,cs,e1,rfl,hv,he,rfl⟩:=Zyr hx;obtain⟨bw',b2',ex',vs',heq,i',k',au',nu',at2,n5',day',s3',b3',ex3',b6',ex6',b7',ex7',z6',z7',es',l6',l7',cs',e1',rfl,hv',he',rfl⟩:=Zyr hy;cases heq;have q1:=Zwb day day';have q2:=Zwb at' at2;have q3:=Zwb au au';have q4:=Zwb nu nu';have q5:=Zwb (k:Int) (k':Int);have q6:=ZA7 (List.zipWith Zwa [day,at',au,nu,(k:Int)] [day',at2,au',nu',(k':Int)])<|by simp
 have q7:=Zyp [day,at',au,nu,(k:Int)] [day',at2,au',nu',(k':Int)] rfl;rw[q7]at q6;clear q7;simp only[List.zipWith_cons_cons,List.zipWith_nil_right,ZS9,ZSA]at q6;generalize cmpL _ _=r at*;have z0:((0:Int)<=0/\(0:Int)<((2:Nat):Int))=True:=by simp
 have z1:((0:Int)<=1/\(1:Int)<((2:Nat):Int))=True:=by simp
 have t0:Int.toNat 0*1=0:=rfl;have t1:Int.toNat 1*1=1:=rfl;rw[Q6 (f:=66) rfl rfl];refine⟨_,by simp only[go_sem,c66,ZSr,ZT1,hv,he,hv',he',q1,q2,q3,q4,q5,q6,z0,z1,t0,t1,if_true];rfl⟩
variable [REdz]
structure Ver where
 Mv:Int
 An:Int
 At:Int
 Prev:Str
 bc:NL Gt
 Index:Int
 Sig:NL Str
 Path:NL Str
def Ver.enc(v:Ver):AV:=.agg [I v.Mv,I v.An,I v.At,.str v.Prev,.isl false v.bc.ex 18<|v.bc.l.map evA,I v.Index,.isl false v.Sig.ex 1<|v.Sig.l.map encS,.isl false v.Path.ex 1<|v.Path.l.map encS]
abbrev vsA(l:NL Ver):AV:=.isl false l.ex 8<|l.l.map Ver.enc
def plA(p:Int×Int):AV:=.agg [I p.1,I p.2]
def Zvh(p q:Int×Int):Bool:=p.1==q.1&&(p.2==q.2&&true)
def Zys(x y:Int×Int):Zz true [1,1] (plA x) (plA y)=some (Zvh x y):=by
 unfold plA Zvh;simp only[go_sem]
def prA(p:Nat×Nat):AV:=.agg [I p.1,I p.2]
def ZvS(v:Ver)(bq:Int)(k:Nat):Bool:=match v.bc.l[k]? with|some e=>decide (e.Day<=bq)|none=>false
def Zr4(v:Ver)(bq:Int)(i n:Nat):List (Nat×Nat):=((List.range n).filter (ZvS v bq)).map (λk=>(i,k))
def Zvn(l:List Ver)(i:Nat):List (Int×Int):=(l.take i).foldl (λK v=>Qi Zvh K (v.Mv,v.An)) []
def Zvl(l:List Ver)(bp:Int)(i:Nat)(v:Ver):Bool:=!((Zvn l i).any (Zvh (v.Mv,v.An)))&&!decide (v.At>bp)
def Zr7(l:List Ver)(bq bp:Int):Nat->List (Nat×Nat)
 |0=>[]
 |i+1=>Zr7 l bq bp i++(match l[i]? with|some v=>bif Zvl l bp i v then Zr4 v bq i v.bc.l.length else []|none=>[])
abbrev Zvq(V:NL Ver)(bq bp:Int):Fr:=[(3,.iptr false [vsA V]),(6,.isl false false 2 []),(7,.ptr 1 0 0 1),(12,.clo (.func 121) [] [.iptr false [vsA V],.iptr false [I bp],.iptr false [I bq]])]
abbrev hiH(V:NL Ver)(bq bp:Int)(es:List AV)(K:List<|Int×Int):Hp:=[.row 2 es,.row 1 [.sl 0 es.length 0 es.length false],.loop .ready .normal (Zvq V bq bp) [13] c37R0a c37R0b,.map (K.map plA)<|ZO K.length]
def ZA9(es:List AV)(x:AV)(hx:fits 2 x=true)(hl:es.length<=100000)(r:List AObj):appW (.row 2 es::r) false 2 16 (.sl 0 es.length 0 es.length false) (.isl false false 2 [x])=some (.sl 0 (es.length+1) 0 (es.length+1) false,.row 2 (es++[x])::r):=by
 have:=XC (h:=.row 2 es::r) (fz:=false) (b:=0) (g:=es.length) (sz:=2) (bytes:=16) (es:=es) (bw:=false) (ex:=false) (ys:=[x]) (by simp[rowAt]) rfl (by simp[hx]) (by decide) (by decide) (by simp;omega)
 rw[this];rfl
def ZAa(V:NL Ver)(bq bp:Int)(es:List AV)(K:List<|Int×Int)(i k:Nat)(r4 r5 r6:AObj)(h4:∀n,Zj n r4=true)(h5:∀n,Zj n r5=true)(h6:∀n,Zj n r6=true)(hc:Z4 es=true)(hl:es.length<=100000):
 U4 rE 2 [.agg [I i,I k]] (hiH V bq bp es K++[r4,r5,r6])=some (.bool true,hiH V bq bp (es++[prA (i,k)]) K++[r4,r5,r6,.row 2 [.agg [I i,I k]]]):=by
 have hA:=λr=>ZA9 es (.agg [I i,I k]) rfl hl r
 have hbe:∀n,Zd n es=true:=λn=>ZN _ hc
 have hbe2:∀n,Zd n (es++[.agg [I i,I k]])=true:=λn=>by rw[Z0T,hbe];rfl
 have hbK:∀n,Zd n (K.map plA)=true/\Zd n (ZO K.length)=true:=λn=>⟨ZN _<|Zw (λt=>rfl) K,ZN _<|Ut _⟩
 have hfr:∀n,2<=n->Zd n (frV<|Zvq V bq bp)=true:=λn hn=>by
  have:Nat.blt 1 n=true:=by simp;omega
  simp only[go_sem,this]
 have q3:=hfr 8<|by decide
 have hr7:∀n,Zj n (.row 2 [.agg [I i,I k]])=true:=λn=>rfl
 have h:=Ss (E:=rE) (b:=2) (args:=[.agg [I i,I k]]) (h:=hiH V bq bp es K++[r4,r5,r6]) (fr:=Zvq V bq bp) (ps:=[13]) (assign:=c37R0a) (body:=c37R0b)
  (fr0:=(13,.agg [I i,I k])::Zvq V bq bp) rfl rfl (by simp only[go_sem,c37R0a,hiH,Zvq];rfl) (by rfl)
  (e:=.normal) (fr2:=[]) (h2:=[.row 2<|es++[.agg [I i,I k]],.row 1 [.sl 0 (es.length+1) 0 (es.length+1) false],.loop .busy .normal (Zvq V bq bp) [13] c37R0a c37R0b,.map (K.map plA)<|ZO K.length,r4,r5,r6,.row 2 [.agg [I i,I k]]])
  (by
   show Zb rE c37R0b [(8,.ptr 7 0 0 1),(13,.agg [I i,I k]),(3,.iptr false [vsA V]),(6,.isl false false 2 []),(7,.ptr 1 0 0 1),(12,.clo (.func 121) [] [.iptr false [vsA V],.iptr false [I bp],.iptr false [I bq]])]
    [.row 2 es,.row 1 [.sl 0 es.length 0 es.length false],.loop .busy .normal (Zvq V bq bp) [13] c37R0a c37R0b,.map (K.map plA)<|ZO K.length,r4,r5,r6,.row 2 [.agg [I i,I k]]]=_
   simp only[go_sem,c37R0b,hA,hbe2,hbK,h4,h5,h6,hr7]) (by rfl)
 rw[h];simp only[hiH,ZSM,ZU5];rfl
abbrev hiF(V:NL Ver)(bq bp:Int)(v:Ver)(i k:Nat):Fr:=[(0,.yld 2),(2,.iptr false [I bp]),(3,.iptr false [I bq]),(5,.mp 3),(6,I i),(13,vsA V),(14,I V.l.length),(15,I i),(40,.isl false v.bc.ex 18<|v.bc.l.map evA),(41,I v.bc.l.length),(42,I k)]
def ZAb(v:Ver)(bq:Int)(i k:Nat){e:Gt}(he:v.bc.l[k]?=some e):Zr4 v bq i (k+1)=Zr4 v bq i k++(bif decide (e.Day<=bq)then [(i,k)]else []):=by
 unfold Zr4;rw[List.range_succ,List.filter_append,ZTs];congr 1;have h:ZvS v bq k=decide (e.Day<=bq):=by unfold ZvS;rw[he]
 rw[List.filter_cons,h];cases decide (e.Day<=bq)<;>rfl
def ZwW(e:Gt):Z4 [evA e]=true:=by
 have h1:Z4 (e.Ids.l.map encS)=true:=Zw (λt=>rfl) _
 have h2:Z4 (e.bm.l.map Nm.enc)=true:=Zw (λt=>rfl) _
 have h3:Z4 (e.Path.l.map Pt.enc)=true:=Zw (λt=>rfl) _
 have h4:Z4 (e.Lst.l.map Ent.enc)=true:=Zw (λt=>rfl) _
 simp only[go_sem]
def ZAc(V:NL Ver)(bq bp:Int)(v:Ver)(i:Nat)(hi:V.l[i]?=some v)(L:List<|Nat×Nat)(K:List<|Int×Int)(r4 r5:AObj)(h4:∀n,Zj n r4=true)(h5:∀n,Zj n r5=true)(hl:L.length+v.bc.l.length<=10000):
 Zg rE [0,2,3,5,6,13,14,15,40,41,42] c121L0b (hiF V bq bp v i 0) (hiH V bq bp (L.map prA) K++[r4,r5]) =
  some (.exit 2,hiF V bq bp v i v.bc.l.length,hiH V bq bp ((L++Zr4 v bq i v.bc.l.length).map prA) K++[r4,r5]):=by
 have hlen:∀k,(Zr4 v bq i k).length<=k:=λk=>by
  unfold Zr4;rw[ZSf];exact ZSC (List.length_filter_le _ _)<|by simp
 have hbK:∀n,Zd n (K.map plA)=true/\Zd n (ZO K.length)=true:=λn=>⟨ZN _<|Zw (λt=>rfl) K,ZN _<|Ut _⟩
 have hfr:∀n,2<=n->Zd n (frV<|Zvq V bq bp)=true:=λn hn=>by
  have:Nat.blt 1 n=true:=by simp;omega
  simp only[go_sem,this]
 have hbP:∀(M:List<|Nat×Nat)n,Zd n (M.map prA)=true:=λM n=>ZN _<|Zw (λt=>rfl) M
 have L0:=Y8 (E:=rE) (live:=[0,2,3,5,6,13,14,15,40,41,42]) (b:=c121L0b) v.bc.l.length (λk=>hiF V bq bp v i k) (λk=>hiH V bq bp ((L++Zr4 v bq i k).map prA) K++[r4,r5]) (λk=>rfl)
  (λk hk=>by
   obtain⟨e,he⟩:∃e,v.bc.l[k]?=some e:=⟨_,ZSb hk⟩;have hg:=Z6 (f:=λe=>evA e) he
   have hi':=Zh hk;have hwr:=Zx (n:=k)<|by omega
   have hb6:∀n,Zj n (.row 18 [evA e])=true:=λn=>ZN (n:=n) [evA e]<|ZwW e
   have hr7:∀n,Zj n (.row 2 [.agg [I i,I k]])=true:=λn=>rfl
   have hq:=λm=>hfr m
   rw[ZAb v bq i k he];have hy:=ZAa V bq bp ((L++Zr4 v bq i k).map prA) K i k r4 r5 (.row 18 [evA e]) h4 h5 hb6 (Zw (λt=>rfl) _) (by rw[ZSf,ZSM];have:=hlen k;omega)
   have q6:=hfr 6<|by decide
   have q7:=hfr 7<|by decide
   have hP:=hbP<|L++Zr4 v bq i k;refine⟨hiF V bq bp v i<|k+1,?_,rfl⟩;show Zb rE c121L0b (hiF V bq bp v i k) (hiH V bq bp ((L++Zr4 v bq i k).map prA) K++[r4,r5])=some (.normal,hiF V bq bp v i<|k+1,hiH V bq bp ((L++(Zr4 v bq i k++(bif decide (e.Day<=bq)then [(i,k)]else []))).map prA) K++[r4,r5])
   have hPe:(L++(Zr4 v bq i k++[(i,k)])).map prA=(L++Zr4 v bq i k).map prA++[prA (i,k)]:=by simp
   have hP2:∀n,Zd n ((L++Zr4 v bq i k).map prA++[prA (i,k)])=true:=λn=>by rw[Z0T,hP];rfl
   generalize hes:(L++Zr4 v bq i k).map prA=es at*;simp only[hiH,ZSr,ZT1]at hy;cases c:decide (e.Day<=bq)with
   |false=>
    rw[cond_false,ZT9,hes];simp only[go_sem,c121L0b,hiF,hiH,ZSr,ZT1,hg,hi',hwr,c,hP,hbK,h4,h5,hb6]
   |true=>
    rw[cond_true,hPe];simp only[go_sem,c121L0b,hiF,hiH,ZSr,ZT1,S3,hg,hi',hwr,c,hy,hP,hP2,hbK,h4,h5,hb6])
  (e:=.exit 2) (fr:=hiF V bq bp v i v.bc.l.length) (h:=hiH V bq bp ((L++Zr4 v bq i v.bc.l.length).map prA) K++[r4,r5]) (by
   have hP:=hbP<|L++Zr4 v bq i v.bc.l.length;have q6:=hfr 6<|by decide
   simp only[go_sem,c121L0b,hiF,hiH,ZSr,ZT1,ZG,hP,hbK,h4,h5]) (by simp)
 have e0:L++Zr4 v bq i 0=L:=by simp[Zr4]
 rw[e0]at L0;exact L0
def Zyt(v:Ver):Z4 [v.enc]=true:=by
 have h1:Z4 (v.bc.l.map<|λe=>evA e)=true:=Zw (λt=>by have:=ZwW t;unfold Z4 at this;rw[ZS5]at this;exact this.1) _
 have h2:Z4 (v.Sig.l.map encS)=true:=Zw (λt=>rfl) _
 have h3:Z4 (v.Path.l.map encS)=true:=Zw (λt=>rfl) _
 unfold Ver.enc;simp only[go_sem]
structure VsS(V:NL Ver):Prop where
 len:V.l.length<=100
 evs:∀v∈V.l,v.bc.l.length<=50
def Zyu(v:Ver)(bq:Int)(i n:Nat):(Zr4 v bq i n).length<=n:=by
 unfold Zr4;rw[ZSf];exact ZSC (List.length_filter_le _ _)<|by simp
def ZwX{V:NL Ver}(hV:VsS V)(bq bp:Int):∀i,(Zr7 V.l bq bp i).length<=i*50
 |0=>ZS6 _
 |i+1=>by
  have ih:=ZwX hV bq bp i;unfold Zr7;rw[ZSM,ZSv];have:(match V.l[i]? with|some v=>bif Zvl V.l bp i v then Zr4 v bq i v.bc.l.length else []|none=>[]).length<=50:=by
   cases hv:V.l[i]? with
   |none=>exact Nat.zero_le _
   |some v=>
    have h1:=Zyu v bq i v.bc.l.length;have h2:=hV.evs v<|ZSN hv;show(bif Zvl V.l bp i v then Zr4 v bq i v.bc.l.length else []).length<=50
    cases Zvl V.l bp i v with
    |true=>rw[cond_true];omega
    |false=>exact Nat.zero_le _
  omega
abbrev hoF(V:NL Ver)(bq bp:Int)(i:Nat):Fr:=[(0,.yld 2),(2,.iptr false [I bp]),(3,.iptr false [I bq]),(5,.mp 3),(13,vsA V),(14,I V.l.length),(15,I i)]
def ZAd(V:NL Ver)(bq bp:Int)(hV:VsS V):
 Zg rE [0,2,3,5,13,14,15] c121L1b (hoF V bq bp 0) (hiH V bq bp [] []) =
  some (.exit 0,hoF V bq bp V.l.length,hiH V bq bp ((Zr7 V.l bq bp V.l.length).map prA)<|Zvn V.l V.l.length):=by
 have hlen:=hV.len;have hfr:∀n,2<=n->Zd n (frV<|Zvq V bq bp)=true:=λn hn=>by
  have:Nat.blt 1 n=true:=by simp;omega
  simp only[go_sem,this]
 have hbP:∀(M:List<|Nat×Nat)n,Zd n (M.map prA)=true:=λM n=>ZN _<|Zw (λt=>rfl) M
 have hbK:∀(K:List<|Int×Int)n,Zd n (K.map plA)=true/\Zd n (ZO K.length)=true:=λK n=>⟨ZN _<|Zw (λt=>rfl) K,ZN _<|Ut _⟩
 have q4:=hfr 4<|by decide
 have q5:=hfr 5<|by decide
 have q6:=hfr 6<|by decide
 have L1:=Y8 (E:=rE) (live:=[0,2,3,5,13,14,15]) (b:=c121L1b) V.l.length (λi=>hoF V bq bp i) (λi=>hiH V bq bp ((Zr7 V.l bq bp i).map prA)<|Zvn V.l i) (λi=>rfl)
  (λi hi=>by
   obtain⟨v,hv⟩:∃v,V.l[i]?=some v:=⟨_,ZSb hi⟩;have hm:=ZSN hv;have hg:=Z6 (f:=Ver.enc) hv;have hi':=Zh hi;have hwr:=Zx (n:=i)<|by omega
   have hb4:∀n,Zj n (.row 8 [v.enc])=true:=λn=>ZN (n:=n) [v.enc]<|Zyt v
   have hb5:∀n,Zj n (.row 2 [.agg [I v.Mv,I v.An]])=true:=λn=>rfl
   have hs:Zvn V.l (i+1)=Qi Zvh (Zvn V.l i) (v.Mv,v.An):=by
    unfold Zvn;exact Us _ _ hv
   have hcl:=ZwX hV bq bp i;have hve:=hV.evs v hm;have hc:Zr7 V.l bq bp (i+1)=Zr7 V.l bq bp i++(bif Zvl V.l bp i v then Zr4 v bq i v.bc.l.length else []):=by
    conv=>lhs;unfold Zr7
    rw[hv]
   have hi50:i*50<=5000:=by omega
   have hin:=ZAc V bq bp v i hv (Zr7 V.l bq bp i) (Qi Zvh (Zvn V.l i) (v.Mv,v.An)) (.row 8 [v.enc]) (.row 2 [.agg [I v.Mv,I v.An]]) hb4 hb5<|by omega
   refine⟨hoF V bq bp<|i+1,?_,rfl⟩;show Zb rE c121L1b (hoF V bq bp i) (hiH V bq bp ((Zr7 V.l bq bp i).map prA)<|Zvn V.l i)=some (.normal,hoF V bq bp<|i+1,hiH V bq bp ((Zr7 V.l bq bp<|i+1).map prA)<|Zvn V.l<|i+1)
   rw[hs,hc];unfold Zvl;have hP:=hbP<|Zr7 V.l bq bp i;have hP2:=hbP<|Zr7 V.l bq bp i++Zr4 v bq i v.bc.l.length;have hK:=hbK<|Qi Zvh (Zvn V.l i) (v.Mv,v.An);have hK0:=hbK<|Zvn V.l i;generalize Zr7 V.l bq bp i=L at*;generalize Zvn V.l i=K at*;have hG:=H5 (ag:=true) (kk:=[1,1]) (enc:=plA) (eq:=Zvh) Zys K (v.Mv,v.An) (h:=[.row 2<|L.map prA,.row 1 [.sl 0 (L.map prA).length 0 (L.map prA).length false],.loop .ready .normal (Zvq V bq bp) [13] c37R0a c37R0b,.map (K.map plA)<|ZO K.length,.row 8 [v.enc],.row 2 [.agg [I v.Mv,I v.An]]]) (b:=3) rfl;have hU:=Ur (ag:=true) (kk:=[1,1]) (enc:=plA) (eq:=Zvh) Zys K (v.Mv,v.An) (h:=[.row 2<|L.map prA,.row 1 [.sl 0 (L.map prA).length 0 (L.map prA).length false],.loop .ready .normal (Zvq V bq bp) [13] c37R0a c37R0b,.map (K.map plA)<|ZO K.length,.row 8 [v.enc],.row 2 [.agg [I v.Mv,I v.An]]]) (b:=3) rfl;simp only[hiF,hiH,ZSr,ZT1,Ver.enc,plA,ZSf]at hin hG hU hb4;have c0:((0:Nat):Int)=0:=rfl;rw[c0]at hin;cases c1:K.any (Zvh (v.Mv,v.An))with
   |true=>
    rw[c1]at hG;rw[ZSF,Bool.false_and,cond_false,ZT9];simp only[go_sem,c121L1b,hoF,hiH,Ver.enc,hg,hi',hwr,hG,hU,hP,hK,hK0,hb4,hb5]
   |false=>
    rw[c1]at hG;rw[ZSw,ZSS];cases c2:decide (v.At>bp)with
    |true=>
     rw[ZSF,cond_false,ZT9];simp only[go_sem,c121L1b,hoF,hiH,Ver.enc,hg,hi',hwr,hG,hU,hP,hK,hK0,hb4,hb5,c2]
    |false=>
     rw[ZSw,cond_true];simp only[go_sem,c121L1b,c121L0,hoF,hiH,Ver.enc,hg,hi',hwr,hG,hU,hP,hP2,hK,hK0,hb4,hb5,c2,hin])
  (e:=.exit 0) (fr:=hoF V bq bp V.l.length) (h:=hiH V bq bp ((Zr7 V.l bq bp V.l.length).map prA)<|Zvn V.l V.l.length) (by
   have hP:=hbP<|Zr7 V.l bq bp V.l.length;have hK:=hbK<|Zvn V.l V.l.length;simp only[go_sem,c121L1b,hoF,hiH,ZG,hP,hK]) (by simp)
 exact L1
def Zwt{p q:Int×Int}:Zvh p q=true↔p=q:=by
 unfold Zvh;simp[Prod.ext_iff]
def ZAe(K:List<|Int×Int)(x y:Int×Int):(Qi Zvh K x).any (Zvh y)=(K.any (Zvh y)||Zvh y x):=by
 unfold Qi;cases c:K.any (Zvh x)with
 |true=>
  rw[cond_true];cases d:Zvh y x with
  |false=>rw[ZTE]
  |true=>
   have:=Zwt.1 d;subst this;rw[c];rfl
 |false=>
  rw[cond_false,List.any_append];simp
def Zyv(l:List Ver)(p:Int×Int):∀(m:List Ver)(K:List<|Int×Int),(m.foldl (λK v=>Qi Zvh K (v.Mv,v.An)) K).any (Zvh p)=(K.any (Zvh p)||m.any (λw=>Zvh p (w.Mv,w.An)))
 |[],K=>by simp
 |w::m,K=>by
  rw[ZTj,Zyv l p m,ZAe,List.any_cons,Bool.or_assoc]
def Zyw(l:List Ver)(i:Nat)(p:Int×Int):(Zvn l i).any (Zvh p)=(l.take i).any (λw=>Zvh p (w.Mv,w.An)):=by
 unfold Zvn;rw[Zyv l];rfl
def evK(l:List Ver)(p:Nat×Nat):List Int:=match l[p.1]? with
 |some v=>(match v.bc.l[p.2]? with|some e=>[e.Day,v.At,v.Mv,v.An,(p.2:Int)]|none=>[])
 |none=>[]
def InL(l:List Ver)(p:Nat×Nat):Prop:=∃v e,l[p.1]?=some v/\v.bc.l[p.2]?=some e
def Zw4{l:List Ver}{p:Nat×Nat}{v:Ver}{e:Gt}(h1:l[p.1]?=some v)(h2:v.bc.l[p.2]?=some e):evK l p=[e.Day,v.At,v.Mv,v.An,(p.2:Int)]:=by
 unfold evK;rw[h1];simp only[h2]
def Zw5(l:List Ver)(x:Nat×Nat):List (Nat×Nat)->List (Nat×Nat)
 |[]=>[x]
 |y::r=>bif lexB (evK l x) (evK l y)then x::y::r else y::Zw5 l x r
def ZvG(l:List Ver):List (Nat×Nat)->List (Nat×Nat)
 |[]=>[]
 |x::r=>Zw5 l x<|ZvG l r
def kp2(l:List Ver)(p:Nat×Nat):List Int×AV:=(evK l p,prA p)
def Zyx(l:List Ver)(x:Nat×Nat):∀L:List<|Nat×Nat,ZvI (kp2 l x) (L.map<|kp2 l)=(Zw5 l x L).map (kp2 l)
 |[]=>rfl
 |y::r=>by
  rw[ZS9,ZvI,Zw5];show(bif lexB (evK l x) (evK l y)then _ else _)=_
  cases lexB (evK l x) (evK l y)with
  |true=>rfl
  |false=>rw[cond_false,cond_false,ZS9,Zyx l x r]
def ZwY(l:List Ver):∀L:List<|Nat×Nat,ZvN (L.map<|kp2 l)=(ZvG l L).map (kp2 l)
 |[]=>rfl
 |x::r=>by
  rw[ZS9,ZvN,ZwY l r,Zyx];rfl
def Zyy(l:List Ver)(x:Nat×Nat):∀L,(Zw5 l x L).Perm (x::L)
 |[]=>.refl _
 |y::r=>by
  unfold Zw5;cases lexB (evK l x) (evK l y)with
  |true=>exact .refl _
  |false=>exact((Zyy l x r).cons y).trans (.swap ..)
def Zwc(l:List Ver):∀L,(ZvG l L).Perm L
 |[]=>.refl _
 |x::r=>(Zyy l x _).trans ((Zwc l r).cons x)
def ZAf(V:NL Ver){p:Nat×Nat}(h:InL V.l p):ZvF [.iptr false [vsA V]] (prA p)=some (evK V.l p):=by
 obtain⟨v,e,h1,h2⟩:=h;rw[Zw4 h1 h2];have g1:=Z6 (f:=Ver.enc) h1;have g2:=Z6 (f:=λe=>evA e) h2
 unfold ZvF prA;have d1:decide (0<=((p.1:Nat):Int))=true:=decide_eq_true<|by omega
 have d2:decide (0<=((p.2:Nat):Int))=true:=decide_eq_true<|by omega
 simp only[d1,d2,ZSJ,cond_true,Int.toNat_natCast,g1,Ver.enc,g2]
def Zyz(V:NL Ver):∀L:List<|Nat×Nat,(∀p∈L,InL V.l p)->keysOf (ZvF [.iptr false [vsA V]]) (L.map prA)=some (L.map<|kp2 V.l)
 |[],_=>rfl
 |p::r,h=>by
  rw[ZS9,keysOf,ZAf V<|h p<|ZSO ..,Zyz V r<|λq hq=>h q<|ZSW _ hq]
  rfl
def Zwu(l:List Ver)(L:List<|Nat×Nat):Prop:=L.Pairwise<|λp q=>evK l p≠evK l q
def ZyA{l:List Ver}{L:List (Nat×Nat)}(h:Zwu l L):ZvJ (L.map<|kp2 l)=true:=by
 rw[ZwH,List.pairwise_map];exact h
def ZAg(V:NL Ver)(L:List<|Nat×Nat)(h1:∀p∈L,InL V.l p)(h2:Zwu V.l L)(hl:L.length<=1000000)(r:AObj):
 fnV rE 65 [.sl 0 L.length 0 L.length false,.clo (.func 66) [] [.iptr false [vsA V]]] [.row 2<|L.map prA,r]=some (.tup [],[.row 2<|(ZvG V.l L).map prA,r]):=by
 have hk:=Zyz V L h1;have hd:=ZyA h2;have hs:=ZwY V.l L;rw[V8 (s:=ZvW 66 2 ZvF) rfl];unfold ZvW;cases L with
 |nil=>rfl
 |cons p t=>
  have he:((p::t).map prA).isEmpty=false:=rfl;have hag:((p::t).map prA).all Zwl=true:=by rw[List.all_map,ZSe];intro x _;rfl
  have hfi:((p::t).map prA).all (fits 2)=true:=by rw[List.all_map,ZSe];intro x _;rfl
  have hcl:Z4 ((p::t).map prA)=true:=Zw (λt=>rfl) _
  have hcv:Z4 [.iptr false [vsA V]]=true:=rfl;have hb:Nat.ble (p::t).length 1000000=true:=ZT2 hl;have hm:((ZvG V.l<|p::t).map (kp2 V.l)).map (·.2)=(ZvG V.l<|p::t).map prA:=by rw[ZTq];rfl
  simp only[ZSs,he,cond_false,hk,hd,hag,hfi,hcl,hb,hs,hm,ZSf,beq_self_eq_true,ZSJ,ZSw];rfl
def ZwZ(l:List Ver)(bq bp:Int):∀i,∀p∈Zr7 l bq bp i,p.1<i/\∃v e,l[p.1]?=some v/\v.bc.l[p.2]?=some e/\e.Day<=bq/\v.At<=bp
 |0,p,hp=>by cases hp
 |i+1,p,hp=>by
  unfold Zr7 at hp;rcases ZSz.1 hp with hp|hp
  .obtain⟨h1,h2⟩:=ZwZ l bq bp i p hp;exact⟨by omega,h2⟩
  .cases hv:l[i]? with
   |none=>rw[hv]at hp;cases hp
   |some v=>
    rw[hv]at hp;have hp':p∈(bif Zvl l bp i v then Zr4 v bq i v.bc.l.length else []):=hp;cases ht:Zvl l bp i v with
    |false=>rw[ht]at hp';cases hp'
    |true=>
     rw[ht,cond_true]at hp';unfold Zr4 at hp';obtain⟨k,hk,rfl⟩:=ZSP.1 hp';obtain⟨k1,k2⟩:=List.mem_filter.1 hk;have hk':k<v.bc.l.length:=by simpa using k1
     refine⟨Nat.lt_succ_self i,v,v.bc.l[k],hv,ZSb hk',?_,?_⟩
     .unfold ZvS at k2;rw[ZSb hk']at k2;exact of_decide_eq_true k2
     .unfold Zvl at ht;simp only[ZS5,ZSy]at ht;have:=of_decide_eq_false ht.2;omega
def ZyB(l:List Ver)(bq bp:Int)(i:Nat):∀p∈Zr7 l bq bp i,InL l p:=λp hp=>by
 obtain⟨_,v,e,h1,h2,_⟩:=ZwZ l bq bp i p hp;exact⟨v,e,h1,h2⟩
def Zx0(l:List Ver)(bq bp:Int):∀i,Zwu l (Zr7 l bq bp i)
 |0=>.nil
 |i+1=>by
  unfold Zr7;refine List.pairwise_append.2 ⟨Zx0 l bq bp i,?_,λp hp q hq hc=>?_⟩
  .cases hv:l[i]? with
   |none=>exact .nil
   |some v=>
    show List.Pairwise _ (bif Zvl l bp i v then Zr4 v bq i v.bc.l.length else [])
    cases Zvl l bp i v with
    |false=>exact .nil
    |true=>
     rw[cond_true];unfold Zr4;rw[List.pairwise_map];have hr:(List.range v.bc.l.length).Pairwise (λa b=>a<b):=List.pairwise_lt_range
     refine List.Pairwise.imp_of_mem ?_<|hr.filter _;intro a b ha hb hab hc;have ha':a<v.bc.l.length:=by simpa using(List.mem_filter.1 ha).1
     have hb':b<v.bc.l.length:=by simpa using(List.mem_filter.1 hb).1
     rw[Zw4 (p:=(i,a)) hv<|ZSb ha',Zw4 (p:=(i,b)) hv<|ZSb hb']at hc;simp only[List.cons.injEq]at hc;have h9:((a:Nat):Int)=((b:Nat):Int):=hc.2.2.2.2.1;omega
  .obtain⟨h1,w,e,h2,h3,_,_⟩:=ZwZ l bq bp i p hp;cases hv:l[i]? with
   |none=>rw[hv]at hq;cases hq
   |some v=>
    rw[hv]at hq;have hq':q∈(bif Zvl l bp i v then Zr4 v bq i v.bc.l.length else []):=hq;cases ht:Zvl l bp i v with
    |false=>rw[ht]at hq';cases hq'
    |true=>
     rw[ht,cond_true]at hq';unfold Zr4 at hq';obtain⟨k,hk,rfl⟩:=ZSP.1 hq';have hk':k<v.bc.l.length:=by simpa using(List.mem_filter.1 hk).1
     rw[Zw4 h2 h3,Zw4 (p:=(i,k)) hv<|ZSb hk']at hc;simp only[List.cons.injEq]at hc;unfold Zvl at ht;rw[Zyw]at ht;simp only[ZS5,ZSy,List.any_eq_false]at ht;have hw:w∈l.take i:=by
      rw[ZTv];exact⟨p.1,by rw[ZTg h1];exact h2⟩
     have:=ht.1 w hw;rw[ZTJ]at this;have h8:Zvh (v.Mv,v.An) (w.Mv,w.An)=true:=by
      rw[Zwt,hc.2.2.1,hc.2.2.2.1]
     rw[h8]at this;cases this
def Zr3(l:List Ver)(bq bp:Int):List (Nat×Nat):=ZvG l<|Zr7 l bq bp l.length
def Zx1(V:NL Ver)(hV:VsS V)(bq bp:Int):pfn rE 37 [vsA V,I bq,I bp]=some (.isl false false 2<|(Zr3 V.l bq bp).map prA):=by
 have L:=ZAd V bq bp hV;have h1:=ZyB V.l bq bp V.l.length;have h2:=Zx0 V.l bq bp V.l.length;have h3:=ZwX hV bq bp V.l.length;have hlen:=hV.len;have hS:=λr=>ZAg V (Zr7 V.l bq bp V.l.length) h1 h2 (by omega) r
 have hp:=(Zwc V.l<|Zr7 V.l bq bp V.l.length).length_eq;have hfr:∀n,2<=n->Zd n (frV<|Zvq V bq bp)=true:=λn hn=>by
  have:Nat.blt 1 n=true:=by simp;omega
  simp only[go_sem,this]
 have hP:∀(M:List<|Nat×Nat)n,Zd n (M.map prA)=true:=λM n=>ZN _<|Zw (λt=>rfl) M
 have hC:∀(M:List<|Nat×Nat),Z4 (M.map prA)=true:=λM=>Zw (λt=>rfl) M
 have hK:∀(K:List<|Int×Int)n,Zd n (K.map plA)=true/\Zd n (ZO K.length)=true:=λK n=>⟨ZN _<|Zw (λt=>rfl) K,ZN _<|Ut _⟩
 have q2:=hfr 2<|by decide
 have q3:=hfr 3<|by decide
 have q4:=hfr 4<|by decide
 have c64:fnV rE 64 [vsA V,I bq,I bp] [.row 2 [],.row 1 [.sl 0 0 0 0 false]]=some (.clo (.func 121) [] [.iptr false [vsA V],.iptr false [I bp],.iptr false [I bq]],[.row 2 [],.row 1 [.sl 0 0 0 0 false]]):=by
  rw[Q6 (f:=64) rfl rfl];simp only[go_sem,c64]
 unfold Zr3;have hrf:rf rE (.clo (.func 121) [] [.iptr false [vsA V],.iptr false [I bp],.iptr false [I bq]]) [13] c37R0a c37R0b (Zvq V bq bp) [.row 2 [],.row 1 [.sl 0 0 0 0 false]] =
  some (.normal,Zvq V bq bp,[.row 2<|(Zr7 V.l bq bp V.l.length).map prA,.row 1 [.sl 0 (Zr7 V.l bq bp V.l.length).length 0 (Zr7 V.l bq bp V.l.length).length false],.loop .exhausted .normal (Zvq V bq bp) [13] c37R0a c37R0b,.map ((Zvn V.l V.l.length).map plA)<|ZO (Zvn V.l V.l.length).length]):=by
  have L':Zg rE [0,2,3,5,13,14,15] c121L1b [(0,.yld 2),(2,.iptr false [I bp]),(3,.iptr false [I bq]),(5,.mp 3),(13,vsA V),(14,I V.l.length),(15,.int .i64 0)] [.row 2 [],.row 1 [.sl 0 0 0 0 false],.loop .ready .normal (Zvq V bq bp) [13] c37R0a c37R0b,.map [] []]=_:=L;simp only[hiH,ZSf]at L';rw[Z1k (c:=c121) rfl];generalize Zr7 V.l bq bp V.l.length=M at*;generalize Zvn V.l V.l.length=K at*;simp only[go_sem,c121,c121L1,L',hP,hK];rfl
 generalize Zr7 V.l bq bp V.l.length=M at*;generalize Zvn V.l V.l.length=K at*;rw[Z5 (f:=37) rfl rfl];have htk:List.take M.length ((ZvG V.l M).map prA)=(ZvG V.l M).map prA:=ZSX<|Nat.le_of_eq<|by rw[ZSf,hp]
 simp only[go_sem,put,c37,c64,Sr,hrf,hP,hC,hS,hp,ZSf,htk,ZTA,beq_self_eq_true]
def c141_eq:c141=.seq s141p0 (.seq s141p1<|.seq s141p2<|.seq s141p3<|.seq s141p4<|.seq s141p5<|.seq s141p6<|.seq s141p7<|.seq s141p8<|.seq s141p9<|.seq s141p10 .ret):=rfl
def Zo(d:Ga):AV:=.agg [.str d.Id,.str d.Ev,.str d.By,I d.bh,I d.An.N,.str d.An.bn,I d.An.Num,I d.An.Den,I d.bg.X,I d.bg.Y,I d.From,I d.Ld,.isl false d.After.ex 1<|d.After.l.map encS,I d.Why,I d.bz,.str d.Veil]
def exD(d:Ga):Bool:=d.Ld==-1
def K8(s:Sta)(i:Int)(d:Ga):Bool:=d.After.l.all λid=>!decide (Zn s id<=i)
def Yf(d:Ga):Int:=(d.After.l.length:Int)
def He(d:Ga):Bool:=
 bif d.Why==12 then Yf d==0 else bif d.Why==11 then Yf d==0&&Z3 d.Veil emp else bif d.Why==9 then ZD (Yf d) 2 8&&Z3 d.Veil emp else bif d.Why==10 then Yf d==1&&Z3 d.Veil emp else false
def UC(d:Ga):Bool:=(((!(exD d==(d.Why==0)))||(exD d&&decide (Yf d>0)))||(!exD d&&!He d))||!Jq d.After.l
def NM(d:Ga):Gt:=⟨0,0,0,0,d.bz,d.Id,emp,d.Veil,⟨false,[]⟩,⟨false,[]⟩,⟨0,emp,0,0⟩,⟨0,0⟩,⟨false,[]⟩,⟨false,[]⟩⟩
def Hf(d:Ga):Gt:=⟨0,0,0,0,0,d.Id,d.Ev,d.By,⟨false,[]⟩,⟨false,[]⟩,d.An,d.bg,⟨false,[]⟩,⟨false,[]⟩⟩
def NN(d:Ga):Bool:=Z3 d.Ev emp&&(Z3 d.By emp&&(QL d.An ⟨0,emp,0,0⟩&&(QK d.bg ⟨0,0⟩&&Q9 {NM d with br:=15})))
def WL(s:Sta)(k:Int):Int:=match s.Bt[k.toNat]? with|some b=>b.Ld|none=>0
def QF(s:Sta)(k:Int):Int:=match s.Gm[k.toNat]? with|some b=>b.Ld|none=>0
def NO(s:Sta)(d:Ga):Bool:=((d.bz != 0||decide (Y1 s d.Ev<0))||decide (ZL s d.By<0))||(exD d&&(WL s (Y1 s d.Ev) != -1||QF s (ZL s d.By) != -1))
def Hg(s:Sta)(i:Int)(d:Ga):Bool:=
 K8 s i d&&(!UC d&&(bif Z3 d.Veil emp then !NO s d&&Q9 {Hf d with br:=6}else NN d))
structure DoS(d:Ga):Prop where
 after:d.After.l.length<=100
 id:d.Id.size<=1000
 building:d.Ev.size<=1000
 street:d.By.size<=1000
 veil:d.Veil.size<=1000
abbrev stI(s:Sta):AV:=.iptr false [.isl false false 6<|s.Fa.map Gk.enc,.isl false false 5<|s.Gm.map By.enc,.isl false false 4<|s.Bt.map Ev.enc,.isl false false 16<|s.Bc.map Ga.enc,.isl false false 6<|s.Nk.map be.enc,.isl false false 2<|s.Gc.map bf.enc,.isl false false 2<|s.ba.map bf.enc]
def Z32(s:Sta)(hs:StS s)(i:Int)(d:Ga)(hd:DoS d):∃fr',Zg rE [1,2,5,6,22,23,24] c141L0b [(1,I i),(2,stI s),(5,.ptr 0 0 0 1),(6,.bool<|exD d),(22,.isl false d.After.ex 1<|d.After.l.map encS),(23,I d.After.l.length),(24,.int .i64 0)] [.row 16 [Zo d]] =
 some (if K8 s i d=true then .exit 0 else .ret,fr',[.row 16 [Zo d]])/\(K8 s i d=true->get fr' 2=stI s/\get fr' 4=.bot/\get fr' 5=.ptr 0 0 0 1/\get fr' 6=.bool (exD d))/\(K8 s i d=false->get fr' 4=.bool false):=by
 have L:=QT (E:=rE) (live:=[1,2,5,6,22,23,24]) (b:=c141L0b) (h:=[.row 16 [Zo d]]) d.After.l (λ_ id=>!decide (Zn s id<=i))
  (λj=>[(1,I i),(2,stI s),(5,.ptr 0 0 0 1),(6,.bool<|exD d),(22,.isl false d.After.ex 1<|d.After.l.map encS),(23,I d.After.l.length),(24,I j)]) 0
  (λfr=>get fr 2=stI s/\get fr 4=.bot/\get fr 5=.ptr 0 0 0 1/\get fr 6=.bool (exD d)) (λfr=>get fr 4=.bool false) (λj=>rfl)
  (λj x hx hP=>by
   have hg:=Z6 (f:=encS) hx;have hi:=Zh<|Z7 hx;have hw:=Zx (n:=j) (by have:=Z7 hx;have:=hd.after;omega)
   have hf:=find_ok s hs x;have hP':decide (Zn s x<=i)=false:=by simpa using hP
   refine⟨_,by simp only[go_sem,c141L0b,hg,hi,hw,encS,hf,hP'];rfl,?_⟩
   simp only[go_sem])
  (λj x hx hP=>by
   have hg:=Z6 (f:=encS) hx;have hi:=Zh<|Z7 hx;have hf:=find_ok s hs x;have hP':decide (Zn s x<=i)=true:=by simpa using hP
   refine⟨_,by simp only[go_sem,c141L0b,hg,hi,encS,hf,hP'];rfl,?_⟩
   simp only[go_sem])
  (⟨_,by simp only[go_sem,c141L0b,ZG];rfl,by refine⟨?_,?_,?_,?_⟩<;>simp only[go_sem]⟩)
 rw[QE]at L;exact L
def Fm(s:Sta)(hs:StS s)(i:Nat)(d:Ga)(hd:DoS d)(hx:s.Bc[i]?=some d)(rest:ACode):
 (K8 s i d=true->Zb rE (.seq s141p0<|.seq s141p1<|.seq s141p2<|.seq s141p3 rest) [(0,stA s),(1,I i)] []=Zb rE rest [(2,stI s),(4,.bot),(5,.ptr 0 0 0 1),(6,.bool<|exD d)] [.row 16 [Zo d]])/\
 (K8 s i d=false->∃fr h,Zb rE (.seq s141p0<|.seq s141p1<|.seq s141p2<|.seq s141p3 rest) [(0,stA s),(1,I i)] []=some (.ret,fr,h)/\get fr 4=.bool false):=by
 obtain⟨fr',h1,h2,h3⟩:=Z32 s hs i d hd;have hg:=Z6 (f:=Ga.enc) hx;have hex:(d.Ld==-1)=exD d:=rfl;unfold Zo at h1⊢;constructor
 .intro ha;rw[if_pos ha]at h1;obtain⟨q2,q4,q5,q6⟩:=h2 ha;simp only[go_sem,s141p0,s141p1,s141p2,s141p3,c141L0,hg,Ga.enc,NL.enc,hex,h1,q2,q4,q5,q6]
 .intro ha;rw[ha]at h1;have q4:=h3 ha;simp only[ZSo,if_false]at h1;refine⟨_,_,by simp only[go_sem,s141p0,s141p1,s141p2,s141p3,c141L0,hg,Ga.enc,NL.enc,hex,h1,q4];rfl,?_⟩
  simp only[go_sem]
def XM(d:Ga):AObj:=.map [.int .i64 12,.int .i64 11,.int .i64 9,.int .i64 10] [.bool<|Yf d==0,.bool<|Yf d==0&&Z3 d.Veil emp,.bool<|ZD (Yf d) 2 8&&Z3 d.Veil emp,.bool<|Yf d==1&&Z3 d.Veil emp]
def Z33(a1 a2:Bool)(r1 r2:List Nat)(w1 w2:Option Nat)(k v j u:AV):Kp ⟨a1,r1,w1,some (k,v)⟩ ⟨a2,r2,w2,some (j,u)⟩=YF k j:=(rfl)
def Fo(a b:Int):YF (.int .i64 a) (.int .i64 b)=(a != b):=by simp[YF]
def Z34(x:AObj)(ks vs:List AV)(k:Int)(v:AV)(hk:ZW false [1] (I k) ks 0=some none):YK [x,.map ks vs] false [1] (.mp 1) (I k) v=some (.bot,[x,.map (ks++[I k])<|vs++[v]]):=by
 simp only[YK,ZST,ZSs,Yo,Wi,hk,ZM,ZH,GN,GM]
def Js(b:Nat)(v:AV):Bool:=match v with| .mp c=>c==b|_=>false
def Z35(b:Nat):Js b (.mp b)=true:=by simp[Js]
def Z36{b:Nat}{v:AV}(h:Js b v=true):v=.mp b:=by
 cases v with
 |mp c=>have:c=b:=by simpa[Js]using h
        rw[this]
 |_=>simp[Js]at h
def Z37(fr:Fr)(x:AObj)(ks vs:List AV)(k:Int)(t:Nat)(h37':Js 1 (get fr 37)=true)(hk:ZW false [1] (I k) ks 0=some none)(htn:t≠37):
 Za rE (.ins false [1] (.t 37) (.c<|.int .i64 k)<|.t t) fr [x,.map ks vs]=⟨false,[],some 1,some (I k,get fr t)⟩:=by
 have h37:=Z36 h37';obtain⟨v,ht⟩:∃v,get fr t=v:=⟨_,rfl⟩;rw[ht];have e37:get (Z2 (AOp.ins false [1] (.t 37) (.c<|.int .i64 k)<|.t t).slots fr) 37=.mp 1:=by
  simp[AOp.slots,Arg.slots,Z2,get,h37]
 have et:get (Z2 (AOp.ins false [1] (.t 37) (.c<|.int .i64 k)<|.t t).slots fr) t=v:=by
  have:(37==t)=false:=by rw[beq_eq_false_iff_ne];exact λh=>htn h.symm
  simp[AOp.slots,Arg.slots,Z2,get,this,ht]
 have hne:YF (I k) (I k)=false:=by rw[Fo];simp
 have hd:Za rE (.ins false [1] (.t 37) (.c<|.int .i64 k)<|.t t) fr [x,.map ks vs]=QG rE (Z2 (AOp.ins false [1] (.t 37) (.c<|.int .i64 k)<|.t t).slots fr) [x,.map ks vs] (.ins false [1] (.t 37) (.c<|.int .i64 k)<|.t t) (match Z8 rE (Z2 (AOp.ins false [1] (.t 37) (.c<|.int .i64 k)<|.t t).slots fr) [x,.map ks vs] ([x,.map ks vs]:Hp).length (.ins false [1] (.t 37) (.c<|.int .i64 k)<|.t t)with|some r=>r.2.2|none=>none):=rfl
 rw[hd];generalize Z2 (AOp.ins false [1] (.t 37) (.c<|.int .i64 k)<|.t t).slots fr=f at e37 et;have ho:Z8 rE f [x,.map ks vs] ([x,.map ks vs]:Hp).length (.ins false [1] (.t 37) (.c<|.int .i64 k)<|.t t)=some (.bot,[1],some (1,.map (ks++[I k])<|vs++[v])):=by
  simp only[Z8,ev,e37,et,ZST,ZSs,Yo,Wi,hk]
 have hi:Wm rE f [x,.map ks vs] (.ins false [1] (.t 37) (.c<|.int .i64 k)<|.t t)=some (I k,v):=by
  simp only[Wm,ev,e37,et,ZST,ZSs,hk,hne,cond_false]
 rw[ho];simp only[QG,hi,ZSt]
def Z38(s:Sta)(d:Ga)(rest:ACode):
 Zb rE (.seq s141p4<|.seq s141p5 rest) [(2,stI s),(4,.bot),(5,.ptr 0 0 0 1),(6,.bool<|exD d)] [.row 16 [Zo d]] =
  Zb rE rest [(2,stI s),(5,.ptr 0 0 0 1),(6,.bool<|exD d),(9,I<|Yf d),(10,.mp 1)] [.row 16 [Zo d],XM d]:=by
 have hn:((d.After.l.length:Nat):Int)=Yf d:=rfl;have f1:ZW false [1] (.int .i64 12) [] 0=some none:=rfl;have f2:ZW false [1] (.int .i64 11) [.int .i64 12] 0=some none:=rfl;have f3:ZW false [1] (.int .i64 9) [.int .i64 12,.int .i64 11] 0=some none:=rfl;have f4:ZW false [1] (.int .i64 10) [.int .i64 12,.int .i64 11,.int .i64 9] 0=some none:=rfl;have n1:((11:Int) != 12)=true:=rfl;have n2:((9:Int) != 12)=true:=rfl;have n3:((9:Int) != 11)=true:=rfl;have n4:((10:Int) != 12)=true:=rfl;have n5:((10:Int) != 11)=true:=rfl;have n6:((10:Int) != 9)=true:=rfl;have b1:∀x:AV,Zd 1 [x]=bel 1 x:=λx=>by simp[Zd]
 unfold XM Zo;cases c1:Yf d==0<;>cases c2:Yf d==1<;>cases c5003:ZD (Yf d) 2 8<;>cases c5004:Z3 d.Veil emp<;>
  simp only[go_sem,s141p4,s141p5,hn,c1,c2,c5003,c5004,DY,Z37,Z35,Z34,f1,f2,f3,f4,Z33,Fo,n1,n2,n3,n4,n5,n6,ne_eq,Nat.reduceEqDiff,not_false_eq_true]
def Z39(d:Ga)(x:AObj):W5 [x,XM d] false [1] false (.bool false) (.mp 1) (I d.Why)=some (.bool<|He d):=by
 unfold XM He;simp only[W5,ZST,ZSs,QW,Wi,ZW];cases c1:d.Why==12<;>cases c2:d.Why==11<;>cases c5003:d.Why==9<;>cases c5004:d.Why==10<;>rfl
set_option maxHeartbeats 4000000 in
def Fp(s:Sta)(d:Ga)(hd:DoS d)(rest:ACode):
 (UC d=false->Zb rE (.seq s141p6 rest) [(2,stI s),(5,.ptr 0 0 0 1),(6,.bool<|exD d),(9,I<|Yf d),(10,.mp 1)] [.row 16 [Zo d],XM d]=Zb rE rest [(2,stI s),(5,.ptr 0 0 0 1),(6,.bool<|exD d),(90,.bool false)] [.row 16 [Zo d],XM d])/\
 (UC d=true->∃fr h,Zb rE (.seq s141p6 rest) [(2,stI s),(5,.ptr 0 0 0 1),(6,.bool<|exD d),(9,I<|Yf d),(10,.mp 1)] [.row 16 [Zo d],XM d]=some (.ret,fr,h)/\get fr 4=.bool false):=by
 have hg:=Z39 d;have hso:=Fj d.After.l d.After.ex (by have:=hd.after;omega)
 have t1:(true==true)=true:=rfl;have t2:(true==false)=false:=rfl;have t3:(false==true)=false:=rfl;have t4:(false==false)=true:=rfl;generalize XM d=m at hg⊢;unfold UC Zo;cases c1:exD d<;>cases c2:d.Why==0<;>cases c5003:decide (Yf d>0)<;>cases c5004:He d<;>cases c5005:Jq d.After.l<;>rw[c5004]at hg<;>rw[c5005]at hso<;>
  (constructor<;>intro hb<;>first|(exact absurd hb<|by decide)|skip)
 all_goals first
  |(simp only[go_sem,s141p6,c2,c5003,hg,hso,t1,t2,t3,t4];done)
  |(refine⟨_,_,by simp only[go_sem,s141p6,c2,c5003,hg,hso,t1,t2,t3,t4];rfl,?_⟩;simp only[go_sem])
def Z3a(d:Ga)(hd:DoS d):EvS (NM d):=⟨Nat.zero_le _,Nat.zero_le _,Nat.zero_le _,Nat.zero_le _,hd.id,Nat.zero_le _,hd.veil⟩
def Z3b(d:Ga)(hd:DoS d):EvS (Hf d):=⟨Nat.zero_le _,Nat.zero_le _,Nat.zero_le _,Nat.zero_le _,hd.id,hd.building,hd.street⟩
def Fq(s:Sta)(d:Ga)(hd:DoS d)(m:AObj)(rest:ACode):
 (Z3 d.Veil emp=true->Zb rE (.seq s141p7 rest) [(2,stI s),(5,.ptr 0 0 0 1),(6,.bool<|exD d),(90,.bool false)] [.row 16 [Zo d],m]=Zb rE rest [(2,stI s),(5,.ptr 0 0 0 1),(6,.bool<|exD d),(93,.bool false)] [.row 16 [Zo d],m])/\
 (Z3 d.Veil emp=false->∃fr h,Zb rE (.seq s141p7 rest) [(2,stI s),(5,.ptr 0 0 0 1),(6,.bool<|exD d),(90,.bool false)] [.row 16 [Zo d],m]=some (.ret,fr,h)/\get fr 4=.bool (NN d)):=by
 have hm:=Wg 15 (NM d)<|Z3a d hd;have hm':pfn rE 140 [I 15,.agg [I 0,I 0,I 0,I 0,I d.bz,.str d.Id,.str emp,.str d.Veil,.isl false false 1 [],.isl false false 3 [],I 0,.str emp,I 0,I 0,I 0,I 0,.isl false false 2 [],.isl false false 7 []]]=_:=hm;have hn4:(d.An.N==0&&(Z3 d.An.bn emp&&(d.An.Num==0&&d.An.Den==0)))=QL d.An ⟨0,emp,0,0⟩:=rfl;have hn5:(d.bg.X==0&&d.bg.Y==0)=QK d.bg ⟨0,0⟩:=rfl;unfold NN Zo;constructor
 .intro hv;simp only[go_sem,s141p7,hv]
 .intro hv;cases c1:Z3 d.Ev emp with
  |false=>refine⟨_,_,by simp only[go_sem,s141p7,hv,c1];rfl,?_⟩;simp only[go_sem]
  |true=>
  cases c2:Z3 d.By emp with
  |false=>refine⟨_,_,by simp only[go_sem,s141p7,hv,c1,c2];rfl,?_⟩;simp only[go_sem]
  |true=>
  cases c5003:QL d.An ⟨0,emp,0,0⟩with
  |false=>refine⟨_,_,by simp only[go_sem,s141p7,hv,c1,c2,hn4,c5003];rfl,?_⟩;simp only[go_sem]
  |true=>
  cases c5004:QK d.bg ⟨0,0⟩with
  |false=>refine⟨_,_,by simp only[go_sem,s141p7,hv,c1,c2,hn4,c5003,hn5,c5004];rfl,?_⟩;simp only[go_sem]
  |true=>refine⟨_,_,by simp only[go_sem,s141p7,hv,c1,c2,hn4,c5003,hn5,c5004,hm'];rfl,?_⟩;simp only[go_sem]
def QC{α:Type}{P:α->Bool}{l:List α}(h:decide (Zp P l 0<0)=false):∃(j:Nat)(x:α),Zp P l 0=(j:Int)/\l[j]?=some x:=by
 rcases UA P l 0 with⟨h1,_⟩|⟨j,x,h1,h2,_⟩
 .rw[h1]at h;simp at h
 .exact⟨j,x,by rw[h1];omega,h2⟩
def Z3c(s:Sta)(hs:StS s)(d:Ga)(hd:DoS d)(m:AObj):
 ∃fr h,Zb rE (.seq s141p8<|.seq s141p9<|.seq s141p10 .ret) [(2,stI s),(5,.ptr 0 0 0 1),(6,.bool<|exD d),(93,.bool false)] [.row 16 [Zo d],m]=some (.ret,fr,h)/\get fr 4=.bool (!NO s d&&Q9 {Hf d with br:=6}):=by
 have hm:=Wg 6 (Hf d)<|Z3b d hd;have hm':pfn rE 140 [I 6,.agg [I 0,I 0,I 0,I 0,I 0,.str d.Id,.str d.Ev,.str d.By,.isl false false 1 [],.isl false false 3 [],I d.An.N,.str d.An.bn,I d.An.Num,I d.An.Den,I d.bg.X,I d.bg.Y,.isl false false 2 [],.isl false false 7 []]]=_:=hm;have hb:=Hb s hs d.Ev;have ht:=K7 s hs d.By;unfold NO Zo;cases c1:d.bz != 0 with
 |true=>refine⟨_,_,by simp only[go_sem,s141p8,s141p9,s141p10,hb,ht,c1];rfl,?_⟩;simp only[go_sem]
 |false=>
 cases c2:decide (Y1 s d.Ev<0)with
 |true=>refine⟨_,_,by simp only[go_sem,s141p8,s141p9,s141p10,hb,ht,c1,c2];rfl,?_⟩;simp only[go_sem]
 |false=>
 cases c5003:decide (ZL s d.By<0)with
 |true=>refine⟨_,_,by simp only[go_sem,s141p8,s141p9,s141p10,hb,ht,c1,c2,c5003];rfl,?_⟩;simp only[go_sem]
 |false=>
 obtain⟨j,x,hj,hx⟩:=QC c2;obtain⟨k,y,hk,hy⟩:=QC c5003;have hj':Y1 s d.Ev=(j:Int):=hj;have hk':ZL s d.By=(k:Int):=hk;have hbE:WL s (Y1 s d.Ev)=x.Ld:=by rw[hj'];simp[WL,hx]
 have hsE:QF s (ZL s d.By)=y.Ld:=by rw[hk'];simp[QF,hy]
 have gx:=Z6 (f:=Ev.enc) hx;have gy:=Z6 (f:=By.enc) hy;rw[hbE,hsE];rw[hj']at hb c2;rw[hk']at ht c5003;cases c5004:exD d with
 |false=>refine⟨_,_,by simp only[go_sem,s141p8,s141p9,s141p10,hb,ht,c1,c2,c5003,hm'];rfl,?_⟩;simp only[go_sem]
 |true=>
 cases c5005:x.Ld != -1 with
 |true=>refine⟨_,_,by simp only[go_sem,s141p8,s141p9,s141p10,hb,ht,c1,c2,c5003,gx,Ev.enc,NL.enc,c5005];rfl,?_⟩;simp only[go_sem]
 |false=>
 cases c5006:y.Ld != -1 with
 |true=>refine⟨_,_,by simp only[go_sem,s141p8,s141p9,s141p10,hb,ht,c1,c2,c5003,gx,gy,Ev.enc,By.enc,NL.enc,c5005,c5006];rfl,?_⟩;simp only[go_sem]
 |false=>refine⟨_,_,by simp only[go_sem,s141p8,s141p9,s141p10,hb,ht,c1,c2,c5003,gx,gy,Ev.enc,By.enc,NL.enc,c5005,c5006,hm'];rfl,?_⟩;simp only[go_sem]
def Fs(s:Sta)(hs:StS s)(i:Nat)(d:Ga)(hd:DoS d)(hx:s.Bc[i]?=some d):pfn rE 141 [stA s,I i]=some (.bool<|Hg s i d):=by
 rw[Z5 (f:=141) (c:=c141) rfl rfl,c141_eq];have e0:QP 0 [stA s,I i]=[(0,stA s),(1,I i)]:=rfl;rw[e0];unfold Hg;have fin:∀(fr:Fr)(h:Hp)(b:Bool),get fr 4=.bool b->frz (fnd [ResVar.tmp 4]<|some (.ret,fr,h))=some (.bool b):=by
  intro fr h b hg;simp only[go_sem,hg]
 cases c1:K8 s i d with
 |false=>
  obtain⟨fr,h,h1,h2⟩:=(Fm s hs i d hd hx _).2 c1;rw[h1];exact fin fr h false h2
 |true=>
  rw[(Fm s hs i d hd hx _).1 c1,Z38];cases c2:UC d with
  |true=>
   obtain⟨fr,h,h1,h2⟩:=(Fp s d hd _).2 c2;rw[h1];exact fin fr h false h2
  |false=>
   rw[(Fp s d hd _).1 c2];cases c5003:Z3 d.Veil emp with
   |false=>
    obtain⟨fr,h,h1,h2⟩:=(Fq s d hd (XM d) _).2 c5003;rw[h1];exact fin fr h _ h2
   |true=>
    rw[(Fq s d hd (XM d) _).1 c5003];obtain⟨fr,h,h1,h2⟩:=Z3c s hs d hd<|XM d;rw[h1];exact fin fr h _ h2
structure StE(s:Sta):Prop where
 sizes:StS s
 regions:∀x∈s.Fa,x.bm.l.length<=100/\x.Ring.l.length<=100/\x.Id.size<=1000
 streets:∀x∈s.Gm,x.bm.l.length<=100/\x.Line.l.length<=100/\x.Id.size<=1000
 buildings:∀x∈s.Bt,x.Ring.l.length<=100/\x.Id.size<=1000
 doors:∀x∈s.Bc,DoS x
 units:∀x∈s.Nk,x.Id.size<=1000/\x.Ga.size<=1000/\x.Text.size<=1000
def Jt(x:Gk):Gt:=⟨0,0,x.br,0,0,x.Id,emp,emp,⟨false,[]⟩,⟨false,[]⟩,⟨0,emp,0,0⟩,⟨0,0⟩,x.Ring,⟨false,[]⟩⟩
def Ju(x:By):Gt:=⟨0,0,0,0,0,x.Id,emp,emp,⟨false,[]⟩,⟨false,[]⟩,⟨0,emp,0,0⟩,⟨0,0⟩,x.Line,⟨false,[]⟩⟩
def Jv(x:Ev):Gt:=⟨0,0,0,0,0,x.Id,emp,emp,⟨false,[]⟩,⟨false,[]⟩,⟨0,emp,0,0⟩,⟨0,0⟩,x.Ring,⟨false,[]⟩⟩
def Vn(x:be):Gt:=⟨0,0,0,0,0,x.Id,x.Ga,x.Text,⟨false,[]⟩,⟨false,[]⟩,⟨0,emp,0,0⟩,⟨0,0⟩,⟨false,[]⟩,⟨false,[]⟩⟩
def Vo(x:Gk):Bool:=QM x.bh x.Ld 0&&(Jp x.bm.l x.bm.ex&&Q9 {Jt x with br:=1})
def Vp(x:By):Bool:=QM x.bh x.Ld 0&&(Jp x.bm.l x.bm.ex&&Q9 {Ju x with br:=2})
def Vq(x:Ev):Bool:=QM x.bh x.Ld 0&&Q9 {Jv x with br:=5}
def Vr(s:Sta)(i:Nat)(x:Ga):Bool:=QM x.bh x.Ld x.From&&Hg s i x
def QN(s:Sta)(k:Int):Int:=match s.Bc[k.toNat]? with|some d=>d.Ld|none=>0
def Jw(s:Sta)(x:be):Bool:=(x.Ld==-1&&(x.Why != 0||QN s (Zn s x.Ga) != -1))||((x.Ld != -1&&x.Why != 12)&&x.Why != 11)
def Vs(s:Sta)(x:be):Bool:=!decide (Zn s x.Ga<0)&&(QM 0 x.Ld x.From&&(Q9 {Vn x with br:=7}&&!Jw s x))
def Jx(s:Sta):Bool:=s.Fa.all Vo&&(s.Gm.all Vp&&(s.Bt.all Vq&&(Zu (Vr s) 0 s.Bc&&(s.Nk.all (Vs s)&&(Jq (Qp s)&&(Wh s.Bc&&WK s))))))
def Z3d(s:Sta)(hs:StE s):∃fr',Zg rE [1,15,16,17] c77L0b [(1,stI s),(15,.isl false false 6<|s.Fa.map Gk.enc),(16,I s.Fa.length),(17,.int .i64 0)] [] =
 some (if Zu (λ_ x=>Vo x) 0 s.Fa=true then .exit 0 else .ret,fr',[])/\(Zu (λ_ x=>Vo x) 0 s.Fa=true->get fr' 1=stI s/\get fr' 2=.bot)/\(Zu (λ_ x=>Vo x) 0 s.Fa=false->get fr' 2=.bool false):=by
 have L:=QT (E:=rE) (live:=[1,15,16,17]) (b:=c77L0b) (h:=[]) s.Fa (λ_ x=>Vo x)
  (λi=>[(1,stI s),(15,.isl false false 6<|s.Fa.map Gk.enc),(16,I s.Fa.length),(17,I i)]) 0
  (λfr=>get fr 1=stI s/\get fr 2=.bot) (λfr=>get fr 2=.bool false) (λi=>rfl)
  (λi x hx hP=>by
   have hg:=Z6 (f:=Gk.enc) hx;have hi:=Zh<|Z7 hx;have hw:=Zx (n:=i) (by have:=Z7 hx;have:=hs.sizes.regions;omega)
   have hm:=ZSN hx;obtain⟨z1,z2,z3⟩:=hs.regions x hm;have hnm:=Hc x.bm.l x.bm.ex z1;have hmd:pfn rE 140 [I 1,.agg [I 0,I 0,I x.br,I 0,I 0,.str x.Id,.str emp,.str emp,.isl false false 1 [],.isl false false 3 [],I 0,.str emp,I 0,I 0,I 0,I 0,.isl false x.Ring.ex 2<|x.Ring.l.map Pt.enc,.isl false false 7 []]]=some (.bool<|Q9 {Jt x with br:=1}):=Wg 1 (Jt x) ⟨Nat.zero_le _,Nat.zero_le _,z2,Nat.zero_le _,z3,Nat.zero_le _,Nat.zero_le _⟩
   simp only[Vo,ZS5]at hP;obtain⟨p1,p2,p3⟩:=hP;refine⟨_,by simp only[go_sem,c77L0b,hg,hi,hw,Gk.enc,NL.enc,Qc,hnm,hmd,p1,p2,p3];rfl,?_⟩
   simp only[go_sem])
  (λi x hx hP=>by
   have hg:=Z6 (f:=Gk.enc) hx;have hi:=Zh<|Z7 hx;have hm:=ZSN hx;obtain⟨z1,z2,z3⟩:=hs.regions x hm;have hnm:=Hc x.bm.l x.bm.ex z1;have hmd:pfn rE 140 [I 1,.agg [I 0,I 0,I x.br,I 0,I 0,.str x.Id,.str emp,.str emp,.isl false false 1 [],.isl false false 3 [],I 0,.str emp,I 0,I 0,I 0,I 0,.isl false x.Ring.ex 2<|x.Ring.l.map Pt.enc,.isl false false 7 []]]=some (.bool<|Q9 {Jt x with br:=1}):=Wg 1 (Jt x) ⟨Nat.zero_le _,Nat.zero_le _,z2,Nat.zero_le _,z3,Nat.zero_le _,Nat.zero_le _⟩
   unfold Vo at hP;cases p1:QM x.bh x.Ld 0 with
   |false=>
    refine⟨_,by simp only[go_sem,c77L0b,hg,hi,Gk.enc,NL.enc,Qc,p1];rfl,?_⟩
    simp only[go_sem]
   |true=>
   cases p2:Jp x.bm.l x.bm.ex with
   |false=>
    refine⟨_,by simp only[go_sem,c77L0b,hg,hi,Gk.enc,NL.enc,Qc,hnm,p1,p2];rfl,?_⟩
    simp only[go_sem]
   |true=>
    have p3:Q9 {Jt x with br:=1}=false:=by simpa[p1,p2]using hP
    refine⟨_,by simp only[go_sem,c77L0b,hg,hi,Gk.enc,NL.enc,Qc,hnm,hmd,p1,p2,p3];rfl,?_⟩
    simp only[go_sem])
  (⟨_,by simp only[go_sem,c77L0b,ZG];rfl,by refine⟨?_,?_⟩<;>simp only[go_sem]⟩)
 exact L
def Z3e(s:Sta)(hs:StE s):∃fr',Zg rE [1,46,47,48] c77L1b [(1,stI s),(46,.isl false false 5<|s.Gm.map By.enc),(47,I s.Gm.length),(48,.int .i64 0)] [] =
 some (if Zu (λ_ x=>Vp x) 0 s.Gm=true then .exit 2 else .ret,fr',[])/\(Zu (λ_ x=>Vp x) 0 s.Gm=true->get fr' 1=stI s/\get fr' 2=.bot)/\(Zu (λ_ x=>Vp x) 0 s.Gm=false->get fr' 2=.bool false):=by
 have L:=QT (E:=rE) (live:=[1,46,47,48]) (b:=c77L1b) (h:=[]) s.Gm (λ_ x=>Vp x)
  (λi=>[(1,stI s),(46,.isl false false 5<|s.Gm.map By.enc),(47,I s.Gm.length),(48,I i)]) 2
  (λfr=>get fr 1=stI s/\get fr 2=.bot) (λfr=>get fr 2=.bool false) (λi=>rfl)
  (λi x hx hP=>by
   have hg:=Z6 (f:=By.enc) hx;have hi:=Zh<|Z7 hx;have hw:=Zx (n:=i) (by have:=Z7 hx;have:=hs.sizes.streets;omega)
   have hm:=ZSN hx;obtain⟨z1,z2,z3⟩:=hs.streets x hm;have hnm:=Hc x.bm.l x.bm.ex z1;have hmd:pfn rE 140 [I 2,.agg [I 0,I 0,I 0,I 0,I 0,.str x.Id,.str emp,.str emp,.isl false false 1 [],.isl false false 3 [],I 0,.str emp,I 0,I 0,I 0,I 0,.isl false x.Line.ex 2<|x.Line.l.map Pt.enc,.isl false false 7 []]]=some (.bool<|Q9 {Ju x with br:=2}):=Wg 2 (Ju x) ⟨Nat.zero_le _,Nat.zero_le _,z2,Nat.zero_le _,z3,Nat.zero_le _,Nat.zero_le _⟩
   simp only[Vp,ZS5]at hP;obtain⟨p1,p2,p3⟩:=hP;refine⟨_,by simp only[go_sem,c77L1b,hg,hi,hw,By.enc,NL.enc,Qc,hnm,hmd,p1,p2,p3];rfl,?_⟩
   simp only[go_sem])
  (λi x hx hP=>by
   have hg:=Z6 (f:=By.enc) hx;have hi:=Zh<|Z7 hx;have hm:=ZSN hx;obtain⟨z1,z2,z3⟩:=hs.streets x hm;have hnm:=Hc x.bm.l x.bm.ex z1;have hmd:pfn rE 140 [I 2,.agg [I 0,I 0,I 0,I 0,I 0,.str x.Id,.str emp,.str emp,.isl false false 1 [],.isl false false 3 [],I 0,.str emp,I 0,I 0,I 0,I 0,.isl false x.Line.ex 2<|x.Line.l.map Pt.enc,.isl false false 7 []]]=some (.bool<|Q9 {Ju x with br:=2}):=Wg 2 (Ju x) ⟨Nat.zero_le _,Nat.zero_le _,z2,Nat.zero_le _,z3,Nat.zero_le _,Nat.zero_le _⟩
   unfold Vp at hP;cases p1:QM x.bh x.Ld 0 with
   |false=>
    refine⟨_,by simp only[go_sem,c77L1b,hg,hi,By.enc,NL.enc,Qc,p1];rfl,?_⟩
    simp only[go_sem]
   |true=>
   cases p2:Jp x.bm.l x.bm.ex with
   |false=>
    refine⟨_,by simp only[go_sem,c77L1b,hg,hi,By.enc,NL.enc,Qc,hnm,p1,p2];rfl,?_⟩
    simp only[go_sem]
   |true=>
    have p3:Q9 {Ju x with br:=2}=false:=by simpa[p1,p2]using hP
    refine⟨_,by simp only[go_sem,c77L1b,hg,hi,By.enc,NL.enc,Qc,hnm,hmd,p1,p2,p3];rfl,?_⟩
    simp only[go_sem])
  (⟨_,by simp only[go_sem,c77L1b,ZG];rfl,by refine⟨?_,?_⟩<;>simp only[go_sem]⟩)
 exact L
def Z3f(s:Sta)(hs:StE s):∃fr',Zg rE [1,75,76,77] c77L2b [(1,stI s),(75,.isl false false 4<|s.Bt.map Ev.enc),(76,I s.Bt.length),(77,.int .i64 0)] [] =
 some (if Zu (λ_ x=>Vq x) 0 s.Bt=true then .exit 4 else .ret,fr',[])/\(Zu (λ_ x=>Vq x) 0 s.Bt=true->get fr' 1=stI s/\get fr' 2=.bot)/\(Zu (λ_ x=>Vq x) 0 s.Bt=false->get fr' 2=.bool false):=by
 have L:=QT (E:=rE) (live:=[1,75,76,77]) (b:=c77L2b) (h:=[]) s.Bt (λ_ x=>Vq x)
  (λi=>[(1,stI s),(75,.isl false false 4<|s.Bt.map Ev.enc),(76,I s.Bt.length),(77,I i)]) 4
  (λfr=>get fr 1=stI s/\get fr 2=.bot) (λfr=>get fr 2=.bool false) (λi=>rfl)
  (λi x hx hP=>by
   have hg:=Z6 (f:=Ev.enc) hx;have hi:=Zh<|Z7 hx;have hw:=Zx (n:=i) (by have:=Z7 hx;have:=hs.sizes.buildings;omega)
   have hm:=ZSN hx;obtain⟨z2,z3⟩:=hs.buildings x hm;have hmd:pfn rE 140 [I 5,.agg [I 0,I 0,I 0,I 0,I 0,.str x.Id,.str emp,.str emp,.isl false false 1 [],.isl false false 3 [],I 0,.str emp,I 0,I 0,I 0,I 0,.isl false x.Ring.ex 2<|x.Ring.l.map Pt.enc,.isl false false 7 []]]=some (.bool<|Q9 {Jv x with br:=5}):=Wg 5 (Jv x) ⟨Nat.zero_le _,Nat.zero_le _,z2,Nat.zero_le _,z3,Nat.zero_le _,Nat.zero_le _⟩
   simp only[Vq,ZS5]at hP;obtain⟨p1,p3⟩:=hP;refine⟨_,by simp only[go_sem,c77L2b,hg,hi,hw,Ev.enc,NL.enc,Qc,hmd,p1,p3];rfl,?_⟩
   simp only[go_sem])
  (λi x hx hP=>by
   have hg:=Z6 (f:=Ev.enc) hx;have hi:=Zh<|Z7 hx;have hm:=ZSN hx;obtain⟨z2,z3⟩:=hs.buildings x hm;have hmd:pfn rE 140 [I 5,.agg [I 0,I 0,I 0,I 0,I 0,.str x.Id,.str emp,.str emp,.isl false false 1 [],.isl false false 3 [],I 0,.str emp,I 0,I 0,I 0,I 0,.isl false x.Ring.ex 2<|x.Ring.l.map Pt.enc,.isl false false 7 []]]=some (.bool<|Q9 {Jv x with br:=5}):=Wg 5 (Jv x) ⟨Nat.zero_le _,Nat.zero_le _,z2,Nat.zero_le _,z3,Nat.zero_le _,Nat.zero_le _⟩
   unfold Vq at hP;cases p1:QM x.bh x.Ld 0 with
   |false=>
    refine⟨_,by simp only[go_sem,c77L2b,hg,hi,Ev.enc,NL.enc,Qc,p1];rfl,?_⟩
    simp only[go_sem]
   |true=>
    have p3:Q9 {Jv x with br:=5}=false:=by simpa[p1]using hP
    refine⟨_,by simp only[go_sem,c77L2b,hg,hi,Ev.enc,NL.enc,Qc,hmd,p1,p3];rfl,?_⟩
    simp only[go_sem])
  (⟨_,by simp only[go_sem,c77L2b,ZG];rfl,by refine⟨?_,?_⟩<;>simp only[go_sem]⟩)
 exact L
def Z3g(s:Sta)(hs:StE s):∃fr',Zg rE [1,98,99,100] c77L3b [(1,stI s),(98,.isl false false 16<|s.Bc.map Ga.enc),(99,I s.Bc.length),(100,.int .i64 0)] [] =
 some (if Zu (Vr s) 0 s.Bc=true then .exit 6 else .ret,fr',[])/\(Zu (Vr s) 0 s.Bc=true->get fr' 1=stI s/\get fr' 2=.bot)/\(Zu (Vr s) 0 s.Bc=false->get fr' 2=.bool false):=by
 have L:=QT (E:=rE) (live:=[1,98,99,100]) (b:=c77L3b) (h:=[]) s.Bc (Vr s)
  (λi=>[(1,stI s),(98,.isl false false 16<|s.Bc.map Ga.enc),(99,I s.Bc.length),(100,I i)]) 6
  (λfr=>get fr 1=stI s/\get fr 2=.bot) (λfr=>get fr 2=.bool false) (λi=>rfl)
  (λi x hx hP=>by
   have hg:=Z6 (f:=Ga.enc) hx;have hi:=Zh<|Z7 hx;have hw:=Zx (n:=i) (by have:=Z7 hx;have:=hs.sizes.doors;omega)
   have hm:=ZSN hx;have hst:=Fs s hs.sizes i x (hs.doors x hm) hx;simp only[Vr,ZS5]at hP;obtain⟨p1,p3⟩:=hP;refine⟨_,by simp only[go_sem,c77L3b,hg,hi,hw,Ga.enc,NL.enc,Qc,hst,p1,p3];rfl,?_⟩
   simp only[go_sem])
  (λi x hx hP=>by
   have hg:=Z6 (f:=Ga.enc) hx;have hi:=Zh<|Z7 hx;have hm:=ZSN hx;have hst:=Fs s hs.sizes i x (hs.doors x hm) hx;unfold Vr at hP;cases p1:QM x.bh x.Ld x.From with
   |false=>
    refine⟨_,by simp only[go_sem,c77L3b,hg,hi,Ga.enc,NL.enc,Qc,p1];rfl,?_⟩
    simp only[go_sem]
   |true=>
    have p3:Hg s i x=false:=by simpa[p1]using hP
    refine⟨_,by simp only[go_sem,c77L3b,hg,hi,Ga.enc,NL.enc,Qc,hst,p1,p3];rfl,?_⟩
    simp only[go_sem])
  (⟨_,by simp only[go_sem,c77L3b,ZG];rfl,by refine⟨?_,?_⟩<;>simp only[go_sem]⟩)
 exact L
def Z3h(s:Sta)(hs:StE s):∃fr',Zg rE [1,121,122,123] c77L4b [(1,stI s),(121,.isl false false 6<|s.Nk.map be.enc),(122,I s.Nk.length),(123,.int .i64 0)] [] =
 some (if Zu (λ_ x=>Vs s x) 0 s.Nk=true then .exit 8 else .ret,fr',[])/\(Zu (λ_ x=>Vs s x) 0 s.Nk=true->get fr' 1=stI s/\get fr' 2=.bot)/\(Zu (λ_ x=>Vs s x) 0 s.Nk=false->get fr' 2=.bool false):=by
 have L:=QT (E:=rE) (live:=[1,121,122,123]) (b:=c77L4b) (h:=[]) s.Nk (λ_ x=>Vs s x)
  (λi=>[(1,stI s),(121,.isl false false 6<|s.Nk.map be.enc),(122,I s.Nk.length),(123,I i)]) 8
  (λfr=>get fr 1=stI s/\get fr 2=.bot) (λfr=>get fr 2=.bool false) (λi=>rfl)
  (λi x hx hP=>by
   have hg:=Z6 (f:=be.enc) hx;have hi:=Zh<|Z7 hx;have hw:=Zx (n:=i) (by have:=Z7 hx;have:=hs.sizes.units;omega)
   have hm:=ZSN hx;obtain⟨z1,z2,z3⟩:=hs.units x hm;have hf:=find_ok s hs.sizes x.Ga;have hmd:pfn rE 140 [I 7,.agg [I 0,I 0,I 0,I 0,I 0,.str x.Id,.str x.Ga,.str x.Text,.isl false false 1 [],.isl false false 3 [],I 0,.str emp,I 0,I 0,I 0,I 0,.isl false false 2 [],.isl false false 7 []]]=some (.bool<|Q9 {Vn x with br:=7}):=Wg 7 (Vn x) ⟨Nat.zero_le _,Nat.zero_le _,Nat.zero_le _,Nat.zero_le _,z1,z2,z3⟩
   unfold Vs at hP;have p0:decide (Zn s x.Ga<0)=false:=by cases h:decide (Zn s x.Ga<0)<;>simp_all
   have p1:QM 0 x.Ld x.From=true:=by cases h:QM 0 x.Ld x.From<;>simp_all
   have p2:Q9 {Vn x with br:=7}=true:=by cases h:Q9 {Vn x with br:=7}<;>simp_all
   have p3:Jw s x=false:=by cases h:Jw s x<;>simp_all
   obtain⟨j,y,hj,hy⟩:=QC p0;have hj':Zn s x.Ga=(j:Int):=hj;have gy:=Z6 (f:=Ga.enc) hy;have hdE:QN s (Zn s x.Ga)=y.Ld:=by rw[hj'];simp[QN,hy]
   unfold Jw at p3;rw[hdE]at p3;rw[hj']at hf p0;have ne:(x.Ld != -1) = !(x.Ld==-1):=rfl;rw[ne]at p3;cases q1:x.Ld==-1 with
   |true=>
    have ne':(x.Ld != -1)=false:=by rw[ne,q1];rfl
    have q2:(x.Why != 0)=false:=by cases h:x.Why != 0<;>simp_all
    have q3:(y.Ld != -1)=false:=by cases h:y.Ld != -1<;>simp_all
    refine⟨_,by simp only[go_sem,c77L4b,hg,hi,hw,gy,be.enc,Ga.enc,NL.enc,Qc,hf,hmd,p0,p1,p2,q1,q2,q3,ne'];rfl,?_⟩
    simp only[go_sem]
   |false=>
    have ne':(x.Ld != -1)=true:=by rw[ne,q1];rfl
    cases q4:x.Why != 12 with
    |false=>
     refine⟨_,by simp only[go_sem,c77L4b,hg,hi,hw,be.enc,Qc,hf,hmd,p0,p1,p2,q1,ne',q4];rfl,?_⟩
     simp only[go_sem]
    |true=>
     have q5:(x.Why != 11)=false:=by cases h:x.Why != 11<;>simp_all
     refine⟨_,by simp only[go_sem,c77L4b,hg,hi,hw,be.enc,Qc,hf,hmd,p0,p1,p2,q1,ne',q4,q5];rfl,?_⟩
     simp only[go_sem])
  (λi x hx hP=>by
   have hg:=Z6 (f:=be.enc) hx;have hi:=Zh<|Z7 hx;have hm:=ZSN hx;obtain⟨z1,z2,z3⟩:=hs.units x hm;have hf:=find_ok s hs.sizes x.Ga;have hmd:pfn rE 140 [I 7,.agg [I 0,I 0,I 0,I 0,I 0,.str x.Id,.str x.Ga,.str x.Text,.isl false false 1 [],.isl false false 3 [],I 0,.str emp,I 0,I 0,I 0,I 0,.isl false false 2 [],.isl false false 7 []]]=some (.bool<|Q9 {Vn x with br:=7}):=Wg 7 (Vn x) ⟨Nat.zero_le _,Nat.zero_le _,Nat.zero_le _,Nat.zero_le _,z1,z2,z3⟩
   unfold Vs at hP;cases p0:decide (Zn s x.Ga<0)with
   |true=>
    refine⟨_,by simp only[go_sem,c77L4b,hg,hi,be.enc,hf,p0];rfl,?_⟩
    simp only[go_sem]
   |false=>
   cases p1:QM 0 x.Ld x.From with
   |false=>
    refine⟨_,by simp only[go_sem,c77L4b,hg,hi,be.enc,hf,p0,Qc,p1];rfl,?_⟩
    simp only[go_sem]
   |true=>
   cases p2:Q9 {Vn x with br:=7}with
   |false=>
    refine⟨_,by simp only[go_sem,c77L4b,hg,hi,be.enc,hf,p0,Qc,p1,hmd,p2];rfl,?_⟩
    simp only[go_sem]
   |true=>
   have p3:Jw s x=true:=by simpa[p0,p1,p2]using hP
   obtain⟨j,y,hj,hy⟩:=QC p0;have hj':Zn s x.Ga=(j:Int):=hj;have gy:=Z6 (f:=Ga.enc) hy;have hdE:QN s (Zn s x.Ga)=y.Ld:=by rw[hj'];simp[QN,hy]
   unfold Jw at p3;rw[hdE]at p3;rw[hj']at hf p0;have ne:(x.Ld != -1) = !(x.Ld==-1):=rfl;rw[ne]at p3;cases q1:x.Ld==-1 with
   |true=>
    have ne':(x.Ld != -1)=false:=by rw[ne,q1];rfl
    cases q2:x.Why != 0 with
    |true=>
     refine⟨_,by simp only[go_sem,c77L4b,hg,hi,be.enc,Qc,hf,hmd,p0,p1,p2,q1,q2];rfl,?_⟩
     simp only[go_sem]
    |false=>
     have q3:(y.Ld != -1)=true:=by simpa[q1,q2]using p3
     refine⟨_,by simp only[go_sem,c77L4b,hg,hi,gy,be.enc,Ga.enc,NL.enc,Qc,hf,hmd,p0,p1,p2,q1,q2,q3];rfl,?_⟩
     simp only[go_sem]
   |false=>
    have ne':(x.Ld != -1)=true:=by rw[ne,q1];rfl
    have q4:(x.Why != 12)=true:=by cases h:x.Why != 12<;>simp_all
    have q5:(x.Why != 11)=true:=by cases h:x.Why != 11<;>simp_all
    refine⟨_,by simp only[go_sem,c77L4b,hg,hi,be.enc,Qc,hf,hmd,p0,p1,p2,q1,ne',q4,q5];rfl,?_⟩
    simp only[go_sem])
  (⟨_,by simp only[go_sem,c77L4b,ZG];rfl,by refine⟨?_,?_⟩<;>simp only[go_sem]⟩)
 exact L
def Z3i(s:Sta)(hs:StE s):pfn rE 77 [stA s]=some (.bool<|Jx s):=by
 obtain⟨f0,a0,b0,d0⟩:=Z3d s hs;obtain⟨f1,a1,b1,d1⟩:=Z3e s hs;obtain⟨f2,a2,b2,d2⟩:=Z3f s hs;obtain⟨f3,a3,b3,d3⟩:=Z3g s hs;obtain⟨f4,a4,b4,d4⟩:=Z3h s hs;rw[QE]at a0 b0 d0 a1 b1 d1 a2 b2 d2 a4 b4 d4;have hi:=Fd s hs.sizes;have hso:=Fj (Qp s) false (by have h1:=hs.sizes.regions;have h2:=hs.sizes.streets;have h3:=hs.sizes.buildings;have h4:=hs.sizes.doors;have h5:=hs.sizes.units;simp[Qp];omega)
 have hn:=Fk s hs.sizes;have hp:=Z31 s hs.sizes;rw[Z5 (f:=77) rfl rfl];unfold Jx;cases c0:s.Fa.all Vo with
 |false=>rw[c0]at a0;simp only[go_sem,c77,c77L0,a0,d0 c0,ZSo]
 |true=>
 rw[c0,if_pos rfl]at a0;obtain⟨p0,q0⟩:=b0 c0;cases c1:s.Gm.all Vp with
 |false=>rw[c1]at a1;simp only[go_sem,c77,c77L0,c77L1,a0,p0,q0,a1,d1 c1,ZSo]
 |true=>
 rw[c1,if_pos rfl]at a1;obtain⟨p1,q1⟩:=b1 c1;cases c2:s.Bt.all Vq with
 |false=>rw[c2]at a2;simp only[go_sem,c77,c77L0,c77L1,c77L2,a0,p0,q0,a1,p1,q1,a2,d2 c2,ZSo]
 |true=>
 rw[c2,if_pos rfl]at a2;obtain⟨p2,q2⟩:=b2 c2;cases c5003:Zu (Vr s) 0 s.Bc with
 |false=>rw[c5003]at a3;simp only[go_sem,c77,c77L0,c77L1,c77L2,c77L3,a0,p0,q0,a1,p1,q1,a2,p2,q2,a3,d3 c5003,ZSo]
 |true=>
 rw[c5003,if_pos rfl]at a3;obtain⟨p3,q3⟩:=b3 c5003;cases c5004:s.Nk.all (Vs s)with
 |false=>rw[c5004]at a4;simp only[go_sem,c77,c77L0,c77L1,c77L2,c77L3,c77L4,a0,p0,q0,a1,p1,q1,a2,p2,q2,a3,p3,q3,a4,d4 c5004,ZSo]
 |true=>
 rw[c5004,if_pos rfl]at a4;obtain⟨p4,q4⟩:=b4 c5004;cases c5005:Jq (Qp s)<;>cases c5006:Wh s.Bc<;>rw[c5005]at hso<;>rw[c5006]at hn<;>
  simp only[go_sem,c77,c77L0,c77L1,c77L2,c77L3,c77L4,a0,p0,q0,a1,p1,q1,a2,p2,q2,a3,p3,q3,a4,p4,q4,hi,hso,hn,hp]
def Z3j(a0 a1 a2 a3:AObj)(b:Bool):trimB 4 [a0,a1,a2,a3] b=[a0,a1,a2,a3]:=by cases b<;>rfl
def Z3k(a0 a1 a2 a3 a4:AObj)(b:Bool):trimB 5 [a0,a1,a2,a3,a4] b=[a0,a1,a2,a3,a4]:=by cases b<;>rfl
def Z3l(a0 a1 a2 a3 a4 a5:AObj)(b:Bool):trimB 6 [a0,a1,a2,a3,a4,a5] b=[a0,a1,a2,a3,a4,a5]:=by cases b<;>rfl
def Z3m(a0 a1 a2 a3 a4 a5 a6:AObj)(b:Bool):trimB 7 [a0,a1,a2,a3,a4,a5,a6] b=[a0,a1,a2,a3,a4,a5,a6]:=by cases b<;>rfl
attribute [go_sem] Z3j Z3k Z3l Z3m
structure Wk where
 s:Sta
 owner:Int
 e:Gt
 kn:List Str
abbrev wkC(w:Wk):List AV:=[.isl false false 6<|w.s.Fa.map Gk.enc,.isl false false 5<|w.s.Gm.map By.enc,.isl false false 4<|w.s.Bt.map Ev.enc,.isl false false 16<|w.s.Bc.map Ga.enc,
 .isl false false 6 (w.s.Nk.map be.enc),.isl false false 2<|w.s.Gc.map bf.enc,.isl false false 2<|w.s.ba.map bf.enc,I w.owner,
 I w.e.br,I w.e.Day,I w.e.A,I w.e.B,I w.e.bz,.str w.e.Id,.str w.e.bv,.str w.e.Text,.isl false w.e.Ids.ex 1<|w.e.Ids.l.map encS,.isl false w.e.bm.ex 3<|w.e.bm.l.map Nm.enc,
 I w.e.An.N,.str w.e.An.bn,I w.e.An.Num,I w.e.An.Den,I w.e.bg.X,I w.e.bg.Y,.isl false w.e.Path.ex 2<|w.e.Path.l.map Pt.enc,.isl false w.e.Lst.ex 7<|w.e.Lst.l.map Ent.enc,
 .isl false false 1 (w.kn.map encS)]
abbrev wH(o0 o1:AObj)(w:Wk):Hp:=[o0,o1,.row 27 [.agg<|wkC w]]
structure WkS(w:Wk):Prop where
 s:StS w.s
 e:EvS w.e
 kn:w.kn.length<=100000
def Z3o(b i off g:Nat):Zy (.ptr b i off g)=false:=(rfl)
def Z3p(b g off len:Nat)(ex:Bool):Zy (.sl b g off len ex)=false:=(rfl)
def Z3q(b:Nat):Zy (.mp b)=false:=(rfl)
attribute [go_sem] Z3o Z3p Z3q
def Z3r(n:Nat):bounds none (some<|I n) (some<|I n) n=some (0,n,some n):=by
 simp[bounds,Vz,Wl,VA,numOf,VB,Ue]
def clC(sz:Nat):ACode:=
 .seq (.region [o 2<|.mv<|.c<|.isl false false sz []])<|
 .seq (.keep [2]<|.region [o 3<|.mv<|.t 0,o 4<|.mv<|.t 0,o 5<|.len 1<|.t 4,o 6<|.mv<|.t 0,o 7<|.len 1<|.t 6,o 8<|.slc sz (.t 3) none (some<|.t 5)<|some<|.t 7,o 2<|.mv<|.t 8])<|
 .ret
def Jy{sz f:Nat}(hs:rE.sum f=none)(hf:rE.fn f=some ⟨[.tmp 2],clC sz⟩)(ex:Bool)(es:List AV):pfn rE f [.isl false ex sz es]=some (.isl false true sz es):=by
 have hb:=Z3r es.length;have ht:List.take (es.length-0) es=es:=ZSX<|by omega
 have hm:(match some es.length with|none=>ex&&es.length==es.length|some m=>m==es.length)=true:=by simp
 rw[Z5 (f:=f) hs hf];simp only[go_sem,clC,hb,hm,ht]
def Z3s(es:List AV):pfn rE 147 [.isl false false 6 es]=some (.isl false true 6 es):=Jy rfl rfl false es
def Z3t(es:List AV):pfn rE 150 [.isl false false 5 es]=some (.isl false true 5 es):=Jy rfl rfl false es
def Z3u(es:List AV):pfn rE 157 [.isl false false 4 es]=some (.isl false true 4 es):=Jy rfl rfl false es
def Ft(es:List AV):pfn rE 267 [.isl false false 16 es]=some (.isl false true 16 es):=Jy rfl rfl false es
def Z3v(es:List AV):pfn rE 160 [.isl false false 6 es]=some (.isl false true 6 es):=Jy rfl rfl false es
def Fu(es:List AV):pfn rE 177 [.isl false false 2 es]=some (.isl false true 2 es):=Jy rfl rfl false es
def Vt{h:Hp}{aid sz bytes:Nat}{es ys:List AV}{bw bw2 ex:Bool}(hy:ys.isEmpty=false)(h0:0<sz)(h1:0<bytes)(h2:(es.length+ys.length)*bytes<=140737488355328)(hc:Z4 (es++ys)=true):
 Qt h aid true sz bytes (.isl bw true sz es) (.isl bw2 ex sz ys)=some (.isl false false sz<|es++ys,[],none):=by
 simp only[Qt,Q2,Qq,beq_self_eq_true,Bool.true_or,h0,h1,h2,and_self,if_true,hy,cond_false,Yp,Zs,ZT9,cond_true,hc]
def chC(sz f:Nat):ACode:=
 .seq (.region [o 6<|.mv<|.c<|.isl false false sz []])<|
 .seq (.keep [1,2,7]<|.region [o 8<|.rel<|.t 0,o 9<|.call false f [(.t 8)],o 7<|.mv<|.t 9])<|
 .seq (.keep [7]<|.region [o 10<|.mv<|.t 2,o 11<|.mv<|.t 7,o 12<|.mv<|.t 1,o 13<|.iadr sz (.t 11)<|.t 12,o 14<|.callv false (.t 10) [(.t 13)]])<|
 .seq (.region [o 15<|.mv<|.t 7,o 6<|.mv<|.t 15])<|
 .ret
def Xj{α:Type}{f:α->AV}{sz:Nat}(h:∀x,fits sz (f x)=true)(l:List α):(l.map f).all (fits sz)=true:=by
 rw[List.all_map,ZSe];intro x _;exact h x
def Xk{sz f g fc:Nat}(hs:rE.sum fc=none)(hf:rE.fn fc=some ⟨[.tmp 6],chC sz f⟩)(hcl:rE.sum f=some (ZO8 sz))(es es' cap:List AV)(v:AV)(ex:Bool)(k:Nat)(hk:k<es.length)(hfit:es.all (fits sz)=true)(hle:es.length<=1000000)
 (h2:fnV rE g (.ptr 0 k 0 es.length::cap) [.row sz es]=some (v,[.row sz es'])) (hl:es'.length=es.length) (hc:Z4 es'=true):
 pfn rE fc [.isl false ex sz es,I k,.clo (.func g) [] cap]=some (.isl false false sz es'):=by
 have h1:fnV rE f [.isl false ex sz es] []=some (.sl 0 es.length 0 es.length false,[.row sz es]):=by
  have hble:Nat.ble es.length 1000000=true:=ZT2 hle;have hne:es.isEmpty=false:=by cases es with|nil=>simp at hk|cons a r=>rfl
  rw[V8 hcl];simp only[ZO8,Q2,Qq,hfit,hble,hne,beq_self_eq_true,Bool.true_or,ZSu,ZSw,cond_true,ZT1,ZT8]
 have hlt:(0<=(k:Int)/\(k:Int)<(es.length:Int)):=by omega
 have hia:iaP 0 es.length 0 sz (k:Int) es.length (some (sz,es))=some (.ptr 0 k 0 es.length):=by
  rw[VT _ _ _ _ _ _ _ hlt];simp
 have ht:List.take es.length es'=es':=ZSX<|by omega
 rw[Z5 (f:=fc) hs hf];simp only[go_sem,chC,h1,hia,RL,h2,beq_self_eq_true,hl,ht,hc]
def twB(w:Wk)(id:Str):Bool:=w.kn.any<|λx=>Z3 id x
def Wj(w:Wk)(hw:WkS w)(id:Str):pfn rE 146 [.iptr true<|wkC w,.str id]=some (.bool<|twB w id):=by
 have h:=Nz (f:=333) (enc:=encS) (p:=λx=>Z3 id x) (v:=.str id) rfl rfl w.kn (by have:=hw.kn;omega) (λx _=>rfl) rfl (λx _=>rfl) false false
 have h2:pfn rE 248 [.isl false false 1<|w.kn.map encS,.str id]=some (.bool<|w.kn.any<|λx=>Z3 id x):=by
  rw[Z5 (f:=248) rfl rfl,<-Vg];unfold WG;simp only[go_sem,c248,h]
 rw[Z5 (f:=146) rfl rfl];unfold twB;simp only[go_sem,c146,h2]
def NP(w:Wk):By:=⟨w.e.Id,w.owner,w.e.Path,⟨false,[]⟩,-1⟩
def NQ(w:Wk):Ev:=⟨w.e.Id,w.owner,w.e.Path,-1⟩
def Jz(w:Wk):Wk:={w with s:={w.s with Gm:=w.s.Gm++[NP w]}}
def JA(w:Wk):Wk:={w with s:={w.s with Bt:=w.s.Bt++[NQ w]}}
def Hh(w:Wk):Wk:={w with s:={w.s with ba:=w.s.ba++[⟨w.e.A,w.e.B⟩]}}
def Z3w(o0 o1:AObj)(w:Wk)(hw:WkS w):∃t,fnV rE 80 [.ptr 2 0 0 1] (wH o0 o1 w)=some (I<|bif twB w w.e.Id then 8 else 0,wH o0 o1 (bif twB w w.e.Id then w else Jz w)++t):=by
 have htw:=Wj w hw w.e.Id;have hcs:Z4 (w.s.Gm.map By.enc)=true:=Zw (λt=>rfl) _
 have ha:=λ(h:Hp)(aid:Nat)=>Vt (h:=h) (aid:=aid) (sz:=5) (bytes:=80) (es:=w.s.Gm.map By.enc) (ys:=[.agg [.str w.e.Id,I w.owner,.isl false w.e.Path.ex 2<|w.e.Path.l.map Pt.enc,.isl false false 3 [],I<|-1]]) (bw:=false) (bw2:=false) (ex:=false) rfl (by omega) (by omega) (by have:=hw.s.streets;simp;omega) (by simp only[XA,hcs];rfl)
 rw[Q6 (f:=80) rfl rfl];cases c:twB w w.e.Id with
 |true=>
  rw[c]at htw;refine⟨[],?_⟩;simp only[go_sem,c80,htw,ZT9]
 |false=>
  rw[c]at htw;refine⟨[],?_⟩;simp only[go_sem,c80,htw,Z3t,wrB,appW,ha,ZM,ZH,Jz,NP,ZTs,wH,wkC,By.enc,NL.enc,ZT9]
def Z3x(o0 o1:AObj)(w:Wk)(hw:WkS w):∃t,fnV rE 83 [.ptr 2 0 0 1] (wH o0 o1 w)=some (I<|bif twB w w.e.Id then 8 else 0,wH o0 o1 (bif twB w w.e.Id then w else JA w)++t):=by
 have htw:=Wj w hw w.e.Id;have hcs:Z4 (w.s.Bt.map Ev.enc)=true:=Zw (λt=>rfl) _
 have ha:=λ(h:Hp)(aid:Nat)=>Vt (h:=h) (aid:=aid) (sz:=4) (bytes:=56) (es:=w.s.Bt.map Ev.enc) (ys:=[.agg [.str w.e.Id,I w.owner,.isl false w.e.Path.ex 2<|w.e.Path.l.map Pt.enc,I<|-1]]) (bw:=false) (bw2:=false) (ex:=false) rfl (by omega) (by omega) (by have:=hw.s.buildings;simp;omega) (by simp only[XA,hcs];rfl)
 rw[Q6 (f:=83) rfl rfl];cases c:twB w w.e.Id with
 |true=>
  rw[c]at htw;refine⟨[],?_⟩;simp only[go_sem,c83,htw,ZT9]
 |false=>
  rw[c]at htw;refine⟨[],?_⟩;simp only[go_sem,c83,htw,Z3u,wrB,appW,ha,ZM,ZH,JA,NQ,ZTs,wH,wkC,Ev.enc,NL.enc,ZT9]
def Z3y(o0 o1:AObj)(w:Wk)(hw:WkS w):∃t,fnV rE 92 [.ptr 2 0 0 1] (wH o0 o1 w)=some (I 0,wH o0 o1 (Hh w)++t):=by
 have hcs:Z4 (w.s.ba.map bf.enc)=true:=Zw (λt=>rfl) _
 have ha:=λ(h:Hp)(aid:Nat)=>Vt (h:=h) (aid:=aid) (sz:=2) (bytes:=16) (es:=w.s.ba.map bf.enc) (ys:=[.agg [I w.e.A,I w.e.B]]) (bw:=false) (bw2:=false) (ex:=false) rfl (by omega) (by omega) (by have:=hw.s.rulings;simp;omega) (by simp only[XA,hcs];rfl)
 rw[Q6 (f:=92) rfl rfl];refine⟨[],?_⟩;simp only[go_sem,c92,Fu,wrB,appW,ha,ZM,ZH,Hh,ZTs,wH,wkC,bf.enc,ZT9]
def NR(w:Wk):be:=⟨w.e.Id,w.e.bv,w.e.Text,w.e.Day,-1,0⟩
def JB(w:Wk):Int:=bif twB w w.e.Id then 8 else bif decide (Zn w.s w.e.bv<0)then 10 else bif QN w.s (Zn w.s w.e.bv) != -1 then 11 else 0
def JC(w:Wk):Wk:={w with s:={w.s with Nk:=w.s.Nk++[NR w]}}
def Z3z(o0 o1:AObj)(w:Wk)(hw:WkS w):∃t,fnV rE 85 [.ptr 2 0 0 1] (wH o0 o1 w)=some (I<|JB w,wH o0 o1 (bif JB w==0 then JC w else w)++t):=by
 have htw:=Wj w hw w.e.Id;have hf:=find_ok w.s hw.s w.e.bv;have hcs:Z4 (w.s.Nk.map be.enc)=true:=Zw (λt=>rfl) _
 have ha:=λ(h:Hp)(aid:Nat)=>Vt (h:=h) (aid:=aid) (sz:=6) (bytes:=72) (es:=w.s.Nk.map be.enc) (ys:=[.agg [.str w.e.Id,.str w.e.bv,.str w.e.Text,I w.e.Day,I<|-1,I 0]]) (bw:=false) (bw2:=false) (ex:=false) rfl (by omega) (by omega) (by have:=hw.s.units;simp;omega) (by simp only[XA,hcs];rfl)
 have z8:((8:Int)==0)=false:=rfl;have z10:((10:Int)==0)=false:=rfl;have z11:((11:Int)==0)=false:=rfl;have z0:((0:Int)==0)=true:=rfl;rw[Q6 (f:=85) rfl rfl];unfold JB;refine⟨[],?_⟩;cases c:twB w w.e.Id with
 |true=>
  rw[c]at htw;simp only[go_sem,c85,htw,hf,z8,ZT9]
 |false=>
 rw[c]at htw;cases c1:decide (Zn w.s w.e.bv<0)with
 |true=>simp only[go_sem,c85,htw,hf,c1,z10,ZT9]
 |false=>
 obtain⟨j,y,hj,hy⟩:=QC c1;have hj':Zn w.s w.e.bv=(j:Int):=hj;have gy:=Z6 (f:=Ga.enc) hy;have hdE:QN w.s (Zn w.s w.e.bv)=y.Ld:=by rw[hj'];simp[QN,hy]
 rw[hdE];rw[hj']at hf c1;cases c2:y.Ld != -1 with
 |true=>simp only[go_sem,c85,htw,hf,c1,gy,Ga.enc,NL.enc,c2,z11,ZT9]
 |false=>simp only[go_sem,c85,htw,hf,c1,gy,Ga.enc,NL.enc,c2,z0,Z3v,wrB,appW,ha,ZM,ZH,JC,NR,ZTs,wH,wkC,be.enc,ZT9]
def Xl(w:Wk)(d:Ga):Ga:={d with bh:=w.owner,From:=w.e.Day,Ld:=-1}
def Qw(w:Wk)(d:Ga):Wk:={w with s:={w.s with Bc:=w.s.Bc++[Xl w d]}}
def Fv(o0 o1:AObj)(w:Wk)(hw:WkS w)(d:Ga)(t:Hp)(ht:t=[]\/(∃x,t=[x])\/(∃x y,t=[x,y])\/∃x y z,t=[x,y,z]):
 ∃q,fnV rE 159 [.ptr 2 0 0 1,Zo d] (wH o0 o1 w++t)=some (.tup [],wH o0 o1 (Qw w d)++t++[q])/\∀n,Zj n q=true:=by
 have hcs:Z4 (w.s.Bc.map Ga.enc)=true:=Zw (λt=>rfl) _
 have ha:=λ(h:Hp)(aid:Nat)=>Vt (h:=h) (aid:=aid) (sz:=16) (bytes:=184) (es:=w.s.Bc.map Ga.enc) (ys:=[Zo<|Xl w d]) (bw:=false) (bw2:=false) (ex:=false) rfl (by omega) (by omega) (by have:=hw.s.doors;simp;omega) (by simp only[XA,hcs];rfl)
 refine⟨.row 16 [Zo<|Xl w d],?_,λn=>rfl⟩
 unfold Zo Xl at ha⊢;simp only at ha⊢;rw[Q6 (f:=159) rfl rfl];rcases ht with rfl|⟨x,rfl⟩|⟨x,y,rfl⟩|⟨x,y,z,rfl⟩<;>
  simp only[go_sem,c159,Ft,wrB,appW,ha,ZM,ZH,Qw,Xl,ZTs,wH,wkC,Ga.enc,NL.enc,ZT9]
def UD(w:Wk):Ga:=⟨w.e.Id,emp,emp,0,⟨0,emp,0,0⟩,⟨0,0⟩,0,0,⟨false,[]⟩,0,w.e.bz,w.e.Text⟩
def UE(w:Wk):Ga:=⟨w.e.Id,w.e.bv,w.e.Text,0,w.e.An,w.e.bg,0,0,⟨false,[]⟩,0,0,emp⟩
def Z3A(o0 o1:AObj)(h0:∀n,Zj n o0=true)(h1:∀n,Zj n o1=true)(w:Wk)(hw:WkS w):∃t,fnV rE 93 [.ptr 2 0 0 1] (wH o0 o1 w)=some (I<|bif twB w w.e.Id then 8 else 0,wH o0 o1 (bif twB w w.e.Id then w else Qw w<|UD w)++t):=by
 have htw:=Wj w hw w.e.Id;obtain⟨q,ho,hq⟩:=Fv o0 o1 w hw (UD w) []<|Or.inl rfl;rw[ZT9,ZT9]at ho;have ho':fnV rE 159 [.ptr 2 0 0 1,.agg [.str w.e.Id,.str emp,.str emp,I 0,I 0,.str emp,I 0,I 0,I 0,I 0,I 0,I 0,.isl false false 1 [],I 0,I w.e.bz,.str w.e.Text]] (wH o0 o1 w)=_:=ho;rw[Q6 (f:=93) rfl rfl];refine⟨[],?_⟩;cases c:twB w w.e.Id with
 |true=>
  rw[c]at htw;simp only[go_sem,c93,htw,ZT9]
 |false=>
  rw[c]at htw;simp only[go_sem,c93,htw,ho',wH,h0,h1,ZT9]
def JD(w:Wk):Int:=bif twB w w.e.Id then 8 else bif decide (Y1 w.s w.e.bv<0)||decide (ZL w.s w.e.Text<0)then 10 else bif WL w.s (Y1 w.s w.e.bv) != -1||QF w.s (ZL w.s w.e.Text) != -1 then 11 else 0
def Z3B(o0 o1:AObj)(h0:∀n,Zj n o0=true)(h1:∀n,Zj n o1=true)(w:Wk)(hw:WkS w):∃t,fnV rE 84 [.ptr 2 0 0 1] (wH o0 o1 w)=some (I<|JD w,wH o0 o1 (bif JD w==0 then Qw w (UE w)else w)++t):=by
 have htw:=Wj w hw w.e.Id;have hb:=Hb w.s hw.s w.e.bv;have ht:=K7 w.s hw.s w.e.Text;obtain⟨q,ho,hq⟩:=Fv o0 o1 w hw (UE w) []<|Or.inl rfl;rw[ZT9,ZT9]at ho;have ho':fnV rE 159 [.ptr 2 0 0 1,.agg [.str w.e.Id,.str w.e.bv,.str w.e.Text,I 0,I w.e.An.N,.str w.e.An.bn,I w.e.An.Num,I w.e.An.Den,I w.e.bg.X,I w.e.bg.Y,I 0,I 0,.isl false false 1 [],I 0,I 0,.str emp]] (wH o0 o1 w)=_:=ho;have z8:((8:Int)==0)=false:=rfl;have z10:((10:Int)==0)=false:=rfl;have z11:((11:Int)==0)=false:=rfl;have z0:((0:Int)==0)=true:=rfl;rw[Q6 (f:=84) rfl rfl];unfold JD;refine⟨[],?_⟩;cases c:twB w w.e.Id with
 |true=>rw[c]at htw;simp only[go_sem,c84,htw,hb,ht,z8,ZT9]
 |false=>
 rw[c]at htw;cases c1:decide (Y1 w.s w.e.bv<0)with
 |true=>simp only[go_sem,c84,htw,hb,ht,c1,z10,ZT9]
 |false=>
 cases c2:decide (ZL w.s w.e.Text<0)with
 |true=>simp only[go_sem,c84,htw,hb,ht,c1,c2,z10,ZT9]
 |false=>
 obtain⟨j,x,hj,hx⟩:=QC c1;obtain⟨k,y,hk,hy⟩:=QC c2;have hj':Y1 w.s w.e.bv=(j:Int):=hj;have hk':ZL w.s w.e.Text=(k:Int):=hk;have hbE:WL w.s (Y1 w.s w.e.bv)=x.Ld:=by rw[hj'];simp[WL,hx]
 have hsE:QF w.s (ZL w.s w.e.Text)=y.Ld:=by rw[hk'];simp[QF,hy]
 have gx:=Z6 (f:=Ev.enc) hx;have gy:=Z6 (f:=By.enc) hy;rw[hbE,hsE];rw[hj']at hb c1;rw[hk']at ht c2;cases c5003:x.Ld != -1 with
 |true=>simp only[go_sem,c84,htw,hb,ht,c1,c2,gx,Ev.enc,NL.enc,c5003,z11,ZT9]
 |false=>
 cases c5004:y.Ld != -1 with
 |true=>simp only[go_sem,c84,htw,hb,ht,c1,c2,gx,gy,Ev.enc,By.enc,NL.enc,c5003,c5004,z11,ZT9]
 |false=>simp only[go_sem,c84,htw,hb,ht,c1,c2,gx,gy,Ev.enc,By.enc,NL.enc,c5003,c5004,z0,ho',h0,h1,ZT9]
def ZK{α:Type}(l:List α)(k:Nat)(f:α->α):List α:=match l[k]? with|some x=>l.set k (f x)|none=>l
def YA{α:Type}{l:List α}{k:Nat}{x:α}(h:l[k]?=some x)(f:α->α):ZK l k f=l.set k (f x):=by simp[ZK,h]
def NS(p:NL Pt)(x:Gk):Gk:={x with Ring:=p}
def NT(p:NL Nm)(x:Gk):Gk:={x with bm:=p}
def XN(p:NL Nm)(x:By):By:={x with bm:=p}
def Z3C(w:Wk)(l:List Gk)(k:Nat)(x:Gk)(hx:l[k]?=some x)(hle:l.length<=1000000):pfn rE 148 [.isl false false 6<|l.map Gk.enc,I k,.clo (.func 149) [] [.iptr true [.iptr true<|wkC w]]]=some (.isl false false 6<|(ZK l k<|NS w.e.Path).map Gk.enc):=by
 have hk:=Z7 hx;have hg:=Z6 (f:=Gk.enc) hx;rw[YA hx,List.map_set];refine Xk (sz:=6) (f:=261) rfl rfl rfl _ _ _ (.tup []) false k (by simpa using hk) (Xj (λ_=>rfl) _) (by simpa using hle) ?_ (by simp) ?_
 .rw[Q6 (f:=149) rfl rfl];simp only[go_sem,c149,beq_self_eq_true,hg,Gk.enc,NL.enc,NS]
 .rw[<-List.map_set];exact Zw (λt=>rfl) _
def Z3D(w:Wk)(l:List Gk)(k:Nat)(x:Gk)(hx:l[k]?=some x)(hle:l.length<=1000000):pfn rE 148 [.isl false false 6<|l.map Gk.enc,I k,.clo (.func 152) [] [.iptr true [.iptr true<|wkC w]]]=some (.isl false false 6<|(ZK l k<|NT w.e.bm).map Gk.enc):=by
 have hk:=Z7 hx;have hg:=Z6 (f:=Gk.enc) hx;rw[YA hx,List.map_set];refine Xk (sz:=6) (f:=261) rfl rfl rfl _ _ _ (.tup []) false k (by simpa using hk) (Xj (λ_=>rfl) _) (by simpa using hle) ?_ (by simp) ?_
 .rw[Q6 (f:=152) rfl rfl];simp only[go_sem,c152,beq_self_eq_true,hg,Gk.enc,NL.enc,NT]
 .rw[<-List.map_set];exact Zw (λt=>rfl) _
def Z3E(w:Wk)(l:List By)(k:Nat)(x:By)(hx:l[k]?=some x)(hle:l.length<=1000000):pfn rE 153 [.isl false false 5<|l.map By.enc,I k,.clo (.func 154) [] [.iptr true [.iptr true<|wkC w]]]=some (.isl false false 5<|(ZK l k<|XN w.e.bm).map By.enc):=by
 have hk:=Z7 hx;have hg:=Z6 (f:=By.enc) hx;rw[YA hx,List.map_set];refine Xk (sz:=5) (f:=264) rfl rfl rfl _ _ _ (.tup []) false k (by simpa using hk) (Xj (λ_=>rfl) _) (by simpa using hle) ?_ (by simp) ?_
 .rw[Q6 (f:=154) rfl rfl];simp only[go_sem,c154,beq_self_eq_true,hg,By.enc,NL.enc,XN]
 .rw[<-List.map_set];exact Zw (λt=>rfl) _
def Z3F(p:NL Nm)(l:List By)(k:Nat)(x:By)(hx:l[k]?=some x)(hle:l.length<=1000000):pfn rE 153 [.isl false false 5<|l.map By.enc,I k,.clo (.func 155) [] [.iptr true [.isl false p.ex 3<|p.l.map Nm.enc]]]=some (.isl false false 5<|(ZK l k<|XN p).map By.enc):=by
 have hk:=Z7 hx;have hg:=Z6 (f:=By.enc) hx;rw[YA hx,List.map_set];refine Xk (sz:=5) (f:=264) rfl rfl rfl _ _ _ (.tup []) false k (by simpa using hk) (Xj (λ_=>rfl) _) (by simpa using hle) ?_ (by simp) ?_
 .rw[Q6 (f:=155) rfl rfl];simp only[go_sem,c155,beq_self_eq_true,hg,By.enc,NL.enc,XN]
 .rw[<-List.map_set];exact Zw (λt=>rfl) _
def Z3G(p:NL Nm)(l:List By)(k:Nat)(x:By)(hx:l[k]?=some x)(hle:l.length<=1000000):pfn rE 153 [.isl false false 5<|l.map By.enc,I k,.clo (.func 156) [] [.iptr true [.isl false p.ex 3<|p.l.map Nm.enc]]]=some (.isl false false 5<|(ZK l k<|XN p).map By.enc):=by
 have hk:=Z7 hx;have hg:=Z6 (f:=By.enc) hx;rw[YA hx,List.map_set];refine Xk (sz:=5) (f:=264) rfl rfl rfl _ _ _ (.tup []) false k (by simpa using hk) (Xj (λ_=>rfl) _) (by simpa using hle) ?_ (by simp) ?_
 .rw[Q6 (f:=156) rfl rfl];simp only[go_sem,c156,beq_self_eq_true,hg,By.enc,NL.enc,XN]
 .rw[<-List.map_set];exact Zw (λt=>rfl) _
def Fw(w:Wk):Gk:=⟨w.e.Id,w.e.A,w.owner,w.e.Path,⟨false,[]⟩,-1⟩
def WM(s:Sta)(k:Int):Int:=match s.Fa[k.toNat]? with|some b=>b.Ld|none=>0
def NU(s:Sta)(k:Int):Int:=match s.Fa[k.toNat]? with|some b=>b.br|none=>0
def Hi(w:Wk):Int:=bif decide (Qo w.s w.e.Id<0)then(bif twB w w.e.Id then 8 else 0)else bif WM w.s (Qo w.s w.e.Id) != -1||NU w.s (Qo w.s w.e.Id) != w.e.A then 11 else 0
def Hj(w:Wk):Wk:={w with s:={w.s with Fa:=bif decide (Qo w.s w.e.Id<0)then w.s.Fa++[Fw w]else ZK w.s.Fa (Qo w.s w.e.Id).toNat (NS w.e.Path)}}
def Z3H(o0 o1:AObj)(h0:∀n,Zj n o0=true)(h1:∀n,Zj n o1=true)(w:Wk)(hw:WkS w):∃t,fnV rE 79 [.ptr 2 0 0 1] (wH o0 o1 w)=some (I<|Hi w,wH o0 o1 (bif Hi w==0 then Hj w else w)++t):=by
 have htw:=Wj w hw w.e.Id;have hr:=NI w.s hw.s w.e.Id;have hcs:Z4 (w.s.Fa.map Gk.enc)=true:=Zw (λt=>rfl) _
 have ha:=λ(h:Hp)(aid:Nat)=>Vt (h:=h) (aid:=aid) (sz:=6) (bytes:=88) (es:=w.s.Fa.map Gk.enc) (ys:=[.agg [.str w.e.Id,I w.e.A,I w.owner,.isl false w.e.Path.ex 2<|w.e.Path.l.map Pt.enc,.isl false false 3 [],I<|-1]]) (bw:=false) (bw2:=false) (ex:=false) rfl (by omega) (by omega) (by have:=hw.s.regions;simp;omega) (by simp only[XA,hcs];rfl)
 have z8:((8:Int)==0)=false:=rfl;have z11:((11:Int)==0)=false:=rfl;have z0:((0:Int)==0)=true:=rfl;rw[Q6 (f:=79) rfl rfl];unfold Hi Hj;refine⟨[.row 1 [.ptr 2 0 0 1]],?_⟩;cases c1:decide (Qo w.s w.e.Id<0)with
 |true=>
  cases c:twB w w.e.Id with
  |true=>rw[c]at htw;simp only[go_sem,c79,wH,htw,hr,c1,z8]
  |false=>
   rw[c]at htw;simp only[go_sem,c79,htw,hr,c1,z0,Z3s,wrB,appW,ha,ZM,ZH,Fw,ZTs,wH,wkC,Gk.enc,NL.enc]
 |false=>
  obtain⟨j,x,hj,hx⟩:=QC c1;have hj':Qo w.s w.e.Id=(j:Int):=hj;have gx:=Z6 (f:=Gk.enc) hx;have hE:WM w.s (j:Int)=x.Ld:=by simp[WM,hx]
  have hK:NU w.s (j:Int)=x.br:=by simp[NU,hx]
  have hn:((j:Int)).toNat=j:=rfl;have hch:=Z3C w w.s.Fa j x hx (by have:=hw.s.regions;omega)
  rw[hj']at hr c1⊢;rw[hE,hK,hn];cases c5003:x.Ld != -1 with
  |true=>simp only[go_sem,c79,wH,hr,c1,gx,Gk.enc,NL.enc,c5003,z11]
  |false=>
  cases c5004:x.br != w.e.A with
  |true=>simp only[go_sem,c79,wH,hr,c1,gx,Gk.enc,NL.enc,c5003,c5004,z11]
  |false=>simp only[go_sem,c79,wH,hr,c1,gx,Gk.enc,NL.enc,c5003,c5004,z0,hch]
def Hk(w:Wk):Int:=
 bif decide (Qo w.s w.e.Id<0)&&decide (ZL w.s w.e.Id<0)then 10
 else bif (decide (Qo w.s w.e.Id>=0)&&WM w.s (Qo w.s w.e.Id) != -1)||(decide (ZL w.s w.e.Id>=0)&&QF w.s (ZL w.s w.e.Id) != -1)then 11 else 0
def Hl(w:Wk):Wk:=
 bif decide (Qo w.s w.e.Id>=0)then {w with s:={w.s with Fa:=ZK w.s.Fa (Qo w.s w.e.Id).toNat (NT w.e.bm)}}
 else {w with s:={w.s with Gm:=ZK w.s.Gm (ZL w.s w.e.Id).toNat (XN w.e.bm)}}
def K9{n:Int}(h:decide (n<0)=false):decide (n>=0)=true:=decide_eq_true (by have:=of_decide_eq_false h;omega)
def JE{n:Int}(h:decide (n<0)=true):decide (n>=0)=false:=decide_eq_false (by have:=of_decide_eq_true h;omega)
def Z3I(o0 o1:AObj)(h0:∀n,Zj n o0=true)(h1:∀n,Zj n o1=true)(w:Wk)(hw:WkS w):∃t,fnV rE 81 [.ptr 2 0 0 1] (wH o0 o1 w)=some (I<|Hk w,wH o0 o1 (bif Hk w==0 then Hl w else w)++t):=by
 have hr:=NI w.s hw.s w.e.Id;have ht:=K7 w.s hw.s w.e.Id;have z10:((10:Int)==0)=false:=rfl;have z11:((11:Int)==0)=false:=rfl;have z0:((0:Int)==0)=true:=rfl;rw[Q6 (f:=81) rfl rfl];unfold Hk Hl;refine⟨[.row 1 [.ptr 2 0 0 1]],?_⟩;cases c1:decide (Qo w.s w.e.Id<0)with
 |true=>
  have d1:=JE c1;cases c2:decide (ZL w.s w.e.Id<0)with
  |true=>simp only[go_sem,c81,wH,hr,ht,c1,c2,z10]
  |false=>
   have d2:=K9 c2;obtain⟨k,y,hk,hy⟩:=QC c2;have hk':ZL w.s w.e.Id=(k:Int):=hk;have gy:=Z6 (f:=By.enc) hy;have hsE:QF w.s (k:Int)=y.Ld:=by simp[QF,hy]
   have hn:((k:Int)).toNat=k:=rfl;have hch:=Z3E w w.s.Gm k y hy (by have:=hw.s.streets;omega)
   rw[hk']at ht c2 d2⊢;rw[hsE,hn];cases c5003:y.Ld != -1 with
   |true=>simp only[go_sem,c81,wH,hr,ht,c1,c2,d1,d2,gy,By.enc,NL.enc,c5003,z11]
   |false=>simp only[go_sem,c81,wH,hr,ht,c1,c2,d1,d2,gy,By.enc,NL.enc,c5003,z0,hch]
 |false=>
  have d1:=K9 c1;obtain⟨j,x,hj,hx⟩:=QC c1;have hj':Qo w.s w.e.Id=(j:Int):=hj;have gx:=Z6 (f:=Gk.enc) hx;have hrE:WM w.s (j:Int)=x.Ld:=by simp[WM,hx]
  have hnj:((j:Int)).toNat=j:=rfl;have hch:=Z3D w w.s.Fa j x hx (by have:=hw.s.regions;omega)
  rw[hj']at hr c1 d1⊢;rw[hrE,hnj];cases c5003:x.Ld != -1 with
  |true=>simp only[go_sem,c81,wH,hr,ht,c1,d1,gx,Gk.enc,NL.enc,c5003,z11]
  |false=>
  cases c2:decide (ZL w.s w.e.Id<0)with
  |true=>
   have d2:=JE c2;simp only[go_sem,c81,wH,hr,ht,c1,d1,d2,gx,Gk.enc,NL.enc,c5003,z0,hch]
  |false=>
   have d2:=K9 c2;obtain⟨k,y,hk,hy⟩:=QC c2;have hk':ZL w.s w.e.Id=(k:Int):=hk;have gy:=Z6 (f:=By.enc) hy;have hsE:QF w.s (k:Int)=y.Ld:=by simp[QF,hy]
   rw[hk']at ht c2 d2⊢;rw[hsE];cases c5004:y.Ld != -1 with
   |true=>simp only[go_sem,c81,wH,hr,ht,c1,d1,d2,gx,gy,Gk.enc,By.enc,NL.enc,c5003,c5004,z11]
   |false=>simp only[go_sem,c81,wH,hr,ht,c1,d1,d2,gx,gy,Gk.enc,By.enc,NL.enc,c5003,c5004,z0,hch]
def Hm(w:Wk):Int:=
 bif decide (ZL w.s w.e.Id<0)||decide (ZL w.s w.e.bv<0)then 10 else bif QF w.s (ZL w.s w.e.Id) != -1||QF w.s (ZL w.s w.e.bv) != -1 then 11 else 0
def JF(s:Sta)(k:Nat):NL Nm:=match s.Gm[k]? with|some x=>x.bm|none=>⟨false,[]⟩
def exW(w:Wk):Wk:={w with s:={w.s with Gm:=ZK (ZK w.s.Gm (ZL w.s w.e.Id).toNat<|XN<|JF w.s (ZL w.s w.e.bv).toNat) (ZL w.s w.e.bv).toNat (XN<|JF w.s (ZL w.s w.e.Id).toNat)}}
def Xm{α:Type}(l:List α)(k:Nat)(f:α->α):(ZK l k f).length=l.length:=by
 unfold ZK;cases l[k]?<;>simp
def Z3J(o0 o1:AObj)(h0:∀n,Zj n o0=true)(h1:∀n,Zj n o1=true)(w:Wk)(hw:WkS w):∃t,fnV rE 82 [.ptr 2 0 0 1] (wH o0 o1 w)=some (I<|Hm w,wH o0 o1 (bif Hm w==0 then exW w else w)++t):=by
 have hr:=K7 w.s hw.s w.e.Id;have ht:=K7 w.s hw.s w.e.bv;have z10:((10:Int)==0)=false:=rfl;have z11:((11:Int)==0)=false:=rfl;have z0:((0:Int)==0)=true:=rfl;rw[Q6 (f:=82) rfl rfl];unfold Hm exW;cases c1:decide (ZL w.s w.e.Id<0)with
 |true=>refine⟨[],?_⟩;simp only[go_sem,c82,wH,hr,ht,c1,z10,ZT9]
 |false=>
 cases c2:decide (ZL w.s w.e.bv<0)with
 |true=>refine⟨[],?_⟩;simp only[go_sem,c82,wH,hr,ht,c1,c2,z10,ZT9]
 |false=>
 obtain⟨j,x,hj,hx⟩:=QC c1;obtain⟨k,y,hk,hy⟩:=QC c2;have hj':ZL w.s w.e.Id=(j:Int):=hj;have hk':ZL w.s w.e.bv=(k:Int):=hk;have gx:=Z6 (f:=By.enc) hx;have gy:=Z6 (f:=By.enc) hy;have hxE:QF w.s (j:Int)=x.Ld:=by simp[QF,hx]
 have hyE:QF w.s (k:Int)=y.Ld:=by simp[QF,hy]
 have hnj:((j:Int)).toNat=j:=rfl;have hnk:((k:Int)).toNat=k:=rfl;have hxN:JF w.s j=x.bm:=by simp[JF,hx]
 have hyN:JF w.s k=y.bm:=by simp[JF,hy]
 rw[hj']at hr c1⊢;rw[hk']at ht c2⊢;rw[hxE,hyE,hnj,hnk,hxN,hyN];cases c5003:x.Ld != -1 with
 |true=>refine⟨[],?_⟩;simp only[go_sem,c82,wH,hr,ht,c1,c2,gx,By.enc,NL.enc,c5003,z11,ZT9]
 |false=>
 cases c5004:y.Ld != -1 with
 |true=>refine⟨[],?_⟩;simp only[go_sem,c82,wH,hr,ht,c1,c2,gx,gy,By.enc,NL.enc,c5003,c5004,z11,ZT9]
 |false=>
  have hch:=Z3F y.bm w.s.Gm j x hx (by have:=hw.s.streets;omega)
  obtain⟨y',hy'⟩:∃y',(ZK w.s.Gm j<|XN y.bm)[k]?=some y':=⟨_,ZSb<|by rw[Xm];exact Z7 hy⟩
  have hch2:=Z3G x.bm (ZK w.s.Gm j<|XN y.bm) k y' hy' (by have:=hw.s.streets;rw[Xm];omega)
  refine⟨[.row 1 [.isl false x.bm.ex 3<|x.bm.l.map Nm.enc],.row 1 [.isl false y.bm.ex 3<|y.bm.l.map Nm.enc]],?_⟩;simp only[go_sem,c82,wH,hr,ht,c1,c2,gx,gy,By.enc,NL.enc,c5003,c5004,z0,hch,hch2,h0,h1]
def WN(s:Sta)(b:Int):Nat->Int->Bool
 |0,_=>false
 |k+1,at'=>bif decide (at'>=0)then(bif at'==b then true else WN s b k<|XJ s at')else false
def Hn(w:Wk):Int:=bif decide (XJ w.s w.e.B>=0)then 11 else bif WN w.s w.e.B (w.s.Gc.length+2) w.e.A then 12 else 0
def Ho(w:Wk):Wk:={w with s:={w.s with Gc:=w.s.Gc++[⟨w.e.A,w.e.B⟩]}}
def Z3K(o0 o1:AObj)(w:Wk)(hw:WkS w):∀k at',chN w.s k at'=true->
 ∃fr',Zg rE [0,3] c91L0b [(0,.ptr 2 0 0 1),(3,I at')] (wH o0 o1 w)=some (if WN w.s w.e.B (k+1) at'=true then .ret else .exit 0,fr',wH o0 o1 w)/\
  (WN w.s w.e.B (k+1) at'=true->get fr' 2=.int .i64 12)/\(WN w.s w.e.B (k+1) at'=false->get fr' 0=.ptr 2 0 0 1/\get fr' 2=.bot):=by
 intro k;induction k with
 |zero=>
  intro at' hc;have h1:decide (at'>=0)=false:=by simpa[chN]using hc
  have h2:WN w.s w.e.B (0+1) at'=false:=by rw[WN,h1];rfl
  rw[h2];refine⟨_,Q7 rfl (by simp only[go_sem,c91L0b,h1];rfl) (by simp),λh=>(by cases h),λ_=>⟨?_,?_⟩⟩<;>simp only[go_sem]
 |succ k ih=>
  intro at' hc;rw[WN];cases h1:decide (at'>=0)with
  |false=>
   rw[cond_false];refine⟨_,Q7 rfl (by simp only[go_sem,c91L0b,h1];rfl) (by simp),λh=>(by cases h),λ_=>⟨?_,?_⟩⟩<;>simp only[go_sem]
  |true=>
   rw[cond_true];cases h2:at'==w.e.B with
   |true=>
    rw[cond_true];refine⟨_,Q7 rfl (by simp only[go_sem,c91L0b,h1,h2];rfl) (by simp),λ_=>?_,λh=>(by cases h)⟩
    simp only[go_sem]
   |false=>
    rw[cond_false];have hc':chN w.s k (XJ w.s at')=true:=by
     rw[chN,h1,cond_true]at hc;exact hc
    have ht:=NJ w.s hw.s at';obtain⟨fr',h3,h4⟩:=ih (XJ w.s at') hc';refine⟨fr',?_,h4⟩;rw[<-h3];exact(Yt rfl (by simp only[go_sem,c91L0b,h1,h2,ht];rfl)).trans (by simp only[go_sem])
def Z3L(s:Sta)(hp:WK s=true)(a:Int):chN s (s.Gc.length+1) a=true:=by
 simp only[WK,ZS5]at hp;obtain⟨_,_,h3⟩:=hp;rw[ZSe]at h3;cases hf:s.Gc.find? (λp=>p.b==a)with
 |some p=>
  have h1:=List.find?_some hf;have h2:=h3 p<|List.mem_of_find?_eq_some hf;have:p.b=a:=by simpa using h1
  rw[<-this];exact h2
 |none=>
  have ht:XJ s a=-1:=by unfold XJ;rw[hf]
  rw[chN];cases decide (a>=0)with
  |false=>rfl
  |true=>
   rw[cond_true,ht];cases s.Gc.length<;>rfl
def Z3M(o0 o1:AObj)(w:Wk)(hw:WkS w)(hp:WK w.s=true):∃t,fnV rE 91 [.ptr 2 0 0 1] (wH o0 o1 w)=some (I<|Hn w,wH o0 o1 (bif Hn w==0 then Ho w else w)++t):=by
 have ht:=NJ w.s hw.s w.e.B;have hcs:Z4 (w.s.Gc.map bf.enc)=true:=Zw (λt=>rfl) _
 have ha:=λ(h:Hp)(aid:Nat)=>Vt (h:=h) (aid:=aid) (sz:=2) (bytes:=16) (es:=w.s.Gc.map bf.enc) (ys:=[.agg [I w.e.A,I w.e.B]]) (bw:=false) (bw2:=false) (ex:=false) rfl (by omega) (by omega) (by have:=hw.s.merged;simp;omega) (by simp only[XA,hcs];rfl)
 have z12:((12:Int)==0)=false:=rfl;have z11:((11:Int)==0)=false:=rfl;have z0:((0:Int)==0)=true:=rfl;obtain⟨fr',h1,h2,h3⟩:=Z3K o0 o1 w hw (w.s.Gc.length+1) w.e.A<|Z3L w.s hp w.e.A;rw[Q6 (f:=91) rfl rfl];unfold Hn;refine⟨[],?_⟩;cases c1:decide (XJ w.s w.e.B>=0)with
 |true=>simp only[go_sem,c91,ht,c1,z11,ZT9]
 |false=>
 have e:w.s.Gc.length+2=w.s.Gc.length+1+1:=rfl;rw[e];cases c2:WN w.s w.e.B (w.s.Gc.length+1+1) w.e.A with
 |true=>
  rw[c2,if_pos rfl]at h1;simp only[go_sem,c91,c91L0,ht,c1,h1,h2 c2,z12,ZT9]
 |false=>
  rw[c2]at h1;obtain⟨q0,q2⟩:=h3 c2;simp only[go_sem,c91,c91L0,ht,c1,h1,q0,q2,z0,ZSo,Fu,wrB,appW,ha,ZM,ZH,Ho,ZTs,wH,wkC,bf.enc,ZT9]
def UF(e:Gt)(a:NL Str)(d:Ga):Ga:={d with Ld:=e.Day,Why:=e.br,After:=a}
def UG(e:Gt)(a:NL Str)(u:be):be:=
 match a.l with
 |x::_=>{u with Ga:=x}
 |[]=>{u with Ld:=e.Day,Why:=e.br}
def Z3N(w:Wk)(a:NL Str)(l:List Ga)(k:Nat)(x:Ga)(hx:l[k]?=some x)(hle:l.length<=1000000):pfn rE 164 [.isl false false 16<|l.map Ga.enc,I k,.clo (.func 270) [] [.iptr true [.iptr true<|wkC w],.iptr false [.isl false a.ex 1<|a.l.map encS]]]=some (.isl false false 16<|(ZK l k<|UF w.e a).map Ga.enc):=by
 have hk:=Z7 hx;have hg:=Z6 (f:=Ga.enc) hx;have hs:∀v,((l.map Ga.enc).set k v)[k]?=some v:=λv=>by simp[hk]
 rw[YA hx,List.map_set];refine Xk (sz:=16) (f:=269) rfl rfl rfl _ _ _ (.tup []) false k (by simpa using hk) (Xj (λ_=>rfl) _) (by simpa using hle) ?_ (by simp) ?_
 .rw[Q6 (f:=270) rfl rfl];simp only[go_sem,c270,beq_self_eq_true,hg,hs,List.set_set,ZT3,ZSf,Ga.enc,NL.enc,UF]
 .rw[<-List.map_set];exact Zw (λt=>rfl) _
def Z3O(w:Wk)(a:NL Str)(l:List be)(k:Nat)(x:be)(hx:l[k]?=some x)(hle:l.length<=1000000):pfn rE 174 [.isl false false 6<|l.map be.enc,I k,.clo (.func 271) [] [.iptr false [.isl false a.ex 1<|a.l.map encS],.iptr true [.iptr true<|wkC w]]]=some (.isl false false 6<|(ZK l k<|UG w.e a).map be.enc):=by
 have hk:=Z7 hx;have hg:=Z6 (f:=be.enc) hx;have hs:∀v,((l.map be.enc).set k v)[k]?=some v:=λv=>by simp[hk]
 rw[YA hx,List.map_set];refine Xk (sz:=6) (f:=275) rfl rfl rfl _ _ _ (.tup []) false k (by simpa using hk) (Xj (λ_=>rfl) _) (by simpa using hle) ?_ (by simp) ?_
 .rw[Q6 (f:=271) rfl rfl];unfold UG;cases ha:a.l with
  |nil=>
   have d:decide (((0:Nat):Int)>0)=false:=rfl;simp only[go_sem,c271,beq_self_eq_true,hg,hs,List.set_set,ZT3,ZSf,be.enc,ZSA,ZT8,d]
  |cons y r=>
   have d:decide (((r.length+1:Nat):Int)>0)=true:=decide_eq_true<|by omega
   have hix:ixG (.str y::r.map encS) 0=some (.str y):=rfl;simp only[go_sem,c271,beq_self_eq_true,hg,ZSf,be.enc,ZS9,ZSl,ZSf,d,hix,encS]
 .rw[<-List.map_set];exact Zw (λt=>rfl) _
def Z3P(id:Str)(u:be):Bool:=Z3 u.Ga id&&!(u.Ld != -1)
def XO(e:Gt)(id:Str)(a:NL Str)(u:be):be:=bif Z3P id u then UG e a u else u
def UH(e:Gt)(id:Str)(a:NL Str)(l:List be):List be:=l.map<|XO e id a
def Ym(w:Wk)(l:List Ga):Wk:={w with s:={w.s with Bc:=l}}
def Qx(w:Wk)(l:List be):Wk:={w with s:={w.s with Nk:=l}}
def Qf(w:Wk)(k:Nat)(a:NL Str):Wk:=
 match w.s.Bc[k]? with
 |some x=>Qx (Ym w<|ZK w.s.Bc k<|UF w.e a)<|UH w.e x.Id a w.s.Nk
 |none=>w
def Y3{α:Type}(f:α->α)(l:List α)(i:Nat):List α:=(l.take i).map f++l.drop i
def Z3Q{α:Type}(f:α->α)(l:List α):Y3 f l 0=l:=by simp[Y3]
def Z3R{α:Type}(f:α->α)(l:List α):Y3 f l l.length=l.map f:=by simp[Y3]
def Z3S{α:Type}(f:α->α)(l:List α)(i:Nat):(Y3 f l i).length=l.length:=by
 unfold Y3;simp;omega
def UI{α:Type}(f:α->α){l:List α}{i:Nat}{x:α}(h:l[i]?=some x):(Y3 f l i)[i]?=some x:=by
 have hi:=Z7 h;unfold Y3;rw[ZSI<|by simp;omega]
 have:i-(List.map f<|List.take i l).length=0:=by simp;omega
 rw[this,ZTh];simpa using h
def Fx{α:Type}(f:α->α){l:List α}{i:Nat}{x:α}(h:l[i]?=some x):Y3 f l (i+1)=(Y3 f l i).set i (f x):=by
 have hi:=Z7 h;have hx:l[i]=x:=by rw[ZSb hi]at h;exact Option.some.inj h
 unfold Y3;rw[ZUa hi,hx,ZTs,ZT7,List.set_append_right _ _<|by simp;omega]
 have:i-(List.map f<|List.take i l).length=0:=by simp;omega
 rw[this,ZTu hi];rfl
def Fy{α:Type}(f:α->α){l:List α}{i:Nat}{x:α}(h:l[i]?=some x)(hf:f x=x):Y3 f l (i+1)=Y3 f l i:=by
 rw[Fx f h,hf];have h2:=UI f h;have hi:=Z7 h2;rw[ZSb hi]at h2;have:=Option.some.inj h2;rw[<-this,List.set_getElem_self]
def Z3T(o0 o1:AObj)(h0:∀n,Zj n o0=true)(h1:∀n,Zj n o1=true)(id:Str)(a:NL Str)(w:Wk)(hu:w.s.Nk.length<=1000)(t:Hp)
 (ht:(∃x,t=[x]/\∀n,3<=n->Zj n x=true)\/∃x y,t=[x,y]/\(∀n,3<=n->Zj n x=true)/\∀n,3<=n->Zj n y=true):
 ∃fr',Zg rE [3,5,6,34,35,36] c166L0b [(3,.ptr (3+t.length) 0 0 1),(5,.iptr false [.isl false a.ex 1<|a.l.map encS]),(6,.str id),(34,.isl false false 6<|w.s.Nk.map be.enc),(35,I w.s.Nk.length),(36,.int .i64 0)] (wH o0 o1 w++t++[.row 1 [.ptr 2 0 0 1]]) =
  some (.exit 0,fr',wH o0 o1 (Qx w<|UH w.e id a w.s.Nk)++t++[.row 1 [.ptr 2 0 0 1]]):=by
 have L:=Y8 (E:=rE) (live:=[3,5,6,34,35,36]) (b:=c166L0b) w.s.Nk.length
  (λi=>[(3,.ptr (3+t.length) 0 0 1),(5,.iptr false [.isl false a.ex 1<|a.l.map encS]),(6,.str id),(34,.isl false false 6<|w.s.Nk.map be.enc),(35,I w.s.Nk.length),(36,I i)])
  (λi=>wH o0 o1 (Qx w<|Y3 (XO w.e id a) w.s.Nk i)++t++[.row 1 [.ptr 2 0 0 1]]) (λi=>rfl)
  (λi hi=>by
   obtain⟨x,hx⟩:∃x,w.s.Nk[i]?=some x:=⟨_,ZSb hi⟩;have hg:=Z6 (f:=be.enc) hx;have hi':=Zh hi;have hw:=Zx (n:=i)<|by omega
   have hch:=Z3O (Qx w<|Y3 (XO w.e id a) w.s.Nk i) a (Y3 (XO w.e id a) w.s.Nk i) i x (UI _ hx)<|by rw[Z3S];omega
   have hf:XO w.e id a x=bif Z3 x.Ga id&&!(x.Ld != -1)then UG w.e a x else x:=rfl;have hm:Z3 x.Ga id=true->(x.Ld != -1)=false->ZK (Y3 (XO w.e id a) w.s.Nk i) i (UG w.e a)=Y3 (XO w.e id a) w.s.Nk (i+1):=λc1 c2=>by
    rw[Fx _ hx,YA<|UI _ hx,hf,c1,c2];rfl
   rw[YA<|UI _ hx]at hch;refine⟨[(3,.ptr (3+t.length) 0 0 1),(5,.iptr false [.isl false a.ex 1<|a.l.map encS]),(6,.str id),(34,.isl false false 6<|w.s.Nk.map be.enc),(35,I w.s.Nk.length),(36,I (i+1:Nat))],?_,rfl⟩;cases c1:Z3 x.Ga id with
   |false=>
    have hs:=Fy (XO w.e id a) hx<|by rw[hf,c1];rfl
    rw[hs];rcases ht with⟨x0,rfl,b0⟩|⟨x0,y0,rfl,b0,b1⟩
    .simp only[go_sem,c166L0b,wH,Qx,hg,hi',hw,be.enc,c1,h0,h1,b0]
    .simp only[go_sem,c166L0b,wH,Qx,hg,hi',hw,be.enc,c1,h0,h1,b0,b1]
   |true=>
   cases c2:x.Ld != -1 with
   |true=>
    have hs:=Fy (XO w.e id a) hx<|by rw[hf,c1,c2];rfl
    rw[hs];rcases ht with⟨x0,rfl,b0⟩|⟨x0,y0,rfl,b0,b1⟩
    .simp only[go_sem,c166L0b,wH,Qx,hg,hi',hw,be.enc,c1,c2,h0,h1,b0]
    .simp only[go_sem,c166L0b,wH,Qx,hg,hi',hw,be.enc,c1,c2,h0,h1,b0,b1]
   |false=>
    have hm':=hm c1 c2;rw[YA<|UI _ hx]at hm';have e0:(Qx w<|Y3 (XO w.e id a) w.s.Nk i).e=w.e:=rfl;rw[e0,hm']at hch;simp only[Qx]at hch;rcases ht with⟨x0,rfl,b0⟩|⟨x0,y0,rfl,b0,b1⟩
    .simp only[go_sem,c166L0b,wH,Qx,hg,hi',hw,be.enc,c1,c2,h0,h1,b0,hch]
    .simp only[go_sem,c166L0b,wH,Qx,hg,hi',hw,be.enc,c1,c2,h0,h1,b0,b1,hch])
  (e:=.exit 0) (fr:=[(3,.ptr (3+t.length) 0 0 1),(5,.iptr false [.isl false a.ex 1<|a.l.map encS]),(6,.str id),(34,.isl false false 6<|w.s.Nk.map be.enc),(35,I w.s.Nk.length),(36,I w.s.Nk.length)]) (h:=wH o0 o1 (Qx w<|Y3 (XO w.e id a) w.s.Nk w.s.Nk.length)++t++[.row 1 [.ptr 2 0 0 1]]) (by
   rcases ht with⟨x0,rfl,b0⟩|⟨x0,y0,rfl,b0,b1⟩
   .simp only[go_sem,c166L0b,ZG,wH,Qx,h0,h1]
   .simp only[go_sem,c166L0b,ZG,wH,Qx,h0,h1]) (by simp)
 simp only[Z3Q,Z3R]at L;exact⟨_,L⟩
def Hq(o0 o1:AObj)(h0:∀n,Zj n o0=true)(h1:∀n,Zj n o1=true)(a:NL Str)(w:Wk)(hu:w.s.Nk.length<=1000)(hdl:w.s.Bc.length<=1000000)(k:Nat)(x:Ga)(hx:w.s.Bc[k]?=some x)(t:Hp)
 (ht:(∃x,t=[x]/\∀n,3<=n->Zj n x=true)\/∃x y,t=[x,y]/\(∀n,3<=n->Zj n x=true)/\∀n,3<=n->Zj n y=true):
 fnV rE 166 [.ptr 2 0 0 1,I k,.isl false a.ex 1<|a.l.map encS] (wH o0 o1 w++t)=some (.tup [],wH o0 o1 (Qf w k a)++t++[.row 1 [.ptr 2 0 0 1]]):=by
 have hg:=Z6 (f:=Ga.enc) hx;have hch:=Z3N w a w.s.Bc k x hx hdl;obtain⟨fr',hL⟩:=Z3T o0 o1 h0 h1 x.Id a (Ym w<|ZK w.s.Bc k<|UF w.e a) hu t ht;have e:Qf w k a=Qx (Ym w<|ZK w.s.Bc k<|UF w.e a) (UH w.e x.Id a w.s.Nk):=by unfold Qf;rw[hx]
 rw[e,Q6 (f:=166) rfl rfl];rcases ht with⟨x0,rfl,b0⟩|⟨x0,y0,rfl,b0,b1⟩
 .simp only[wH,Ym,Qx,ZSr,ZT1,ZSl,ZT8,Nat.reduceAdd]at hL⊢;simp only[go_sem,c166,c166L0,hg,hch,Ga.enc,NL.enc,h0,h1,b0,hL]
 .simp only[wH,Ym,Qx,ZSr,ZT1,ZSl,ZT8,Nat.reduceAdd]at hL⊢;simp only[go_sem,c166,c166L0,hg,hch,Ga.enc,NL.enc,h0,h1,b0,b1,hL]
def Fz(o0 o1:AObj)(w:Wk)(hd:w.s.Bc.length<=100000)(d:Ga)(t:Hp)(ht:t=[]\/(∃x,t=[x])\/(∃x y,t=[x,y])\/∃x y z,t=[x,y,z]):
 ∃q,fnV rE 159 [.ptr 2 0 0 1,Zo d] (wH o0 o1 w++t)=some (.tup [],wH o0 o1 (Qw w d)++t++[q])/\∀n,Zj n q=true:=by
 have hcs:Z4 (w.s.Bc.map Ga.enc)=true:=Zw (λt=>rfl) _
 have ha:=λ(h:Hp)(aid:Nat)=>Vt (h:=h) (aid:=aid) (sz:=16) (bytes:=184) (es:=w.s.Bc.map Ga.enc) (ys:=[Zo<|Xl w d]) (bw:=false) (bw2:=false) (ex:=false) rfl (by omega) (by omega) (by simp;omega) (by simp only[XA,hcs];rfl)
 refine⟨.row 16 [Zo<|Xl w d],?_,λn=>rfl⟩
 unfold Zo Xl at ha⊢;simp only at ha⊢;rw[Q6 (f:=159) rfl rfl];rcases ht with rfl|⟨x,rfl⟩|⟨x,y,rfl⟩|⟨x,y,z,rfl⟩<;>
  simp only[go_sem,c159,Ft,wrB,appW,ha,ZM,ZH,Qw,Xl,ZTs,wH,wkC,Ga.enc,NL.enc,ZT9]
def Hr(d:Ga)(x:Ent):Ga:=⟨x.Id,d.Ev,d.By,0,x.An,x.bg,0,0,⟨false,[]⟩,0,0,emp⟩
def Y5(w:Wk)(d:Ga)(l:List Ent):Wk:={w with s:={w.s with Bc:=w.s.Bc++l.map (λx=>Xl w<|Hr d x)}}
def Z3U(w:Wk)(d:Ga){l:List Ent}{i:Nat}{x:Ent}(h:l[i]?=some x):Y5 w d (l.take<|i+1)=Qw (Y5 w d<|l.take i) (Hr d x):=by
 unfold Y5 Qw;rw[YW _ h,ZT7];rfl
def WO(w:Wk)(l:List Ent):Bool:=Zu (λ_ x=>!twB w x.Id) 0 l
def Z3V(o0 o1:AObj)(h0:∀n,Zj n o0=true)(h1:∀n,Zj n o1=true)(w:Wk)(hw:WkS w):
 ∃fr' h',Zg rE [0,3,14,15,16] c87L0b [(0,.ptr 2 0 0 1),(3,.sl 3 0 0 0 false),(14,.isl false w.e.Lst.ex 7<|w.e.Lst.l.map Ent.enc),(15,I w.e.Lst.l.length),(16,.int .i64 0)] (wH o0 o1 w++[.row 1 []]) =
  some (if WO w w.e.Lst.l=true then .exit 0 else .ret,fr',h')/\
  (WO w w.e.Lst.l=true->(get fr' 0=.ptr 2 0 0 1/\get fr' 2=.bot/\get fr' 3=.sl 3 w.e.Lst.l.length 0 w.e.Lst.l.length false)/\h'=wH o0 o1 w++[.row 1 ((w.e.Lst.l.map (·.Id)).map encS)])/\
  (WO w w.e.Lst.l=false->get fr' 2=.int .i64 8/\∃K,h'=wH o0 o1 w++[.row 1 K]):=by
 have hbS:∀n(K:List Str),Zd n (K.map encS)=true:=λn K=>ZN _<|Zw (λt=>rfl) K
 have hl:=hw.e.lst;have L:=Jk (E:=rE) (live:=[0,3,14,15,16]) (b:=c87L0b) w.e.Lst.l (λ_ x=>!twB w x.Id)
  (λi=>[(0,.ptr 2 0 0 1),(3,.sl 3 i 0 i false),(14,.isl false w.e.Lst.ex 7<|w.e.Lst.l.map Ent.enc),(15,I w.e.Lst.l.length),(16,I i)])
  (λi=>wH o0 o1 w++[.row 1 (((w.e.Lst.l.take i).map (·.Id)).map encS)]) 0
  (λfr' h'=>(get fr' 0=.ptr 2 0 0 1/\get fr' 2=.bot/\get fr' 3=.sl 3 w.e.Lst.l.length 0 w.e.Lst.l.length false)/\h'=wH o0 o1 w++[.row 1 ((w.e.Lst.l.map (·.Id)).map encS)])
  (λfr' h'=>get fr' 2=.int .i64 8/\∃K,h'=wH o0 o1 w++[.row 1 K])
  (λi=>rfl)
  (λi x hx hp=>by
   have hi:=Z7 hx;have hg:=Z6 (f:=Ent.enc) hx;have hi':=Zh hi;have hwr:=Zx (n:=i)<|by omega
   have ht:=YW (λx:Ent=>x.Id) hx
   have hn:((w.e.Lst.l.take i).map (·.Id)).length=i:=by rw[ZSf,take_len hx]
   have e1:((w.e.Lst.l.take<|i+1).map (·.Id)).map encS=((w.e.Lst.l.take i).map (·.Id)).map encS++[.str x.Id]:=by
    rw[ht,ZTs];rfl
   have htw:=Wj w hw x.Id;have hp':twB w x.Id=false:=by simpa using hp
   rw[hp']at htw;rw[e1];generalize(w.e.Lst.l.take i).map (·.Id)=KS at hn⊢;have ha:=λp0 p1 p2 q=>XC (h:=[p0,p1,p2,.row 1<|KS.map encS,q]) (fz:=false) (b:=3) (g:=i) (sz:=1) (es:=KS.map encS) (bw:=false) (ex:=false) (ys:=[.str x.Id]) (bytes:=16) (by simp[rowAt,hn]) rfl (by simp[Qq];rfl) (by omega) (by omega) (by simp;omega)
   refine⟨[(0,.ptr 2 0 0 1),(2,.bot),(3,.sl 3 (i+1) 0 (i+1) false),(14,.isl false w.e.Lst.ex 7<|w.e.Lst.l.map Ent.enc),(15,I w.e.Lst.l.length),(16,I (i+1:Nat))],?_,rfl⟩;simp only[go_sem,c87L0b,wH,hg,hi',hwr,Ent.enc,htw,ha,beq_self_eq_true,hbS,h0,h1])
  (λi x hx hp=>by
   have hi:=Z7 hx;have hg:=Z6 (f:=Ent.enc) hx;have hi':=Zh hi;have htw:=Wj w hw x.Id;have hp':twB w x.Id=true:=by simpa using hp
   rw[hp']at htw;refine⟨_,_,by simp only[go_sem,c87L0b,wH,hg,hi',Ent.enc,htw,beq_self_eq_true,hbS,h0,h1];rfl,?_,_,rfl⟩
   simp only[go_sem])
  ⟨_,_,by simp only[go_sem,c87L0b,wH,ZG,List.take_length,hbS,h0,h1];rfl,⟨by simp only[go_sem],by simp only[go_sem],by simp only[go_sem]⟩,rfl⟩
 simp only[List.take_zero,ZSA]at L;exact L
def Z3W(o0 o1:AObj)(h0:∀n,Zj n o0=true)(h1:∀n,Zj n o1=true)(w:Wk)(hd:w.s.Bc.length<=1000)(hl:w.e.Lst.l.length<=100)(k:Int)(n:Nat)(K:List Str)(d:Ga):
 ∃fr',Zg rE [0,3,6,7,78,79,80] c87L1b [(0,.ptr 2 0 0 1),(3,.sl 3 n 0 n false),(6,I k),(7,.ptr 4 0 0 1),(78,.isl false w.e.Lst.ex 7<|w.e.Lst.l.map Ent.enc),(79,I w.e.Lst.l.length),(80,.int .i64 0)] (wH o0 o1 w++[.row 1<|K.map encS,.row 16 [Zo d]]) =
  some (.exit 3,fr',wH o0 o1 (Y5 w d w.e.Lst.l)++[.row 1<|K.map encS,.row 16 [Zo d]])/\get fr' 0=.ptr 2 0 0 1/\get fr' 3=.sl 3 n 0 n false/\get fr' 6=I k:=by
 have hbS:∀n(K:List Str),Zd n (K.map encS)=true:=λn K=>ZN _<|Zw (λt=>rfl) K
 have L:=Y8 (E:=rE) (live:=[0,3,6,7,78,79,80]) (b:=c87L1b) w.e.Lst.l.length
  (λi=>[(0,.ptr 2 0 0 1),(3,.sl 3 n 0 n false),(6,I k),(7,.ptr 4 0 0 1),(78,.isl false w.e.Lst.ex 7<|w.e.Lst.l.map Ent.enc),(79,I w.e.Lst.l.length),(80,I i)])
  (λi=>wH o0 o1 (Y5 w d<|w.e.Lst.l.take i)++[.row 1<|K.map encS,.row 16 [Zo d]]) (λi=>rfl)
  (λi hi=>by
   obtain⟨x,hx⟩:∃x,w.e.Lst.l[i]?=some x:=⟨_,ZSb hi⟩;have hg:=Z6 (f:=Ent.enc) hx;have hi':=Zh hi;have hwr:=Zx (n:=i)<|by omega
   obtain⟨q,ho,hq⟩:=Fz o0 o1 (Y5 w d<|w.e.Lst.l.take i) (by simp[Y5];omega) (Hr d x) [.row 1<|K.map encS,.row 16 [Zo d],.row 7 [x.enc]]<|Or.inr<|Or.inr<|Or.inr ⟨_,_,_,rfl⟩
   rw[Z3U w d hx];refine⟨[(0,.ptr 2 0 0 1),(3,.sl 3 n 0 n false),(6,I k),(7,.ptr 4 0 0 1),(78,.isl false w.e.Lst.ex 7<|w.e.Lst.l.map Ent.enc),(79,I w.e.Lst.l.length),(80,I (i+1:Nat))],?_,rfl⟩;generalize Y5 w d (w.e.Lst.l.take i)=W at ho⊢;unfold Hr Zo at ho⊢;simp only[wH,ZSr,ZT1,ZSA,Ent.enc]at ho⊢;simp only[go_sem,c87L1b,hg,hi',hwr,Ent.enc,ho,beq_self_eq_true,hbS,h0,h1])
  (e:=.exit 3) (fr:=[(0,.ptr 2 0 0 1),(3,.sl 3 n 0 n false),(6,I k),(7,.ptr 4 0 0 1),(78,.isl false w.e.Lst.ex 7<|w.e.Lst.l.map Ent.enc),(79,I w.e.Lst.l.length),(80,I w.e.Lst.l.length)]) (h:=wH o0 o1 (Y5 w d<|w.e.Lst.l.take w.e.Lst.l.length)++[.row 1<|K.map encS,.row 16 [Zo d]])
  (by simp only[go_sem,c87L1b,ZG,wH,hbS,h0,h1,Zo]) (by simp)
 have e0:Y5 w d (w.e.Lst.l.take 0)=w:=by simp[Y5]
 rw[e0,List.take_length]at L;exact⟨_,L,by simp only[go_sem],by simp only[go_sem],by simp only[go_sem]⟩
def Vu(s:Sta)(k:Int):Str:=match s.Bc[k.toNat]? with|some d=>d.Veil|none=>emp
def Ka(w:Wk):Int:=
 bif !WO w w.e.Lst.l then 8 else bif decide (Zn w.s w.e.Id<0)then 10
 else bif QN w.s (Zn w.s w.e.Id) != -1||!Z3 (Vu w.s<|Zn w.s w.e.Id) emp then 11 else 0
def Kb(w:Wk):Wk:=
 match w.s.Bc[(Zn w.s w.e.Id).toNat]? with
 |some d=>Qf (Y5 w d w.e.Lst.l) (Zn w.s w.e.Id).toNat ⟨false,w.e.Lst.l.map (·.Id)⟩
 |none=>w
def Z3X(o0 o1:AObj)(h0:∀n,Zj n o0=true)(h1:∀n,Zj n o1=true)(w:Wk)(hw:WkS w):∃t,fnV rE 87 [.ptr 2 0 0 1] (wH o0 o1 w)=some (I<|Ka w,wH o0 o1 (bif Ka w==0 then Kb w else w)++t):=by
 have hbS:∀n(K:List Str),Zd n (K.map encS)=true:=λn K=>ZN _<|Zw (λt=>rfl) K
 have hcS:∀K:List Str,Z4 (K.map encS)=true:=λK=>Zw (λt=>rfl) K
 have hf:=find_ok w.s hw.s w.e.Id;have z8:((8:Int)==0)=false:=rfl;have z10:((10:Int)==0)=false:=rfl;have z11:((11:Int)==0)=false:=rfl;have z0:((0:Int)==0)=true:=rfl;obtain⟨f0,g0,l0,a0,b0⟩:=Z3V o0 o1 h0 h1 w hw;rw[Q6 (f:=87) rfl rfl];unfold Ka;cases c0:WO w w.e.Lst.l with
 |false=>
  rw[c0]at l0;obtain⟨q2,K,rfl⟩:=b0 c0;simp only[wH,ZSr,ZT1,ZSo,if_false]at l0;refine⟨[.row 1 K],?_⟩;simp only[go_sem,c87,c87L0,wH,l0,q2,z8]
 |true=>
 rw[c0,if_pos rfl]at l0;obtain⟨⟨q0,q2,q3⟩,rfl⟩:=a0 c0;simp only[wH,ZSr,ZT1]at l0;cases c1:decide (Zn w.s w.e.Id<0)with
 |true=>
  refine⟨[.row 1 ((w.e.Lst.l.map (·.Id)).map encS)],?_⟩;simp only[go_sem,c87,c87L0,wH,l0,q0,q2,q3,hbS,h0,h1,hf,c1,z10]
 |false=>
 obtain⟨j,y,hj,hy⟩:=QC c1;have hj':Zn w.s w.e.Id=(j:Int):=hj;have gy:=Z6 (f:=Ga.enc) hy;have hdE:QN w.s (j:Int)=y.Ld:=by simp[QN,hy]
 have hdV:Vu w.s (j:Int)=y.Veil:=by simp[Vu,hy]
 have hn:((j:Int)).toNat=j:=rfl;rw[hj']at hf c1⊢;rw[hdE,hdV];cases c2:y.Ld != -1 with
 |true=>
  refine⟨[.row 1 ((w.e.Lst.l.map (·.Id)).map encS)],?_⟩;simp only[go_sem,c87,c87L0,wH,l0,q0,q2,q3,hbS,h0,h1,hf,c1,gy,Ga.enc,NL.enc,c2,z11]
 |false=>
 cases c5003:Z3 y.Veil emp with
 |false=>
  refine⟨[.row 1 ((w.e.Lst.l.map (·.Id)).map encS)],?_⟩;simp only[go_sem,c87,c87L0,wH,l0,q0,q2,q3,hbS,h0,h1,hf,c1,gy,Ga.enc,NL.enc,c2,c5003,z11]
 |true=>
  obtain⟨f1,l1,p0,p3,p6⟩:=Z3W o0 o1 h0 h1 w hw.s.doors (ZSC hw.e.lst<|by decide) j w.e.Lst.l.length (w.e.Lst.l.map (·.Id)) y
  have he:=Hq o0 o1 h0 h1 ⟨false,w.e.Lst.l.map (·.Id)⟩ (Y5 w y w.e.Lst.l) hw.s.units (by have:=hw.s.doors;have:=hw.e.lst;simp[Y5];omega) j y (by
   have:=Z7 hy;unfold Y5;rw[ZSq this,hy]) [.gone,.row 16 [Zo y]] (Or.inr ⟨_,_,rfl,λn _=>rfl,λn _=>rfl⟩)
  have hs:Kb w=Qf (Y5 w y w.e.Lst.l) j ⟨false,w.e.Lst.l.map (·.Id)⟩:=by unfold Kb;rw[hj',hn,hy]
  rw[hs];generalize Qf (Y5 w y w.e.Lst.l) j ⟨false,w.e.Lst.l.map (·.Id)⟩=W2 at he⊢;unfold Zo at l1 he;simp only[wH,ZSr,ZT1]at l1 he;refine⟨[.gone,.row 16 [Zo y]],?_⟩;have hz:List.take w.e.Lst.l.length ((w.e.Lst.l.map (·.Id)).map encS)=(w.e.Lst.l.map (·.Id)).map encS:=ZSX<|by simp
  simp only[go_sem,c87,c87L0,c87L1,wH,l0,q0,q2,q3,hbS,hcS,h0,h1,hf,c1,gy,Ga.enc,NL.enc,c2,c5003,z0,l1,p0,p3,p6,he,beq_self_eq_true,hz,Zo]
def FA(w:Wk)(k:Nat)(a:NL Str):(Qf w k a).e=w.e:=by unfold Qf;split<;>rfl
def FB(w:Wk)(k:Nat)(a:NL Str):(Qf w k a).s.Bc.length=w.s.Bc.length:=by
 unfold Qf;split
 .simp[Qx,Ym,Xm]
 .rfl
def FC(w:Wk)(k:Nat)(a:NL Str):(Qf w k a).s.Nk.length=w.s.Nk.length:=by
 unfold Qf;split
 .simp[Qx,Ym,UH]
 .rfl
def Yg(w:Wk)(l:List Int)(a:NL Str):Wk:=l.foldl (λw k=>Qf w k.toNat a) w
def UJ(w:Wk)(k:Int)(l:List Int)(a:NL Str):Yg w (k::l) a=Yg (Qf w k.toNat a) l a:=rfl
def Z3Y(w:Wk){l:List Int}{i:Nat}{x:Int}(h:l[i]?=some x)(a:NL Str):Yg w (l.take<|i+1) a=Qf (Yg w (l.take i) a) x.toNat a:=by
 have hi:=Z7 h;have hx:l[i]=x:=by rw[ZSb hi]at h;exact Option.some.inj h
 unfold Yg;rw[ZUa hi,hx,List.foldl_append];rfl
def Z3Z(l:List Int)(a:NL Str):∀w:Wk,(Yg w l a).e=w.e:=by
 induction l with
 |nil=>intro w;rfl
 |cons x r ih=>intro w;rw[UJ,ih,FA]
def Z40(l:List Int)(a:NL Str):∀w:Wk,(Yg w l a).s.Bc.length=w.s.Bc.length:=by
 induction l with
 |nil=>intro w;rfl
 |cons x r ih=>intro w;rw[UJ,ih,FB]
def Z41(l:List Int)(a:NL Str):∀w:Wk,(Yg w l a).s.Nk.length=w.s.Nk.length:=by
 induction l with
 |nil=>intro w;rfl
 |cons x r ih=>intro w;rw[UJ,ih,FC]
def Z42(l:List Int)(ex:Bool)(v:Int)(hl:l.length<=1000000):pfn rE 135 [.isl true ex 1<|l.map I,I v]=some (.bool<|l.any<|λx=>v==x):=by
 have h:=Nz (f:=254) (enc:=I) (p:=λx=>v==x) (v:=I v) rfl rfl l (by omega) (λx _=>rfl) rfl (λx _=>rfl) true ex
 rw[Z5 (f:=135) rfl rfl,<-Vg];unfold WG;simp only[go_sem,c135,h]
def Zf(w:Wk):List Int:=w.e.Ids.l.map<|λid=>Zn w.s id
def XP(s:Sta)(k:Int):Str:=match s.Bc[k.toNat]? with|some d=>d.By|none=>emp
def JG(s:Sta)(st:Str)(k:Int):Bool:=!((QN s k != -1||!Z3 (Vu s k) emp)||!Z3 (XP s k) st)
def Kc(w:Wk):Int:=
 bif twB w w.e.Id then 8 else bif (Zf w).any (λx=>-1==x)then 10
 else bif Zu (λ_ k=>JG w.s (XP w.s<|(Zf w).headD 0) k) 0 (Zf w)then 0 else 11
def WP(w:Wk)(d:Ga):Ga:=⟨w.e.Id,d.Ev,d.By,0,w.e.An,w.e.bg,0,0,⟨false,[]⟩,0,0,emp⟩
def Kd(w:Wk):Wk:=
 match w.s.Bc[((Zf w).headD 0).toNat]? with
 |some d=>Yg (Qw w<|WP w d) (Zf w) ⟨false,[w.e.Id]⟩
 |none=>w
def Z43(o0 o1:AObj)(h0:∀n,Zj n o0=true)(h1:∀n,Zj n o1=true)(w:Wk)(hw:WkS w):
 ∃fr',Zg rE [0,3,23,24,25] c88L0b [(0,.ptr 2 0 0 1),(3,.sl 3 0 0 0 false),(23,.isl false w.e.Ids.ex 1<|w.e.Ids.l.map encS),(24,I w.e.Ids.l.length),(25,.int .i64 0)] (wH o0 o1 w++[.row 1 []]) =
  some (.exit 0,fr',wH o0 o1 w++[.row 1<|(Zf w).map I])/\get fr' 0=.ptr 2 0 0 1/\get fr' 3=.sl 3 (Zf w).length 0 (Zf w).length false:=by
 have hbS:∀n(K:List Int),Zd n (K.map I)=true:=λn K=>ZN _<|Zw (λt=>rfl) K
 have hl:=hw.e.ids;have L:=Y8 (E:=rE) (live:=[0,3,23,24,25]) (b:=c88L0b) w.e.Ids.l.length
  (λi=>[(0,.ptr 2 0 0 1),(3,.sl 3 i 0 i false),(23,.isl false w.e.Ids.ex 1<|w.e.Ids.l.map encS),(24,I w.e.Ids.l.length),(25,I i)])
  (λi=>wH o0 o1 w++[.row 1<|((w.e.Ids.l.take i).map (λid=>Zn w.s id)).map I]) (λi=>rfl)
  (λi hi=>by
   obtain⟨x,hx⟩:∃x,w.e.Ids.l[i]?=some x:=⟨_,ZSb hi⟩;have hg:=Z6 (f:=encS) hx;have hi':=Zh hi;have hwr:=Zx (n:=i)<|by omega
   have ht:=YW (λid=>Zn w.s id) hx
   have hn:((w.e.Ids.l.take i).map (λid=>Zn w.s id)).length=i:=by rw[ZSf,take_len hx]
   have e1:((w.e.Ids.l.take<|i+1).map (λid=>Zn w.s id)).map I=((w.e.Ids.l.take i).map (λid=>Zn w.s id)).map I++[I<|Zn w.s x]:=by
    rw[ht,ZTs];rfl
   have hf:=find_ok w.s hw.s x;rw[e1];generalize(w.e.Ids.l.take i).map (λid=>Zn w.s id)=KS at hn⊢
   have ha:=λp0 p1 p2=>XC (h:=[p0,p1,p2,.row 1<|KS.map I]) (fz:=false) (b:=3) (g:=i) (sz:=1) (es:=KS.map I) (bw:=false) (ex:=false) (ys:=[I<|Zn w.s x]) (bytes:=8) (by simp[rowAt,hn]) rfl (by simp[Qq];rfl) (by omega) (by omega) (by simp;omega)
   refine⟨[(0,.ptr 2 0 0 1),(3,.sl 3 (i+1) 0 (i+1) false),(23,.isl false w.e.Ids.ex 1<|w.e.Ids.l.map encS),(24,I w.e.Ids.l.length),(25,I (i+1:Nat))],?_,rfl⟩;simp only[go_sem,c88L0b,wH,hg,hi',hwr,encS,hf,ha,beq_self_eq_true,hbS,h0,h1])
  (e:=.exit 0) (fr:=[(0,.ptr 2 0 0 1),(3,.sl 3 w.e.Ids.l.length 0 w.e.Ids.l.length false),(23,.isl false w.e.Ids.ex 1<|w.e.Ids.l.map encS),(24,I w.e.Ids.l.length),(25,I w.e.Ids.l.length)]) (h:=wH o0 o1 w++[.row 1<|((w.e.Ids.l.take w.e.Ids.l.length).map (λid=>Zn w.s id)).map I])
  (by simp only[go_sem,c88L0b,ZG,wH,hbS,h0,h1]) (by simp)
 rw[List.take_length]at L;have e2:(Zf w).length=w.e.Ids.l.length:=by simp[Zf]
 rw[e2];exact⟨_,L,by simp only[go_sem],by simp only[go_sem]⟩
def Z44{l:List Int}(h:l.any (λx=>-1==x)=false){i:Nat}{k:Int}(hk:l[i]?=some k):k≠-1:=by
 intro e;rw[List.any_eq_false]at h;exact h k (ZSN hk)<|by rw[e];rfl
def UK(w:Wk)(h:(Zf w).any (λx=>-1==x)=false){i:Nat}{k:Int}(hk:(Zf w)[i]?=some k):∃(j:Nat)(d:Ga),k=(j:Int)/\w.s.Bc[j]?=some d:=by
 have hne:=Z44 h hk;unfold Zf at hk;rw[ZSx]at hk;cases hx:w.e.Ids.l[i]? with
 |none=>rw[hx]at hk;cases hk
 |some id=>
  rw[hx]at hk;have hk':Zn w.s id=k:=Option.some.inj hk;have hc:decide (Zn w.s id<0)=false:=by
   rcases UA (λx:Ga=>Z3 x.Id id) w.s.Bc 0 with⟨h1,_⟩|⟨j,x,h1,h2,_⟩
   .exact absurd (show k=-1 by rw[<-hk'];exact h1) hne
   .have:Zn w.s id=0+(j:Int):=h1;rw[this];exact decide_eq_false<|by omega
  obtain⟨j,d,h1,h2⟩:=QC hc;exact⟨j,d,by rw[<-hk'];exact h1,h2⟩
def Z45(o0 o1:AObj)(h0:∀n,Zj n o0=true)(h1:∀n,Zj n o1=true)(w:Wk)(hw:WkS w)(hn:(Zf w).any (λx=>-1==x)=false)(d:Ga):
 ∃fr' h',Zg rE [0,3,6,51,52,53] c88L1b [(0,.ptr 2 0 0 1),(3,.sl 3 (Zf w).length 0 (Zf w).length false),(6,.ptr 4 0 0 1),(51,.sl 3 (Zf w).length 0 (Zf w).length false),(52,I (Zf w).length),(53,.int .i64 0)] (wH o0 o1 w++[.row 1<|(Zf w).map I,.row 16 [Zo d]]) =
  some (if Zu (λ_ k=>JG w.s d.By k) 0 (Zf w)=true then .exit 2 else .ret,fr',h')/\
  (Zu (λ_ k=>JG w.s d.By k) 0 (Zf w)=true->(get fr' 0=.ptr 2 0 0 1/\get fr' 2=.bot/\get fr' 3=.sl 3 (Zf w).length 0 (Zf w).length false/\get fr' 6=.ptr 4 0 0 1)/\h'=wH o0 o1 w++[.row 1<|(Zf w).map I,.row 16 [Zo d]])/\
  (Zu (λ_ k=>JG w.s d.By k) 0 (Zf w)=false->(get fr' 0=.ptr 2 0 0 1/\get fr' 2=.int .i64 11/\get fr' 3=.sl 3 (Zf w).length 0 (Zf w).length false/\get fr' 6=.ptr 4 0 0 1)/\h'=wH o0 o1 w++[.row 1<|(Zf w).map I,.row 16 [Zo d]]):=by
 have hbS:∀n(K:List Int),Zd n (K.map I)=true:=λn K=>ZN _<|Zw (λt=>rfl) K
 have hlen:(Zf w).length<=100:=by simp[Zf];exact hw.e.ids
 have L:=Jk (E:=rE) (live:=[0,3,6,51,52,53]) (b:=c88L1b) (Zf w) (λ_ k=>JG w.s d.By k)
  (λi=>[(0,.ptr 2 0 0 1),(3,.sl 3 (Zf w).length 0 (Zf w).length false),(6,.ptr 4 0 0 1),(51,.sl 3 (Zf w).length 0 (Zf w).length false),(52,I (Zf w).length),(53,I i)])
  (λi=>wH o0 o1 w++[.row 1<|(Zf w).map I,.row 16 [Zo d]]) 2
  (λfr' h'=>(get fr' 0=.ptr 2 0 0 1/\get fr' 2=.bot/\get fr' 3=.sl 3 (Zf w).length 0 (Zf w).length false/\get fr' 6=.ptr 4 0 0 1)/\h'=wH o0 o1 w++[.row 1<|(Zf w).map I,.row 16 [Zo d]])
  (λfr' h'=>(get fr' 0=.ptr 2 0 0 1/\get fr' 2=.int .i64 11/\get fr' 3=.sl 3 (Zf w).length 0 (Zf w).length false/\get fr' 6=.ptr 4 0 0 1)/\h'=wH o0 o1 w++[.row 1<|(Zf w).map I,.row 16 [Zo d]])
  (λi=>rfl)
  (λi k hk hp=>by
   have hi:=Z7 hk;obtain⟨j,y,rfl,hy⟩:=UK w hn hk;have hg:=Z6 (f:=I) hk;have gy:=Z6 (f:=Ga.enc) hy;have hi':=Zh hi;have hwr:=Zx (n:=i)<|by omega
   have hdE:QN w.s (j:Int)=y.Ld:=by simp[QN,hy]
   have hdV:Vu w.s (j:Int)=y.Veil:=by simp[Vu,hy]
   have hdS:XP w.s (j:Int)=y.By:=by simp[XP,hy]
   have hp':(!((y.Ld != -1||!Z3 y.Veil emp)||!Z3 y.By d.By))=true:=by rw[<-hdE,<-hdV,<-hdS];exact hp
   have c1:(y.Ld != -1)=false:=by revert hp';cases(y.Ld != -1)<;>simp
   have c2:Z3 y.Veil emp=true:=by revert hp';rw[c1];cases Z3 y.Veil emp<;>simp
   have c5003:Z3 y.By d.By=true:=by revert hp';rw[c1,c2];cases Z3 y.By d.By<;>simp
   have hlt:((i:Int)<((Zf w).length:Int)):=by omega
   refine⟨[(0,.ptr 2 0 0 1),(2,.bot),(3,.sl 3 (Zf w).length 0 (Zf w).length false),(6,.ptr 4 0 0 1),(51,.sl 3 (Zf w).length 0 (Zf w).length false),(52,I (Zf w).length),(53,I (i+1:Nat))],?_,rfl⟩;have hia:iaP 3 (Zf w).length 0 1 (i:Int) (Zf w).length (some (1,(Zf w).map I))=some (.ptr 3 i 0 (Zf w).length):=by
    rw[VT _ _ _ _ _ _ _ ⟨by omega,hlt⟩];simp
   simp only[go_sem,c88L1b,wH,Zo,hg,gy,hi',hwr,hia,Ga.enc,NL.enc,c1,c2,c5003,beq_self_eq_true,hbS,h0,h1])
  (λi k hk hp=>by
   have hi:=Z7 hk;obtain⟨j,y,rfl,hy⟩:=UK w hn hk;have hg:=Z6 (f:=I) hk;have gy:=Z6 (f:=Ga.enc) hy;have hi':=Zh hi;have hdE:QN w.s (j:Int)=y.Ld:=by simp[QN,hy]
   have hdV:Vu w.s (j:Int)=y.Veil:=by simp[Vu,hy]
   have hdS:XP w.s (j:Int)=y.By:=by simp[XP,hy]
   have hp':(!((y.Ld != -1||!Z3 y.Veil emp)||!Z3 y.By d.By))=false:=by rw[<-hdE,<-hdV,<-hdS];exact hp
   have hlt:((i:Int)<((Zf w).length:Int)):=by omega
   have hia:iaP 3 (Zf w).length 0 1 (i:Int) (Zf w).length (some (1,(Zf w).map I))=some (.ptr 3 i 0 (Zf w).length):=by
    rw[VT _ _ _ _ _ _ _ ⟨by omega,hlt⟩];simp
   cases c1:(y.Ld != -1)with
   |true=>exact⟨_,_,by simp only[go_sem,c88L1b,wH,Zo,hg,gy,hi',hia,Ga.enc,NL.enc,c1,beq_self_eq_true,hbS,h0,h1];rfl,⟨by simp only[go_sem],by simp only[go_sem],by simp only[go_sem],by simp only[go_sem]⟩,rfl⟩
   |false=>
   cases c2:Z3 y.Veil emp with
   |false=>exact⟨_,_,by simp only[go_sem,c88L1b,wH,Zo,hg,gy,hi',hia,Ga.enc,NL.enc,c1,c2,beq_self_eq_true,hbS,h0,h1];rfl,⟨by simp only[go_sem],by simp only[go_sem],by simp only[go_sem],by simp only[go_sem]⟩,rfl⟩
   |true=>
   cases c5003:Z3 y.By d.By with
   |true=>rw[c1,c2,c5003]at hp';cases hp'
   |false=>exact⟨_,_,by simp only[go_sem,c88L1b,wH,Zo,hg,gy,hi',hia,Ga.enc,NL.enc,c1,c2,c5003,beq_self_eq_true,hbS,h0,h1];rfl,⟨by simp only[go_sem],by simp only[go_sem],by simp only[go_sem],by simp only[go_sem]⟩,rfl⟩)
  ⟨_,_,by simp only[go_sem,c88L1b,wH,Zo,ZG,hbS,h0,h1];rfl,⟨by simp only[go_sem],by simp only[go_sem],by simp only[go_sem],by simp only[go_sem]⟩,rfl⟩
 exact L
def Z46(o0 o1:AObj)(h0:∀n,Zj n o0=true)(h1:∀n,Zj n o1=true)(l:List Int)(hlen:l.length<=100)(w:Wk)(hu:w.s.Nk.length<=1000)(hdd:w.s.Bc.length<=1000000)(hok:∀(i:Nat)(k:Int),l[i]?=some k->∃j:Nat,k=(j:Int)/\j<w.s.Bc.length)(d:Ga):
 ∃fr',Zg rE [0,103,104,105] c88L2b [(0,.ptr 2 0 0 1),(103,.sl 3 l.length 0 l.length false),(104,I l.length),(105,.int .i64 0)] (wH o0 o1 w++[.row 1<|l.map I,.row 16 [Zo d]]) =
  some (.exit 4,fr',wH o0 o1 (Yg w l ⟨false,[w.e.Id]⟩)++[.row 1<|l.map I,.row 16 [Zo d]]):=by
 have hbS:∀n(K:List Int),Zd n (K.map I)=true:=λn K=>ZN _<|Zw (λt=>rfl) K
 have L:=Y8 (E:=rE) (live:=[0,103,104,105]) (b:=c88L2b) l.length
  (λi=>[(0,.ptr 2 0 0 1),(103,.sl 3 l.length 0 l.length false),(104,I l.length),(105,I i)])
  (λi=>wH o0 o1 (Yg w (l.take i) ⟨false,[w.e.Id]⟩)++[.row 1<|l.map I,.row 16 [Zo d]]) (λi=>rfl)
  (λi hi=>by
   obtain⟨k,hk⟩:∃k,l[i]?=some k:=⟨_,ZSb hi⟩;obtain⟨j,rfl,hj⟩:=hok i k hk;have hg:=Z6 (f:=I) hk;have hi':=Zh hi;have hwr:=Zx (n:=i)<|by omega
   have hlt:((i:Int)<(l.length:Int)):=by omega
   have hia:iaP 3 l.length 0 1 (i:Int) l.length (some (1,l.map I))=some (.ptr 3 i 0 l.length):=by
    rw[VT _ _ _ _ _ _ _ ⟨by omega,hlt⟩];simp
   rw[Z3Y w hk];have he:=Z3Z (l.take i) ⟨false,[w.e.Id]⟩ w;have hdl:=Z40 (l.take i) ⟨false,[w.e.Id]⟩ w;have hul:=Z41 (l.take i) ⟨false,[w.e.Id]⟩ w;generalize Yg w (l.take i) ⟨false,[w.e.Id]⟩=W at he hdl hul⊢;obtain⟨y,hy⟩:∃y,W.s.Bc[j]?=some y:=⟨_,ZSb<|by rw[hdl];exact hj⟩
   have hE:=Hq o0 o1 h0 h1 ⟨false,[w.e.Id]⟩ W (by rw[hul];exact hu) (by rw[hdl];exact hdd) j y hy [.row 1<|l.map I,.row 16 [Zo d]]<|Or.inr ⟨_,_,rfl,λn _=>by simp only[go_sem,hbS],λn _=>rfl⟩
   have hn:((j:Int)).toNat=j:=rfl;rw[hn];generalize Qf W j ⟨false,[w.e.Id]⟩=W2 at hE⊢;refine⟨[(0,.ptr 2 0 0 1),(103,.sl 3 l.length 0 l.length false),(104,I l.length),(105,I (i+1:Nat))],?_,rfl⟩;simp only[wH,Zo,encS,ZSr,ZT1,ZS9,ZSA]at hE⊢;simp only[go_sem,c88L2b,hg,hi',hwr,hia,he,hE,beq_self_eq_true,hbS,h0,h1])
  (e:=.exit 4) (fr:=[(0,.ptr 2 0 0 1),(103,.sl 3 l.length 0 l.length false),(104,I l.length),(105,I l.length)]) (h:=wH o0 o1 (Yg w (l.take l.length) ⟨false,[w.e.Id]⟩)++[.row 1<|l.map I,.row 16 [Zo d]])
  (by simp only[go_sem,c88L2b,Zo,ZG,wH,hbS,h0,h1]) (by simp)
 rw[List.take_length]at L;exact⟨_,L⟩
def FD{l:List Int}(h:0<l.length):l[0]?=some (l.headD 0):=by
 cases l with
 |nil=>simp at h
 |cons x r=>rfl
def Z47(o0 o1:AObj)(h0:∀n,Zj n o0=true)(h1:∀n,Zj n o1=true)(w:Wk)(hw:WkS w)(hne:0<w.e.Ids.l.length):∃t,fnV rE 88 [.ptr 2 0 0 1] (wH o0 o1 w)=some (I<|Kc w,wH o0 o1 (bif Kc w==0 then Kd w else w)++t):=by
 have hbS:∀n(K:List Int),Zd n (K.map I)=true:=λn K=>ZN _<|Zw (λt=>rfl) K
 have hcS:∀K:List Int,Z4 (K.map I)=true:=λK=>Zw (λt=>rfl) K
 have htw:=Wj w hw w.e.Id;have z8:((8:Int)==0)=false:=rfl;have z10:((10:Int)==0)=false:=rfl;have z11:((11:Int)==0)=false:=rfl;have z0:((0:Int)==0)=true:=rfl;have hlen:(Zf w).length=w.e.Ids.l.length:=by simp[Zf]
 have hl:=hw.e.ids;obtain⟨f0,l0,q0,q3⟩:=Z43 o0 o1 h0 h1 w hw;simp only[wH,ZSr,ZT1]at l0;have hz:List.take (Zf w).length ((Zf w).map I)=(Zf w).map I:=ZSX<|by simp
 have hh:=Z42 (Zf w) false (-1)<|by omega
 rw[Q6 (f:=88) rfl rfl];unfold Kc;cases c0:twB w w.e.Id with
 |true=>
  rw[c0]at htw;refine⟨[],?_⟩;simp only[go_sem,c88,wH,htw,z8,ZT9]
 |false=>
 rw[c0]at htw;cases c1:(Zf w).any (λx=>-1==x)with
 |true=>
  rw[c1]at hh;refine⟨[.row 1<|(Zf w).map I],?_⟩;simp only[go_sem,c88,c88L0,wH,htw,l0,q0,q3,hh,hz,hcS,hbS,h0,h1,z10,beq_self_eq_true]
 |false=>
 rw[c1]at hh;have hk0:=FD (l:=Zf w)<|by omega
 obtain⟨j,d,hj,hd⟩:=UK w c1 hk0;have hg:=Z6 (f:=I) hk0;have gd:=Z6 (f:=Ga.enc) hd;have hlt:((0:Int)<((Zf w).length:Int)):=by omega
 have hia:iaP 3 (Zf w).length 0 1 (0:Int) (Zf w).length (some (1,(Zf w).map I))=some (.ptr 3 0 0 (Zf w).length):=by
  rw[VT _ _ _ _ _ _ _ ⟨by omega,hlt⟩];simp
 rw[hj]at hg;have hdS:XP w.s (j:Int)=d.By:=by simp[XP,hd]
 rw[hj,hdS];obtain⟨f1,g1,l1,a1,b1⟩:=Z45 o0 o1 h0 h1 w hw c1 d;cases c2:Zu (λ_ k=>JG w.s d.By k) 0 (Zf w)with
 |false=>
  rw[c2]at l1;obtain⟨⟨p0,p2,p3,p6⟩,rfl⟩:=b1 c2;simp only[wH,Zo,ZSr,ZT1,ZSo,if_false]at l1;refine⟨[.row 1<|(Zf w).map I,.row 16 [Zo d]],?_⟩;simp only[go_sem,c88,c88L0,c88L1,wH,htw,l0,q0,q3,hh,hz,hcS,hbS,h0,h1,z11,beq_self_eq_true,hg,gd,hia,Ga.enc,NL.enc,Zo,l1,p0,p2,p3,p6]
 |true=>
  rw[c2,if_pos rfl]at l1;obtain⟨⟨p0,p2,p3,p6⟩,rfl⟩:=a1 c2;simp only[wH,Zo,ZSr,ZT1]at l1;have hdb:=hw.s.doors;obtain⟨q,ho,hq⟩:=Fz o0 o1 w (by omega) (WP w d) [.row 1<|(Zf w).map I,.row 16 [Zo d]]<|Or.inr<|Or.inr<|Or.inl ⟨_,_,rfl⟩
  obtain⟨f2,l2⟩:=Z46 o0 o1 h0 h1 (Zf w) (by omega) (Qw w<|WP w d) hw.s.units (by simp[Qw];omega) (λ(i:Nat)(k:Int)(hk:(Zf w)[i]?=some k)=>by
   obtain⟨j',d',e1,e2⟩:=UK w c1 hk;exact⟨j',e1,by have:=Z7 e2;simp[Qw];omega⟩) d
  have hs:Kd w=Yg (Qw w<|WP w d) (Zf w) ⟨false,[w.e.Id]⟩:=by
   have hn:((j:Int)).toNat=j:=rfl;unfold Kd;rw[hj,hn,hd]
  have hid:(Qw w<|WP w d).e.Id=w.e.Id:=rfl;rw[hid]at l2;rw[hs];generalize Yg (Qw w<|WP w d) (Zf w) ⟨false,[w.e.Id]⟩=W2 at l2⊢;generalize Qw w (WP w d)=W1 at l2 ho;unfold WP Zo at ho;simp only[wH,Zo,ZSr,ZT1,ZSA]at l2 ho;refine⟨[.row 1<|(Zf w).map I,.row 16 [Zo d]],?_⟩;simp only[go_sem,c88,c88L0,c88L1,c88L2,wH,htw,l0,q0,q3,hh,hz,hcS,hbS,h0,h1,z0,beq_self_eq_true,hg,gd,hia,Ga.enc,NL.enc,l1,p0,p2,p3,p6,ho,l2,Zo]
def FE(n:Nat)(h:3<=n):Zj n (.row 1 [.ptr 2 0 0 1])=true:=by
 have:decide (2<n)=true:=decide_eq_true<|by omega
 simp[Zj,Zd,bel];omega
def Ke(e:Gt)(x:Ev):Ev:={x with Ld:=e.Day}
def Z48(w:Wk)(l:List Ev)(k:Nat)(x:Ev)(hx:l[k]?=some x)(hle:l.length<=1000000):pfn rE 167 [.isl false false 4<|l.map Ev.enc,I k,.clo (.func 168) [] [.iptr true [.iptr true<|wkC w]]]=some (.isl false false 4<|(ZK l k<|Ke w.e).map Ev.enc):=by
 have hk:=Z7 hx;have hg:=Z6 (f:=Ev.enc) hx;rw[YA hx,List.map_set];refine Xk (sz:=4) (f:=272) rfl rfl rfl _ _ _ (.tup []) false k (by simpa using hk) (Xj (λ_=>rfl) _) (by simpa using hle) ?_ (by simp) ?_
 .rw[Q6 (f:=168) rfl rfl];simp only[go_sem,c168,beq_self_eq_true,hg,Ev.enc,NL.enc,Ke]
 .rw[<-List.map_set];exact Zw (λt=>rfl) _
def NV(id:Str)(x:Ga):Bool:=Z3 x.Ev id&&x.Ld==-1
def Y6(w:Wk)(l:List Ga):Nat->Wk
 |0=>w
 |i+1=>match l[i]? with
  |some x=>bif NV w.e.Id x then Qf (Y6 w l i) i ⟨false,[]⟩else Y6 w l i
  |none=>Y6 w l i
def FF(w:Wk)(l:List Ga):∀i,(Y6 w l i).e=w.e/\(Y6 w l i).s.Bc.length=w.s.Bc.length/\(Y6 w l i).s.Nk.length=w.s.Nk.length
 |0=>⟨rfl,rfl,rfl⟩
 |i+1=>by
  have ih:=FF w l i;rw[Y6];cases l[i]? with
  |none=>exact ih
  |some x=>
   dsimp only;cases NV w.e.Id x with
   |false=>exact ih
   |true=>
    rw[cond_true,FA,FB,FC];exact ih
def JH(w:Wk)(l:List Ev):Wk:={w with s:={w.s with Bt:=l}}
def Z49(o0 o1:AObj)(h0:∀n,Zj n o0=true)(h1:∀n,Zj n o1=true)(w:Wk)(hu:w.s.Nk.length<=1000)(hd:w.s.Bc.length<=1000):
 ∃fr',Zg rE [1,46,47,48] c89L0b [(1,.ptr 3 0 0 1),(46,.isl false false 16<|w.s.Bc.map Ga.enc),(47,I w.s.Bc.length),(48,.int .i64 0)] (wH o0 o1 w++[.row 1 [.ptr 2 0 0 1]]) =
  some (.exit 1,fr',wH o0 o1 (Y6 w w.s.Bc w.s.Bc.length)++[.row 1 [.ptr 2 0 0 1]]):=by
 have L:=Y8 (E:=rE) (live:=[1,46,47,48]) (b:=c89L0b) w.s.Bc.length
  (λi=>[(1,.ptr 3 0 0 1),(46,.isl false false 16<|w.s.Bc.map Ga.enc),(47,I w.s.Bc.length),(48,I i)])
  (λi=>wH o0 o1 (Y6 w w.s.Bc i)++[.row 1 [.ptr 2 0 0 1]]) (λi=>rfl)
  (λi hi=>by
   obtain⟨x,hx⟩:∃x,w.s.Bc[i]?=some x:=⟨_,ZSb hi⟩;have hg:=Z6 (f:=Ga.enc) hx;have hi':=Zh hi;have hwr:=Zx (n:=i)<|by omega
   obtain⟨he,hdl,hul⟩:=FF w w.s.Bc i;have hS:Y6 w w.s.Bc (i+1)=bif Z3 x.Ev w.e.Id&&x.Ld==-1 then Qf (Y6 w w.s.Bc i) i ⟨false,[]⟩else Y6 w w.s.Bc i:=by
    rw[Y6,hx];rfl
   rw[hS];generalize Y6 w w.s.Bc i=W at he hdl hul⊢;obtain⟨y,hy⟩:∃y,W.s.Bc[i]?=some y:=⟨_,ZSb<|by rw[hdl];exact hi⟩
   have hE:=Hq o0 o1 h0 h1 ⟨false,[]⟩ W (by rw[hul];exact hu) (by rw[hdl];omega) i y hy [.row 1 [.ptr 2 0 0 1],.row 16 [x.enc]]<|Or.inr ⟨_,_,rfl,FE,λn _=>rfl⟩
   generalize Qf W i ⟨false,[]⟩=W2 at hE⊢;refine⟨[(1,.ptr 3 0 0 1),(46,.isl false false 16<|w.s.Bc.map Ga.enc),(47,I w.s.Bc.length),(48,I (i+1:Nat))],?_,rfl⟩;simp only[wH,ZSr,ZT1,ZSA,Ga.enc,NL.enc]at hE⊢;cases c1:Z3 x.Ev w.e.Id with
   |false=>simp only[go_sem,c89L0b,hg,hi',hwr,he,c1,Ga.enc,NL.enc,h0,h1]
   |true=>
   cases c2:x.Ld==-1 with
   |false=>simp only[go_sem,c89L0b,hg,hi',hwr,he,c1,c2,Ga.enc,NL.enc,h0,h1]
   |true=>simp only[go_sem,c89L0b,hg,hi',hwr,he,c1,c2,Ga.enc,NL.enc,h0,h1,hE])
  (e:=.exit 1) (fr:=[(1,.ptr 3 0 0 1),(46,.isl false false 16<|w.s.Bc.map Ga.enc),(47,I w.s.Bc.length),(48,I w.s.Bc.length)]) (h:=wH o0 o1 (Y6 w w.s.Bc w.s.Bc.length)++[.row 1 [.ptr 2 0 0 1]])
  (by simp only[go_sem,c89L0b,ZG,wH,h0,h1]) (by simp)
 exact⟨_,L⟩
def Hs(w:Wk):Int:=bif decide (Y1 w.s w.e.Id<0)then 10 else bif WL w.s (Y1 w.s w.e.Id) != -1 then 11 else 0
def Ht(w:Wk):Wk:=Y6 (JH w<|ZK w.s.Bt (Y1 w.s w.e.Id).toNat<|Ke w.e) w.s.Bc w.s.Bc.length
def Z4a(o0 o1:AObj)(h0:∀n,Zj n o0=true)(h1:∀n,Zj n o1=true)(w:Wk)(hw:WkS w):∃t,fnV rE 89 [.ptr 2 0 0 1] (wH o0 o1 w)=some (I<|Hs w,wH o0 o1 (bif Hs w==0 then Ht w else w)++t):=by
 have hb:=Hb w.s hw.s w.e.Id;have z10:((10:Int)==0)=false:=rfl;have z11:((11:Int)==0)=false:=rfl;have z0:((0:Int)==0)=true:=rfl;rw[Q6 (f:=89) rfl rfl];unfold Hs Ht;refine⟨[.row 1 [.ptr 2 0 0 1]],?_⟩;cases c1:decide (Y1 w.s w.e.Id<0)with
 |true=>simp only[go_sem,c89,wH,hb,c1,z10]
 |false=>
 obtain⟨j,x,hj,hx⟩:=QC c1;have hj':Y1 w.s w.e.Id=(j:Int):=hj;have gx:=Z6 (f:=Ev.enc) hx;have hE:WL w.s (j:Int)=x.Ld:=by simp[WL,hx]
 have hn:((j:Int)).toNat=j:=rfl;have hch:=Z48 w w.s.Bt j x hx (by have:=hw.s.buildings;omega)
 rw[hj']at hb c1⊢;rw[hE,hn];cases c2:x.Ld != -1 with
 |true=>simp only[go_sem,c89,wH,hb,c1,gx,Ev.enc,NL.enc,c2,z11]
 |false=>
  obtain⟨f1,l1⟩:=Z49 o0 o1 h0 h1 (JH w<|ZK w.s.Bt j<|Ke w.e) hw.s.units hw.s.doors;have hdd:(JH w<|ZK w.s.Bt j<|Ke w.e).s.Bc=w.s.Bc:=rfl;rw[hdd]at l1;generalize Y6 (JH w<|ZK w.s.Bt j<|Ke w.e) w.s.Bc w.s.Bc.length=W2 at l1⊢;simp only[wH,JH,ZSr,ZT1]at l1;simp only[go_sem,c89,c89L0,wH,hb,c1,gx,Ev.enc,NL.enc,c2,z0,hch,l1,h0,h1]
def c90_eq:c90=.seq s90p0 (.seq s90p1<|.seq s90p2<|.seq s90p3<|.seq s90p4<|.seq s90p5<|.seq s90p6<|.seq s90p7 .ret):=rfl
def UL(e:Gt)(x:Gk):Gk:={x with Ld:=e.Day}
def UM(e:Gt)(x:By):By:={x with Ld:=e.Day}
def UN(e:Gt)(x:be):be:={x with Ld:=e.Day,Why:=e.br}
def Z4b(w:Wk)(l:List Gk)(k:Nat)(x:Gk)(hx:l[k]?=some x)(hle:l.length<=1000000):pfn rE 148 [.isl false false 6<|l.map Gk.enc,I k,.clo (.func 169) [] [.iptr true [.iptr true<|wkC w]]]=some (.isl false false 6<|(ZK l k<|UL w.e).map Gk.enc):=by
 have hk:=Z7 hx;have hg:=Z6 (f:=Gk.enc) hx;rw[YA hx,List.map_set];refine Xk (sz:=6) (f:=261) rfl rfl rfl _ _ _ (.tup []) false k (by simpa using hk) (Xj (λ_=>rfl) _) (by simpa using hle) ?_ (by simp) ?_
 .rw[Q6 (f:=169) rfl rfl];simp only[go_sem,c169,beq_self_eq_true,hg,Gk.enc,NL.enc,UL]
 .rw[<-List.map_set];exact Zw (λt=>rfl) _
def Z4c(w:Wk)(l:List By)(k:Nat)(x:By)(hx:l[k]?=some x)(hle:l.length<=1000000):pfn rE 153 [.isl false false 5<|l.map By.enc,I k,.clo (.func 172) [] [.iptr true [.iptr true<|wkC w]]]=some (.isl false false 5<|(ZK l k<|UM w.e).map By.enc):=by
 have hk:=Z7 hx;have hg:=Z6 (f:=By.enc) hx;rw[YA hx,List.map_set];refine Xk (sz:=5) (f:=264) rfl rfl rfl _ _ _ (.tup []) false k (by simpa using hk) (Xj (λ_=>rfl) _) (by simpa using hle) ?_ (by simp) ?_
 .rw[Q6 (f:=172) rfl rfl];simp only[go_sem,c172,beq_self_eq_true,hg,By.enc,NL.enc,UM]
 .rw[<-List.map_set];exact Zw (λt=>rfl) _
def Z4d(w:Wk)(l:List be)(k:Nat)(x:be)(hx:l[k]?=some x)(hle:l.length<=1000000):pfn rE 174 [.isl false false 6<|l.map be.enc,I k,.clo (.func 175) [] [.iptr true [.iptr true<|wkC w]]]=some (.isl false false 6<|(ZK l k<|UN w.e).map be.enc):=by
 have hk:=Z7 hx;have hg:=Z6 (f:=be.enc) hx;have hs:∀v,((l.map be.enc).set k v)[k]?=some v:=λv=>by simp[hk]
 rw[YA hx,List.map_set];refine Xk (sz:=6) (f:=275) rfl rfl rfl _ _ _ (.tup []) false k (by simpa using hk) (Xj (λ_=>rfl) _) (by simpa using hle) ?_ (by simp) ?_
 .rw[Q6 (f:=175) rfl rfl];simp only[go_sem,c175,beq_self_eq_true,hg,hs,List.set_set,ZT3,ZSf,be.enc,UN]
 .rw[<-List.map_set];exact Zw (λt=>rfl) _
def Z4e{E:Env}{α:Type}{sz:Nat}{n:Option Nat}{enc:α->AV}{p:α->Bool}{g:Nat}{cap:List AV}(l:List α)(hfz:∀x∈l,Ql [] (enc x::cap)=some (enc x::cap))(hl:l.length<=4611686018427387904)(henc:∀x∈l,Yu n<|enc x)
 (hp:∀x∈l,pfn E g (enc x::cap)=some (.bool<|p x)) (bw ex:Bool):∀(post pre:List α),l=pre++post->
  ∃fr',Zb E (.loop [0,1,7,8]<|XB sz n) (Vd sz g cap enc l bw ex pre.length) []=some (if Zp p post pre.length=-1 then .exit 0 else .ret,fr',[])/\(Zp p post pre.length≠-1->get fr' 4=.int .i64 (Zp p post pre.length)):=by
 intro post;induction post with
 |nil=>
  intro pre hpre;have hd:decide ((pre.length:Int)<(l.length:Int))=false:=by subst hpre;simp
  rw[J2];unfold Vd;simp only[go_sem,XB,hd,qy,reduceIte,Zp];exact⟨_,rfl,λh=>absurd rfl h⟩
 |cons x post ih=>
  intro pre hpre;have hx:x∈l:=by rw[hpre];simp
  have hlen:pre.length<l.length:=by rw[hpre];simp
  have hd:decide ((pre.length:Int)<(l.length:Int))=true:=by simpa using hlen
  have hget:ixG (l.map enc) (pre.length:Int)=some (enc x):=by rw[hpre,ZTs,ZS9];have:=RK (pre.map enc) (enc x)<|post.map enc;rwa[ZSf]at this
  have htk:=(henc x hx).2;have hcl:=hfz x hx;have hpx:=hp x hx;rw[J2];unfold Vd;have hw:IntKind.i64.wrap ((pre.length:Int)+1)=((pre++[x]).length:Int):=by rw[Zx<|by omega];simp
  have hw':((pre++[x]).length:Int)=(pre.length:Int)+1:=by simp
  cases hpv:p x with
  |true=>
   have h0:((pre.length:Int)=-1)=False:=by simp
   simp only[go_sem,XB,hd,hget,htk,hcl,hpx,hpv,qy,reduceIte,Zp,ZT1,ZSr,h0];exact⟨_,rfl,λ_=>rfl⟩
  |false=>
   obtain⟨fr',h1,h2⟩:=ih (pre++[x])<|by simp[hpre]
   rw[hw']at h1 h2;simp only[go_sem,XB,hd,hget,htk,hcl,hpx,hpv,hw,qy,Nat.reduceAdd,reduceIte,Zp,ZT1,ZSr];rw[ZSM]at h1;exact⟨fr',(Dl<|by rfl).trans h1,h2⟩
def FG{E:Env}{f:Nat}{α:Type}{sz:Nat}{n:Option Nat}{enc:α->AV}{p:α->Bool}{g:Nat}{cap:List AV}(hs:E.sum f=none)(hf:E.fn f=some ⟨[.tmp 4],GR sz n⟩)(l:List α)(hfz:∀x∈l,Ql [] (enc x::cap)=some (enc x::cap))(hl:l.length<=4611686018427387904)
 (henc:∀x∈l,Yu n<|enc x) (hp:∀x∈l,pfn E g (enc x::cap)=some (.bool<|p x)) (bw ex:Bool):pfn E f [.isl bw ex sz<|l.map enc,.clo (.func g) [] cap]=some (.int .i64<|Zp p l 0):=by
 rw[Z5 hs hf];obtain⟨fr',h1,h2⟩:=Z4e (E:=E) l hfz hl henc hp bw ex l [] rfl;have hr:Z2 [0,1,7,8] [(8,AV.int .i64 0),(7,AV.int .i64 l.length),(6,AV.isl bw ex sz<|l.map enc),(4,AV.int .i64 0),(0,AV.isl bw ex sz<|l.map enc),(1,AV.clo (.func g) [] cap)]=Z2 [0,1,7,8] (Vd sz g cap enc l bw ex 0):=by rfl
 have hL:Zb E (.loop [0,1,7,8]<|XB sz n) [(0,AV.isl bw ex sz<|l.map enc),(1,AV.clo (.func g) [] cap),(7,AV.int .i64 l.length),(8,AV.int .i64 0)] []=some (if Zp p l 0=-1 then .exit 0 else .ret,fr',[]):=h1
 unfold GR;by_cases h0:Zp p l 0=-1
 .rw[if_pos h0]at hL;simp only[go_sem,hL,h0,qy,Nat.reduceAdd,ZSf]
 .rw[if_neg h0]at hL;have h3:get fr' 4=AV.int .i64 (Zp p l 0):=h2 h0;simp only[go_sem,hL,h3,qy,Nat.reduceAdd,ZSf]
def Kf(s:Sta)(id:Str):Bool:=s.Bc.any<|λx=>Z3 x.By id&&x.Ld==-1
def Z4f(s:Sta)(hs:StS s)(id:Str):pfn rE 170 [.isl false false 16<|s.Bc.map Ga.enc,.clo (.func 171) [] [.iptr true [.str id]]]=some (.bool<|Kf s id):=by
 have hp:∀x:Ga,pfn rE 171 [x.enc,.iptr true [.str id]]=some (.bool<|Z3 x.By id&&x.Ld==-1):=λx=>by
  rw[Z5 (f:=171) rfl rfl];cases c1:Z3 x.By id with
  |false=>simp only[go_sem,c171,Ga.enc,NL.enc,c1]
  |true=>simp only[go_sem,c171,Ga.enc,NL.enc,c1]
 have h1:=FG (E:=rE) (f:=102) (sz:=16) (n:=some 16) (enc:=Ga.enc) (p:=λx=>Z3 x.By id&&x.Ld==-1) (g:=171) (cap:=[.iptr true [.str id]]) rfl rfl s.Bc (λx _=>GQ _ _ rfl (by simp[QJ,msz,Ga.enc,NL.enc])) (by have:=hs.doors;omega) (λx _=>x.el) (λx _=>hp x) false false
 rw[Z5 (f:=170) rfl rfl];unfold Kf;rw[<-Vg];unfold WG;simp only[go_sem,c170,h1]
def Kg(s:Sta)(id:Str):Bool:=!decide (Qo s id<0)&&WM s (Qo s id)==-1
def Kh(s:Sta)(id:Str):Bool:=!decide (ZL s id<0)&&QF s (ZL s id)==-1
def Ki(s:Sta)(id:Str):Bool:=!decide (Zn s id<0)&&QN s (Zn s id)==-1
def NW(s:Sta)(k:Int):Int:=match s.Nk[k.toNat]? with|some b=>b.Ld|none=>0
def UO(s:Sta)(id:Str):Bool:=!decide (Wf s id<0)&&NW s (Wf s id)==-1
def Hu(w:Wk)(l:List Gk):Wk:={w with s:={w.s with Fa:=l}}
def Hv(w:Wk)(l:List By):Wk:={w with s:={w.s with Gm:=l}}
abbrev shT(w:Wk):Hp:=[.row 1 [.ptr 2 0 0 1],.row 1 [.str w.e.Id]]
def Z4g(o0 o1:AObj)(h0:∀n,Zj n o0=true)(h1:∀n,Zj n o1=true)(w:Wk)(hw:WkS w):
 (Kg w.s w.e.Id=true->∃fr' t,Zb rE s90p2 [(1,.ptr 3 0 0 1),(3,.ptr 4 0 0 1)] (wH o0 o1 w++shT w)=some (.ret,fr',wH o0 o1 (Hu w<|ZK w.s.Fa (Qo w.s w.e.Id).toNat<|UL w.e)++t)/\get fr' 2=I 0)/\
 (Kg w.s w.e.Id=false->Zb rE s90p2 [(1,.ptr 3 0 0 1),(3,.ptr 4 0 0 1)] (wH o0 o1 w++shT w)=some (.normal,[(1,.ptr 3 0 0 1),(3,.ptr 4 0 0 1),(4,I<|Qo w.s w.e.Id),(32,.bool false)],wH o0 o1 w++shT w)):=by
 have hr:=NI w.s hw.s w.e.Id;unfold Kg;cases c1:decide (Qo w.s w.e.Id<0)with
 |true=>
  have d1:=JE c1;refine⟨λh=>(by cases h),λ_=>?_⟩
  simp only[go_sem,s90p2,wH,shT,hr,d1]
 |false=>
  have d1:=K9 c1;obtain⟨j,x,hj,hx⟩:=QC c1;have hj':Qo w.s w.e.Id=(j:Int):=hj;have gx:=Z6 (f:=Gk.enc) hx;have hE:WM w.s (j:Int)=x.Ld:=by simp[WM,hx]
  have hn:((j:Int)).toNat=j:=rfl;have hch:=Z4b w w.s.Fa j x hx (by have:=hw.s.regions;omega)
  rw[hj']at hr d1⊢;rw[hE,hn];cases c2:x.Ld==-1 with
  |true=>
   refine⟨λ_=>⟨_,[.row 1 [.ptr 2 0 0 1],.row 1 [.str w.e.Id]],by simp only[go_sem,s90p2,wH,shT,Hu,hr,d1,gx,Gk.enc,NL.enc,c2,hch,h0,h1];rfl,by simp only[go_sem]⟩,λh=>(by cases h)⟩
  |false=>
   refine⟨λh=>(by cases h),λ_=>?_⟩
   simp only[go_sem,s90p2,wH,shT,hr,d1,gx,Gk.enc,NL.enc,c2,h0,h1]
def Z4h(o0 o1:AObj)(h0:∀n,Zj n o0=true)(h1:∀n,Zj n o1=true)(w:Wk)(hw:WkS w)(v:AV):
 (Kh w.s w.e.Id=true->∃fr' t,Zb rE s90p3 [(1,.ptr 3 0 0 1),(3,.ptr 4 0 0 1),(4,v),(32,.bool false)] (wH o0 o1 w++shT w)=some (.ret,fr',wH o0 o1 (bif Kf w.s w.e.Id then w else Hv w<|ZK w.s.Gm (ZL w.s w.e.Id).toNat<|UM w.e)++t)/\get fr' 2=I (bif Kf w.s w.e.Id then 11 else 0))/\
 (Kh w.s w.e.Id=false->Zb rE s90p3 [(1,.ptr 3 0 0 1),(3,.ptr 4 0 0 1),(4,v),(32,.bool false)] (wH o0 o1 w++shT w)=some (.normal,[(1,.ptr 3 0 0 1),(3,.ptr 4 0 0 1),(5,I<|ZL w.s w.e.Id),(64,.bool false)],wH o0 o1 w++shT w)):=by
 have hr:=K7 w.s hw.s w.e.Id;have ho:=Z4f w.s hw.s w.e.Id;unfold Kh;cases c1:decide (ZL w.s w.e.Id<0)with
 |true=>
  have d1:=JE c1;refine⟨λh=>(by cases h),λ_=>?_⟩
  simp only[go_sem,s90p3,wH,shT,hr,d1]
 |false=>
  have d1:=K9 c1;obtain⟨j,x,hj,hx⟩:=QC c1;have hj':ZL w.s w.e.Id=(j:Int):=hj;have gx:=Z6 (f:=By.enc) hx;have hE:QF w.s (j:Int)=x.Ld:=by simp[QF,hx]
  have hn:((j:Int)).toNat=j:=rfl;have hch:=Z4c w w.s.Gm j x hx (by have:=hw.s.streets;omega)
  rw[hj']at hr d1⊢;rw[hE,hn];cases c2:x.Ld==-1 with
  |true=>
   refine⟨λ_=>?_,λh=>(by cases h)⟩
   cases c5003:Kf w.s w.e.Id with
   |true=>
    rw[c5003]at ho;exact⟨_,[.row 1 [.ptr 2 0 0 1],.row 1 [.str w.e.Id]],by simp only[go_sem,s90p3,wH,shT,hr,d1,gx,By.enc,NL.enc,c2,ho,h0,h1];rfl,by simp only[go_sem]⟩
   |false=>
    rw[c5003]at ho;exact⟨_,[.row 1 [.ptr 2 0 0 1],.row 1 [.str w.e.Id]],by simp only[go_sem,s90p3,wH,shT,Hv,hr,d1,gx,By.enc,NL.enc,c2,ho,hch,h0,h1];rfl,by simp only[go_sem]⟩
  |false=>
   refine⟨λh=>(by cases h),λ_=>?_⟩
   simp only[go_sem,s90p3,wH,shT,hr,d1,gx,By.enc,NL.enc,c2,h0,h1]
def Z4i(o0 o1:AObj)(h0:∀n,Zj n o0=true)(h1:∀n,Zj n o1=true)(w:Wk)(hw:WkS w)(v:AV):
 (Ki w.s w.e.Id=true->∃fr' t,Zb rE s90p4 [(1,.ptr 3 0 0 1),(3,.ptr 4 0 0 1),(5,v),(64,.bool false)] (wH o0 o1 w++shT w)=some (.ret,fr',wH o0 o1 (Qf w (Zn w.s w.e.Id).toNat ⟨false,[]⟩)++t)/\get fr' 2=I 0)/\
 (Ki w.s w.e.Id=false->Zb rE s90p4 [(1,.ptr 3 0 0 1),(3,.ptr 4 0 0 1),(5,v),(64,.bool false)] (wH o0 o1 w++shT w)=some (.normal,[(1,.ptr 3 0 0 1),(3,.ptr 4 0 0 1),(6,I<|Zn w.s w.e.Id),(103,.bool false)],wH o0 o1 w++shT w)):=by
 have hr:=find_ok w.s hw.s w.e.Id;unfold Ki;cases c1:decide (Zn w.s w.e.Id<0)with
 |true=>
  have d1:=JE c1;refine⟨λh=>(by cases h),λ_=>?_⟩
  simp only[go_sem,s90p4,wH,shT,hr,d1]
 |false=>
  have d1:=K9 c1;obtain⟨j,x,hj,hx⟩:=QC c1;have hj':Zn w.s w.e.Id=(j:Int):=hj;have gx:=Z6 (f:=Ga.enc) hx;have hE:QN w.s (j:Int)=x.Ld:=by simp[QN,hx]
  have hn:((j:Int)).toNat=j:=rfl;have he:=Hq o0 o1 h0 h1 ⟨false,[]⟩ w hw.s.units (by have:=hw.s.doors;omega) j x hx [.row 1 [.ptr 2 0 0 1],.row 1 [.str w.e.Id]]<|Or.inr ⟨_,_,rfl,FE,λn _=>rfl⟩
  rw[hj']at hr d1⊢;rw[hE,hn];cases c2:x.Ld==-1 with
  |true=>
   generalize Qf w j ⟨false,[]⟩=W2 at he⊢;simp only[wH,ZSr,ZT1,ZSA]at he;exact⟨λ_=>⟨_,[.row 1 [.ptr 2 0 0 1],.row 1 [.str w.e.Id]],by simp only[go_sem,s90p4,wH,shT,hr,d1,gx,Ga.enc,NL.enc,c2,he,h0,h1];rfl,by simp only[go_sem]⟩,λh=>(by cases h)⟩
  |false=>
   refine⟨λh=>(by cases h),λ_=>?_⟩
   simp only[go_sem,s90p4,wH,shT,hr,d1,gx,Ga.enc,NL.enc,c2,h0,h1]
def Z4j(o0 o1:AObj)(h0:∀n,Zj n o0=true)(h1:∀n,Zj n o1=true)(w:Wk)(hw:WkS w)(v:AV):
 (UO w.s w.e.Id=true->∃fr' t,Zb rE s90p5 [(1,.ptr 3 0 0 1),(3,.ptr 4 0 0 1),(6,v),(103,.bool false)] (wH o0 o1 w++shT w)=some (.ret,fr',wH o0 o1 (Qx w<|ZK w.s.Nk (Wf w.s w.e.Id).toNat<|UN w.e)++t)/\get fr' 2=I 0)/\
 (UO w.s w.e.Id=false->Zb rE s90p5 [(1,.ptr 3 0 0 1),(3,.ptr 4 0 0 1),(6,v),(103,.bool false)] (wH o0 o1 w++shT w)=some (.normal,[(1,.ptr 3 0 0 1),(3,.ptr 4 0 0 1),(7,I<|Wf w.s w.e.Id),(126,.bool false)],wH o0 o1 w++shT w)):=by
 have hr:=Z2Q w.s hw.s w.e.Id;unfold UO;cases c1:decide (Wf w.s w.e.Id<0)with
 |true=>
  have d1:=JE c1;refine⟨λh=>(by cases h),λ_=>?_⟩
  simp only[go_sem,s90p5,wH,shT,hr,d1]
 |false=>
  have d1:=K9 c1;obtain⟨j,x,hj,hx⟩:=QC c1;have hj':Wf w.s w.e.Id=(j:Int):=hj;have gx:=Z6 (f:=be.enc) hx;have hE:NW w.s (j:Int)=x.Ld:=by simp[NW,hx]
  have hn:((j:Int)).toNat=j:=rfl;have hch:=Z4d w w.s.Nk j x hx (by have:=hw.s.units;omega)
  rw[hj']at hr d1⊢;rw[hE,hn];cases c2:x.Ld==-1 with
  |true=>
   refine⟨λ_=>⟨_,[.row 1 [.ptr 2 0 0 1],.row 1 [.str w.e.Id]],by simp only[go_sem,s90p5,wH,shT,Qx,hr,d1,gx,be.enc,c2,hch,h0,h1];rfl,by simp only[go_sem]⟩,λh=>(by cases h)⟩
  |false=>
   refine⟨λh=>(by cases h),λ_=>?_⟩
   simp only[go_sem,s90p5,wH,shT,hr,d1,gx,be.enc,c2,h0,h1]
def Hw(w:Wk):Int:=
 bif Kg w.s w.e.Id then 0 else bif Kh w.s w.e.Id then(bif Kf w.s w.e.Id then 11 else 0)else bif Ki w.s w.e.Id then 0 else bif UO w.s w.e.Id then 0
 else bif twB w w.e.Id&&decide (Y1 w.s w.e.Id<0)then 11 else 10
def Hy(w:Wk):Wk:=
 bif Kg w.s w.e.Id then Hu w<|ZK w.s.Fa (Qo w.s w.e.Id).toNat<|UL w.e
 else bif Kh w.s w.e.Id then Hv w<|ZK w.s.Gm (ZL w.s w.e.Id).toNat<|UM w.e
 else bif Ki w.s w.e.Id then Qf w (Zn w.s w.e.Id).toNat ⟨false,[]⟩
 else Qx w<|ZK w.s.Nk (Wf w.s w.e.Id).toNat<|UN w.e
def Z4k(o0 o1:AObj)(h0:∀n,Zj n o0=true)(h1:∀n,Zj n o1=true)(w:Wk)(hw:WkS w):∃t,fnV rE 90 [.ptr 2 0 0 1] (wH o0 o1 w)=some (I<|Hw w,wH o0 o1 (bif Hw w==0 then Hy w else w)++t):=by
 have z10:((10:Int)==0)=false:=rfl;have z11:((11:Int)==0)=false:=rfl;have z0:((0:Int)==0)=true:=rfl;have hR:=Z4g o0 o1 h0 h1 w hw;have hS:=Z4h o0 o1 h0 h1 w hw<|I<|Qo w.s w.e.Id;have hD:=Z4i o0 o1 h0 h1 w hw<|I<|ZL w.s w.e.Id;have hU:=Z4j o0 o1 h0 h1 w hw<|I<|Zn w.s w.e.Id;have htw:=Wj w hw w.e.Id;have hb:=Hb w.s hw.s w.e.Id;simp only[wH,shT,ZSr,ZT1]at hR hS hD hU;rw[Q6 (f:=90) (c:=c90) rfl rfl,c90_eq];unfold Hw Hy;cases c1:Kg w.s w.e.Id with
 |true=>
  obtain⟨fr',t,h2,h3⟩:=hR.1 c1;refine⟨t,?_⟩;generalize Hu w (ZK w.s.Fa (Qo w.s w.e.Id).toNat<|UL w.e)=W at h2⊢;simp only[go_sem,s90p0,s90p1,wH,h2,h3,z0]
 |false=>
 have h2:=hR.2 c1;cases c2:Kh w.s w.e.Id with
 |true=>
  obtain⟨fr',t,h3,h4⟩:=hS.1 c2;refine⟨t,?_⟩;cases c5003:Kf w.s w.e.Id with
  |true=>
   rw[c5003]at h3 h4;simp only[cond_true]at h3 h4;simp only[go_sem,s90p0,s90p1,wH,h2,h3,h4,z11]
  |false=>
   rw[c5003]at h3 h4;simp only[cond_false]at h3 h4;generalize Hv w (ZK w.s.Gm (ZL w.s w.e.Id).toNat<|UM w.e)=W at h3⊢;simp only[go_sem,s90p0,s90p1,wH,h2,h3,h4,z0]
 |false=>
 have h3:=hS.2 c2;cases c5003:Ki w.s w.e.Id with
 |true=>
  obtain⟨fr',t,h4,h5⟩:=hD.1 c5003;refine⟨t,?_⟩;generalize Qf w (Zn w.s w.e.Id).toNat ⟨false,[]⟩=W at h4⊢;simp only[go_sem,s90p0,s90p1,wH,h2,h3,h4,h5,z0]
 |false=>
 have h4:=hD.2 c5003;cases c5004:UO w.s w.e.Id with
 |true=>
  obtain⟨fr',t,h5,h6⟩:=hU.1 c5004;refine⟨t,?_⟩;generalize Qx w (ZK w.s.Nk (Wf w.s w.e.Id).toNat<|UN w.e)=W at h5⊢;simp only[go_sem,s90p0,s90p1,wH,h2,h3,h4,h5,h6,z0]
 |false=>
 have h5:=hU.2 c5004;refine⟨[.row 1 [.ptr 2 0 0 1],.row 1 [.str w.e.Id]],?_⟩;cases c5005:twB w w.e.Id with
 |false=>
  rw[c5005]at htw;simp only[go_sem,s90p0,s90p1,s90p6,s90p7,wH,h2,h3,h4,h5,htw,z10]
 |true=>
 rw[c5005]at htw;cases c5006:decide (Y1 w.s w.e.Id<0)with
 |true=>simp only[go_sem,s90p0,s90p1,s90p6,s90p7,wH,h2,h3,h4,h5,htw,hb,c5006,z11]
 |false=>simp only[go_sem,s90p0,s90p1,s90p6,s90p7,wH,h2,h3,h4,h5,htw,hb,c5006,z10]
def UP(n:HN)(x:Ga):Ga:={x with An:=n}
def Z4l(e:Ent)(l:List Ga)(k:Nat)(x:Ga)(hx:l[k]?=some x)(hle:l.length<=1000000):pfn rE 164 [.isl false false 16<|l.map Ga.enc,I k,.clo (.func 165) [] [.iptr true [.str e.Id,.int .i64 e.An.N,.str e.An.bn,.int .i64 e.An.Num,.int .i64 e.An.Den,.int .i64 e.bg.X,.int .i64 e.bg.Y]]]=some (.isl false false 16<|(ZK l k<|UP e.An).map Ga.enc):=by
 have hk:=Z7 hx;have hg:=Z6 (f:=Ga.enc) hx;rw[YA hx,List.map_set];refine Xk (sz:=16) (f:=269) rfl rfl rfl _ _ _ (.tup []) false k (by simpa using hk) (Xj (λ_=>rfl) _) (by simpa using hle) ?_ (by simp) ?_
 .rw[Q6 (f:=165) rfl rfl];simp only[go_sem,c165,beq_self_eq_true,hg,Ga.enc,NL.enc,UP]
 .rw[<-List.map_set];exact Zw (λt=>rfl) _
def Kj(s:Sta)(x:Ent):Bool:=decide (Zn s x.Id<0)
def Hz(w:Wk)(x:Ent):Bool:=QN w.s (Zn w.s x.Id) != -1||!Z3 (XP w.s<|Zn w.s x.Id) w.e.Id
def FH{g:Nat}{cap:List AV}{p:Ent->Bool}(l:List Ent)(hl:l.length<=1000)(ex:Bool)(hfz:∀x∈l,Ql [] (x.enc::cap)=some (x.enc::cap))(hcl:Ql [] [.isl false ex 7<|l.map Ent.enc,.clo (.func g) [] cap]=some [.isl false ex 7<|l.map Ent.enc,.clo (.func g) [] cap])
 (hp:∀x∈l,pfn rE g (x.enc::cap)=some (.bool<|p x)):pfn rE 162 [.isl false ex 7<|l.map Ent.enc,.clo (.func g) [] cap]=some (.bool<|l.any p):=by
 have h1:=FG (E:=rE) (f:=268) (sz:=7) (n:=some 7) (enc:=Ent.enc) (p:=p) (g:=g) (cap:=cap) rfl rfl l hfz (by omega) (λx _=>x.el) hp false ex
 rw[Z5 (f:=162) rfl rfl,<-Vg];unfold WG;simp only[go_sem,c162,h1,hcl]
abbrev JI(w:Wk):List AV:=[.iptr true [.iptr true<|wkC w]]
def ZDV(w:Wk)(x:Ent):Ql [] (x.enc::JI w)=some (x.enc::JI w):=GQ _ _ rfl (by simp[QJ,msz,Ent.enc])
def FJ(w:Wk)(g:Nat)(l:List Ent)(ex:Bool):Ql [] [.isl false ex 7<|l.map Ent.enc,.clo (.func g) []<|JI w]=some [.isl false ex 7<|l.map Ent.enc,.clo (.func g) []<|JI w]:=GQ _ _ rfl (by simp[QJ,msz])
def Z4m(w:Wk)(hw:WkS w):pfn rE 162 [.isl false w.e.Lst.ex 7<|w.e.Lst.l.map Ent.enc,.clo (.func 161) []<|JI w]=some (.bool<|w.e.Lst.l.any<|Kj w.s):=by
 refine FH _ (by have:=hw.e.lst;omega) _ (λx _=>ZDV w x) (FJ w _ _ _)<|λx _=>?_
 have hf:=find_ok w.s hw.s x.Id;rw[Z5 (f:=161) rfl rfl];unfold Kj;simp only[go_sem,c161,Ent.enc,hf]
def Z4n(w:Wk)(hw:WkS w)(hb:w.e.Lst.l.any (Kj w.s)=false):pfn rE 162 [.isl false w.e.Lst.ex 7<|w.e.Lst.l.map Ent.enc,.clo (.func 163) []<|JI w]=some (.bool<|w.e.Lst.l.any<|Hz w):=by
 refine FH _ (by have:=hw.e.lst;omega) _ (λx _=>ZDV w x) (FJ w _ _ _)<|λx hx=>?_
 have hf:=find_ok w.s hw.s x.Id;rw[List.any_eq_false]at hb;have hb1:decide (Zn w.s x.Id<0)=false:=by simpa[Kj]using hb x hx
 obtain⟨j,y,hj,hy⟩:=QC hb1;have hj':Zn w.s x.Id=(j:Int):=hj;have gy:=Z6 (f:=Ga.enc) hy;have hdE:QN w.s (j:Int)=y.Ld:=by simp[QN,hy]
 have hdS:XP w.s (j:Int)=y.By:=by simp[XP,hy]
 unfold Hz;rw[hj']at hf⊢;rw[hdE,hdS,Z5 (f:=163) rfl rfl];cases c1:y.Ld != -1 with
 |true=>simp only[go_sem,c163,Ent.enc,hf,gy,Ga.enc,NL.enc,c1]
 |false=>simp only[go_sem,c163,Ent.enc,hf,gy,Ga.enc,NL.enc,c1]
def Kk(D:List Ga)(id:Str):Int:=Zp (λx:Ga=>Z3 x.Id id) D 0
def NX{α β:Type}(f:α->β)(p:β->Bool):∀(l:List α)(i:Int),Zp (λx=>p<|f x) l i=Zp p (l.map f) i
 |[],_=>rfl
 |x::r,i=>by simp only[Zp,ZS9];rw[NX f p r]
def Z4o{D D':List Ga}(h:D.map (·.Id)=D'.map (·.Id))(id:Str):Kk D id=Kk D' id:=by
 unfold Kk;rw[NX (λx:Ga=>x.Id)<|λi=>Z3 i id,NX (λx:Ga=>x.Id) (λi=>Z3 i id) D',h]
def FK{α β:Type}(g:α->β)(f:α->α)(h:∀x,g (f x)=g x)(l:List α)(k:Nat):(ZK l k f).map g=l.map g:=by
 unfold ZK;cases hk:l[k]? with
 |none=>rfl
 |some x=>
  dsimp only;rw[List.map_set,h];have hi:=Z7 hk;have:(l.map g)[k]'(by simpa using hi)=g x:=by
   rw[ZSb hi]at hk;simp[Option.some.inj hk]
  rw[<-this,List.set_getElem_self]
def Yn(D:List Ga)(l:List Ent):Nat->List Ga
 |0=>D
 |i+1=>match l[i]? with
  |some x=>ZK (Yn D l i) (Kk (Yn D l i) x.Id).toNat<|UP x.An
  |none=>Yn D l i
def HA(D:List Ga)(l:List Ent):∀i,(Yn D l i).map (·.Id)=D.map (·.Id)
 |0=>rfl
 |i+1=>by
  rw[Yn];cases l[i]? with
  |none=>exact HA D l i
  |some x=>exact(FK (λx:Ga=>x.Id) (UP x.An) (λ_=>rfl) _ _).trans (HA D l i)
def FL(D:List Ga)(l:List Ent)(i:Nat):(Yn D l i).length=D.length:=by
 have:=congrArg List.length<|HA D l i;simpa using this
def Z4p(o0 o1:AObj)(h0:∀n,Zj n o0=true)(h1:∀n,Zj n o1=true)(w:Wk)(hw:WkS w)(hb:w.e.Lst.l.any (Kj w.s)=false):
 ∃fr',Zg rE [1,54,55,56] c86L0b [(1,.ptr 3 0 0 1),(54,.isl false w.e.Lst.ex 7<|w.e.Lst.l.map Ent.enc),(55,I w.e.Lst.l.length),(56,.int .i64 0)] (wH o0 o1 w++[.row 1 [.ptr 2 0 0 1]]) =
  some (.exit 0,fr',wH o0 o1 (Ym w<|Yn w.s.Bc w.e.Lst.l w.e.Lst.l.length)++[.row 1 [.ptr 2 0 0 1]]):=by
 have hl:=hw.e.lst;have hdoors:=hw.s.doors;have L:=Y8 (E:=rE) (live:=[1,54,55,56]) (b:=c86L0b) w.e.Lst.l.length
  (λi=>[(1,.ptr 3 0 0 1),(54,.isl false w.e.Lst.ex 7<|w.e.Lst.l.map Ent.enc),(55,I w.e.Lst.l.length),(56,I i)])
  (λi=>wH o0 o1 (Ym w<|Yn w.s.Bc w.e.Lst.l i)++[.row 1 [.ptr 2 0 0 1]]) (λi=>rfl)
  (λi hi=>by
   obtain⟨x,hx⟩:∃x,w.e.Lst.l[i]?=some x:=⟨_,ZSb hi⟩;have hg:=Z6 (f:=Ent.enc) hx;have hi':=Zh hi;have hwr:=Zx (n:=i)<|by omega
   have hS:Yn w.s.Bc w.e.Lst.l (i+1)=ZK (Yn w.s.Bc w.e.Lst.l i) (Kk (Yn w.s.Bc w.e.Lst.l i) x.Id).toNat (UP x.An):=by
    rw[Yn,hx]
   have hids:=Z4o (HA w.s.Bc w.e.Lst.l i) x.Id;have hlen:=FL w.s.Bc w.e.Lst.l i;rw[hS];generalize Yn w.s.Bc w.e.Lst.l i=D at hids hlen⊢;have hb2:=hb;rw[List.any_eq_false]at hb2;have hb1:decide (Kk D x.Id<0)=false:=by
    rw[hids];have:=hb2 x<|ZSN hx;rw[ZTJ]at this;exact this
   obtain⟨j,y,hj,hy⟩:=QC hb1;have hj':Kk D x.Id=(j:Int):=hj;have hf:=find_ok (Ym w D).s ⟨hw.s.regions,hw.s.streets,hw.s.buildings,by show D.length<=1000;omega,hw.s.units,hw.s.merged,hw.s.rulings⟩ x.Id
   have hf2:Zn (Ym w D).s x.Id=(j:Int):=hj;have hn:((j:Int)).toNat=j:=rfl;have hch:=Z4l x D j y hy<|by omega
   rw[hf2]at hf;rw[hj',hn];simp only[Ym]at hf⊢;refine⟨[(1,.ptr 3 0 0 1),(54,.isl false w.e.Lst.ex 7<|w.e.Lst.l.map Ent.enc),(55,I w.e.Lst.l.length),(56,I (i+1:Nat))],?_,rfl⟩;simp only[go_sem,c86L0b,wH,hg,hi',hwr,hf,hch,Ent.enc,h0,h1])
  (e:=.exit 0) (fr:=[(1,.ptr 3 0 0 1),(54,.isl false w.e.Lst.ex 7<|w.e.Lst.l.map Ent.enc),(55,I w.e.Lst.l.length),(56,I w.e.Lst.l.length)]) (h:=wH o0 o1 (Ym w<|Yn w.s.Bc w.e.Lst.l w.e.Lst.l.length)++[.row 1 [.ptr 2 0 0 1]])
  (by simp only[go_sem,c86L0b,ZG,wH,Ym,h0,h1]) (by simp)
 exact⟨_,L⟩
def HD(w:Wk):Int:=
 bif decide (ZL w.s w.e.Id<0)||w.e.Lst.l.any (Kj w.s)then 10
 else bif QF w.s (ZL w.s w.e.Id) != -1||w.e.Lst.l.any (Hz w)then 11 else 0
def NY(w:Wk):Wk:=Ym w<|Yn w.s.Bc w.e.Lst.l w.e.Lst.l.length
def Z4q(o0 o1:AObj)(h0:∀n,Zj n o0=true)(h1:∀n,Zj n o1=true)(w:Wk)(hw:WkS w):∃t,fnV rE 86 [.ptr 2 0 0 1] (wH o0 o1 w)=some (I<|HD w,wH o0 o1 (bif HD w==0 then NY w else w)++t):=by
 have hs:=K7 w.s hw.s w.e.Id;have hb1:=Z4m w hw;have z10:((10:Int)==0)=false:=rfl;have z11:((11:Int)==0)=false:=rfl;have z0:((0:Int)==0)=true:=rfl;rw[Q6 (f:=86) rfl rfl];unfold HD;refine⟨[.row 1 [.ptr 2 0 0 1]],?_⟩;cases c1:decide (ZL w.s w.e.Id<0)with
 |true=>simp only[go_sem,c86,wH,hs,c1,z10]
 |false=>
 cases c2:w.e.Lst.l.any (Kj w.s)with
 |true=>
  rw[c2]at hb1;simp only[go_sem,c86,wH,hs,c1,hb1,z10]
 |false=>
 obtain⟨f1,l1⟩:=Z4p o0 o1 h0 h1 w hw c2;have hb2:=Z4n w hw c2;rw[c2]at hb1;obtain⟨j,x,hj,hx⟩:=QC c1;have hj':ZL w.s w.e.Id=(j:Int):=hj;have gx:=Z6 (f:=By.enc) hx;have hE:QF w.s (j:Int)=x.Ld:=by simp[QF,hx]
 rw[hj']at hs c1⊢;rw[hE];cases c5003:x.Ld != -1 with
 |true=>simp only[go_sem,c86,wH,hs,c1,hb1,gx,By.enc,NL.enc,c5003,z11]
 |false=>
 cases c5004:w.e.Lst.l.any (Hz w)with
 |true=>
  rw[c5004]at hb2;simp only[go_sem,c86,wH,hs,c1,hb1,gx,By.enc,NL.enc,c5003,hb2,z11]
 |false=>
  rw[c5004]at hb2;unfold NY;generalize Ym w (Yn w.s.Bc w.e.Lst.l w.e.Lst.l.length)=W at l1⊢;simp only[wH,ZSr,ZT1]at l1;simp only[go_sem,c86,c86L0,wH,hs,c1,hb1,gx,By.enc,NL.enc,c5003,hb2,l1,z0,h0,h1]
def c39_eq:c39=.seq s39p0 (.seq s39p1<|.seq s39p2<|.seq s39p3<|.seq s39p4<|.seq s39p5<|.seq s39p6 .ret):=rfl
structure StF(s:Sta):Prop where
 e:StE s
 regions:s.Fa.length<=500
 streets:s.Gm.length<=500
 buildings:s.Bt.length<=500
 doors:s.Bc.length<=500
 units:s.Nk.length<=500
 merged:s.Gc.length<=500
 rulings:s.ba.length<=500
def wk0(s:Sta)(a:Int)(e:Gt):Wk:=⟨s,a,e,Qp s⟩
def Z4r(s:Sta):(Qp s).length=s.Fa.length+(s.Gm.length+(s.Bt.length+(s.Bc.length+s.Nk.length))):=by simp[Qp]
def Z4s(s:Sta)(hs:StF s)(a:Int)(e:Gt)(he:EvS e):WkS (wk0 s a e):=⟨hs.e.sizes,he,by
 have h1:=hs.regions;have h2:=hs.streets;have h3:=hs.buildings;have h4:=hs.doors;have h5:=hs.units;show(Qp s).length<=100000
 rw[Z4r];omega⟩
def Q1(w:Wk):Int:=
 match w.e.br.toNat with
 |1=>Hi w
 |2=>bif twB w w.e.Id then 8 else 0
 |3=>Hk w
 |4=>Hm w
 |5=>bif twB w w.e.Id then 8 else 0
 |6=>JD w
 |7=>JB w
 |8=>HD w
 |9=>Ka w
 |10=>Kc w
 |11=>Hs w
 |12=>Hw w
 |13=>Hn w
 |14=>0
 |_=>bif twB w w.e.Id then 8 else 0
def stepW(w:Wk):Wk:=
 match w.e.br.toNat with
 |1=>Hj w
 |2=>Jz w
 |3=>Hl w
 |4=>exW w
 |5=>JA w
 |6=>Qw w<|UE w
 |7=>JC w
 |8=>NY w
 |9=>Kb w
 |10=>Kd w
 |11=>Ht w
 |12=>Hy w
 |13=>Ho w
 |14=>Hh w
 |_=>Qw w<|UD w
def steps:List AV:=[.nilfn,.clo (.func 79) [] [],.clo (.func 80) [] [],.clo (.func 81) [] [],.clo (.func 82) [] [],.clo (.func 83) [] [],.clo (.func 84) [] [],.clo (.func 85) [] [],.clo (.func 86) [] [],.clo (.func 87) [] [],.clo (.func 88) [] [],.clo (.func 89) [] [],.clo (.func 90) [] [],.clo (.func 91) [] [],.clo (.func 92) [] [],.clo (.func 93) [] []]
abbrev HE:List AV:=[.isl false false 6 [],.isl false false 5 [],.isl false false 4 [],.isl false false 16 [],.isl false false 6 [],.isl false false 2 [],.isl false false 2 []]
abbrev apH(w:Wk):Hp:=wH (.row 7 [.agg HE]) (.row 16 [.agg steps]) w
def NZ{w w':Wk}{o0 o1:AObj}{f:Nat}{b:Bool}(h:∃t,fnV rE f [.ptr 2 0 0 1] (wH o0 o1 w)=some (I<|bif b then 8 else 0,wH o0 o1 (bif b then w else w')++t)):
 ∃t,fnV rE f [.ptr 2 0 0 1] (wH o0 o1 w)=some (I<|bif b then 8 else 0,wH o0 o1 (bif (bif b then(8:Int)else 0)==0 then w' else w)++t):=by
 cases b<;>exact h
def step_ok(o0 o1:AObj)(h0:∀n,Zj n o0=true)(h1:∀n,Zj n o1=true)(w:Wk)(hw:WkS w)(k:Nat)(hk:w.e.br=(k:Int))(hk1:1<=k)(hk2:k<=15)(hp:WK w.s=true)(hn:k=10->0<w.e.Ids.l.length):
 ∃g,steps[k]?=some (.clo (.func g) [] [])/\∃t,fnV rE g [.ptr 2 0 0 1] (wH o0 o1 w)=some (I<|Q1 w,wH o0 o1 (bif Q1 w==0 then stepW w else w)++t):=by
 have hkk:w.e.br.toNat=k:=by rw[hk];rfl
 have z0:((0:Int)==0)=true:=rfl;unfold Q1 stepW;rw[hkk];rcases(by omega:k=1\/k=2\/k=3\/k=4\/k=5\/k=6\/k=7\/k=8\/k=9\/k=10\/k=11\/k=12\/k=13\/k=14\/k=15)with rfl|rfl|rfl|rfl|rfl|rfl|rfl|rfl|rfl|rfl|rfl|rfl|rfl|rfl|rfl
 .exact⟨79,rfl,Z3H o0 o1 h0 h1 w hw⟩
 .exact⟨80,rfl,NZ<|Z3w o0 o1 w hw⟩
 .exact⟨81,rfl,Z3I o0 o1 h0 h1 w hw⟩
 .exact⟨82,rfl,Z3J o0 o1 h0 h1 w hw⟩
 .exact⟨83,rfl,NZ<|Z3x o0 o1 w hw⟩
 .exact⟨84,rfl,Z3B o0 o1 h0 h1 w hw⟩
 .exact⟨85,rfl,Z3z o0 o1 w hw⟩
 .exact⟨86,rfl,Z4q o0 o1 h0 h1 w hw⟩
 .exact⟨87,rfl,Z3X o0 o1 h0 h1 w hw⟩
 .exact⟨88,rfl,Z47 o0 o1 h0 h1 w hw<|hn rfl⟩
 .exact⟨89,rfl,Z4a o0 o1 h0 h1 w hw⟩
 .exact⟨90,rfl,Z4k o0 o1 h0 h1 w hw⟩
 .exact⟨91,rfl,Z3M o0 o1 w hw hp⟩
 .exact⟨92,rfl,Z3y o0 o1 w hw⟩
 .exact⟨93,rfl,NZ<|Z3A o0 o1 h0 h1 w hw⟩
def Gr(s s':Sta):Prop:=s'.Fa.length<=s.Fa.length+10/\s'.Gm.length<=s.Gm.length+10/\s'.Bt.length<=s.Bt.length+10/\s'.Bc.length<=s.Bc.length+10/\s'.Nk.length<=s.Nk.length+10/\s'.Gc.length<=s.Gc.length+10/\s'.ba.length<=s.ba.length+10
structure Same(s s':Sta):Prop where
 regions:s'.Fa.length=s.Fa.length
 streets:s'.Gm.length=s.Gm.length
 buildings:s'.Bt.length=s.Bt.length
 doors:s'.Bc.length=s.Bc.length
 units:s'.Nk.length=s.Nk.length
 merged:s'.Gc.length=s.Gc.length
 rulings:s'.ba.length=s.ba.length
def Same.refl(s:Sta):Same s s:=⟨rfl,rfl,rfl,rfl,rfl,rfl,rfl⟩
def Same.trans{a b c:Sta}(h:Same a b)(k:Same b c):Same a c:=⟨k.1.trans h.1,k.2.trans h.2,k.3.trans h.3,k.4.trans h.4,k.5.trans h.5,k.6.trans h.6,k.7.trans h.7⟩
def Gr.same{a b c:Sta}(h:Gr a b)(k:Same b c):Gr a c:=by
 obtain⟨h1,h2,h3,h4,h5,h6,h7⟩:=h;exact⟨by rw[k.1];exact h1,by rw[k.2];exact h2,by rw[k.3];exact h3,by rw[k.4];exact h4,by rw[k.5];exact h5,by rw[k.6];exact h6,by rw[k.7];exact h7⟩
def Same.gr{a b:Sta}(k:Same a b):Gr a b:=⟨by rw[k.1];omega,by rw[k.2];omega,by rw[k.3];omega,by rw[k.4];omega,by rw[k.5];omega,by rw[k.6];omega,by rw[k.7];omega⟩
def HF(w:Wk)(k:Nat)(a:NL Str):Same w.s (Qf w k a).s:=by
 unfold Qf;split
 .exact⟨rfl,rfl,rfl,Xm _ _ _,by simp[Qx,UH],rfl,rfl⟩
 .exact Same.refl _
def Z4t(l:List Int)(a:NL Str):∀w:Wk,Same w.s (Yg w l a).s:=by
 induction l with
 |nil=>intro w;exact Same.refl _
 |cons x r ih=>intro w;rw[UJ];exact(HF _ _ _).trans (ih _)
def FM(w:Wk)(l:List Ga):∀i,Same w.s (Y6 w l i).s
 |0=>Same.refl _
 |i+1=>by
  have ih:=FM w l i;rw[Y6];cases l[i]? with
  |none=>exact ih
  |some x=>
   dsimp only;cases NV w.e.Id x with
   |false=>exact ih
   |true=>exact ih.trans<|HF _ _ _
def M0(w:Wk)(d:Ga):Gr w.s (Qw w d).s:=by
 unfold Gr Qw;simp
def Z4u(w:Wk)(hl:w.e.Lst.l.length<=10):Gr w.s (stepW w).s:=by
 unfold stepW;split
 .unfold Hj;cases decide (Qo w.s w.e.Id<0)with
  |true=>simp[Gr]
  |false=>simp[Gr,Xm]
 .simp[Gr,Jz]
 .unfold Hl;cases decide (Qo w.s w.e.Id>=0)with
  |true=>simp[Gr,Xm]
  |false=>simp[Gr,Xm]
 .simp[Gr,exW,Xm]
 .simp[Gr,JA]
 .exact M0 _ _
 .simp[Gr,JC]
 .exact Same.gr ⟨rfl,rfl,rfl,FL _ _ _,rfl,rfl,rfl⟩
 .unfold Kb;split
  .refine Gr.same ?_<|HF _ _ _;unfold Gr Y5;simp;omega
  .exact(Same.refl _).gr
 .unfold Kd;split
  .exact Gr.same (M0 _ _)<|Z4t _ _ _
  .exact(Same.refl _).gr
 .unfold Ht;refine Same.gr<|Same.trans (b:=(JH w<|ZK w.s.Bt (Y1 w.s w.e.Id).toNat<|Ke w.e).s) ⟨rfl,rfl,Xm _ _ _,rfl,rfl,rfl,rfl⟩<|FM _ _ _
 .unfold Hy;cases Kg w.s w.e.Id with
  |true=>exact Same.gr ⟨Xm _ _ _,rfl,rfl,rfl,rfl,rfl,rfl⟩
  |false=>
  cases Kh w.s w.e.Id with
  |true=>exact Same.gr ⟨rfl,Xm _ _ _,rfl,rfl,rfl,rfl,rfl⟩
  |false=>
  cases Ki w.s w.e.Id with
  |true=>exact Same.gr<|HF _ _ _
  |false=>exact Same.gr ⟨rfl,rfl,rfl,rfl,Xm _ _ _,rfl,rfl⟩
 .simp[Gr,Ho]
 .simp[Gr,Hh]
 .exact M0 _ _
def FN(s:Sta)(hs:StF s)(a:Int)(e:Gt)(he:EvS e):StS (stepW<|wk0 s a e).s:=by
 obtain⟨h1,h2,h3,h4,h5,h6,h7⟩:=Z4u (wk0 s a e) he.lst;have k1:=hs.regions;have k2:=hs.streets;have k3:=hs.buildings;have k4:=hs.doors;have k5:=hs.units;have k6:=hs.merged;have k7:=hs.rulings;have e0:(wk0 s a e).s=s:=rfl;rw[e0]at h1 h2 h3 h4 h5 h6 h7;exact⟨by omega,by omega,by omega,by omega,by omega,by omega,by omega⟩
def Yh:Sta:=⟨[],[],[],[],[],[],[]⟩
def okB(s:Sta)(a:Int)(e:Gt):Bool:=Jx s&&(QM a 0 0&&Q9 e)
def Qk(s:Sta)(a:Int)(e:Gt):Int:=
 bif okB s a e then(bif Q1 (wk0 s a e)==0 then(bif Wh (stepW<|wk0 s a e).s.Bc then 0 else 8)else Q1<|wk0 s a e)else 1
def ZP(s:Sta)(a:Int)(e:Gt):Sta:=
 bif okB s a e&&(Q1 (wk0 s a e)==0&&Wh (stepW<|wk0 s a e).s.Bc)then(stepW<|wk0 s a e).s else Yh
abbrev evL(e:Gt):List AV:=[I e.br,I e.Day,I e.A,I e.B,I e.bz,.str e.Id,.str e.bv,.str e.Text,.isl false e.Ids.ex 1<|e.Ids.l.map encS,.isl false e.bm.ex 3<|e.bm.l.map Nm.enc,
 I e.An.N,.str e.An.bn,I e.An.Num,I e.An.Den,I e.bg.X,I e.bg.Y,.isl false e.Path.ex 2<|e.Path.l.map Pt.enc,.isl false e.Lst.ex 7<|e.Lst.l.map Ent.enc]
def Z4v(w:Wk)(hw:WkS w)(k:Nat)(hk:w.e.br=(k:Int))(hk1:1<=k)(hk2:k<=15)(hp:WK w.s=true)(hn:k=10->0<w.e.Ids.l.length):
 ((Q1 w==0)=true->Zb rE s39p4 [(5,.iptr false<|evL w.e),(6,.ptr 0 0 0 1),(8,.ptr 1 0 0 1),(9,.ptr 2 0 0 1)] (apH w)=some (.normal,[(40,.bool false),(39,I 0),(6,.ptr 0 0 0 1),(9,.ptr 2 0 0 1),(10,I 0)],apH<|stepW w))/\
 ((Q1 w==0)=false->∃fr' t,Zb rE s39p4 [(5,.iptr false<|evL w.e),(6,.ptr 0 0 0 1),(8,.ptr 1 0 0 1),(9,.ptr 2 0 0 1)] (apH w)=some (.ret,fr',apH w++t)/\get fr' 6=.ptr 0 0 0 1/\get fr' 7=I (Q1 w)):=by
 have h0:∀n,Zj n (.row 7 [.agg HE])=true:=λn=>rfl
 have h1:∀n,Zj n (.row 16 [.agg steps])=true:=λn=>rfl
 have hlt:(0<=(k:Int)/\(k:Int)<((16:Nat):Int))=True:=by simp;omega
 have hkn:((k:Int)).toNat=k:=rfl;obtain⟨g,hg,t,hs⟩:=step_ok _ _ h0 h1 w hw k hk hk1 hk2 hp hn;have htk:takeC none (List.drop k steps)=some (.clo (.func g) [] []):=by
  have hl:k<steps.length:=Z7 hg;rw[ZTu hl,N3];rw[ZSb hl]at hg;exact hg
 have nz:(Q1 w != 0) = !(Q1 w==0):=rfl;cases c:Q1 w==0 with
 |true=>
  refine⟨λ_=>?_,λh=>(by cases h)⟩
  have e0:Q1 w=0:=by simpa using c
  rw[c,cond_true]at hs;simp only[wH,ZSr,ZT1]at hs;rw[e0]at hs;have n0:((0:Int) != 0)=false:=rfl;simp only[go_sem,s39p4,apH,wH,hk,hlt,hkn,if_true,ZSa,ZTp,htk,hs,n0,h0,h1]
 |false=>
  refine⟨λh=>(by cases h),λ_=>?_⟩
  rw[c,cond_false]at hs;simp only[wH,ZSr,ZT1]at hs;rw[c]at nz;exact⟨_,[],by simp only[go_sem,s39p4,apH,wH,hk,hlt,hkn,if_true,ZSa,ZTp,htk,hs,nz,h0,h1,ZT9];rfl,by simp only[go_sem],by simp only[go_sem]⟩
def FO(e:Gt)(hf:Q9 e=true)(hk:e.br=((10:Nat):Int)):0<e.Ids.l.length:=by
 simp only[Q9,ZS5]at hf;have h:=hf.2.2.2.2;unfold Q8 at h;rw[hk]at h;have h2:(ZD e.Ids.l.length 2 8&&(Qv (e.Id::e.Ids.l)&&(YO e.An&&gOn e.bg)))=true:=h;rw[ZS5]at h2;have h3:=h2.1;unfold ZD at h3;rw[ZS5]at h3;have:=of_decide_eq_true h3.1;omega
def Z4w(e:Gt)(hf:Q9 e=true):∃k:Nat,e.br=(k:Int)/\1<=k/\k<=15:=by
 simp only[Q9,ZS5]at hf;have h:=hf.1;unfold ZD at h;rw[ZS5]at h;have h1:=of_decide_eq_true h.1;have h2:=of_decide_eq_true h.2;exact⟨e.br.toNat,by omega,by omega,by omega⟩
def Z4x(s:Sta)(h:Jx s=true):WK s=true:=by
 simp only[Jx,ZS5]at h;exact h.2.2.2.2.2.2.2
def JJ(s:Sta)(hs:StF s)(a:Int)(e:Gt)(he:EvS e):pfn rE 39 [stA s,I a,evA e]=some (.tup [stA<|ZP s a e,I<|Qk s a e]):=by
 have hP:=Z3i s hs.e;have hO:=Qc a 0 0;have hF:=NH e he;have hI:=Fd s hs.e.sizes;have hcI:Z4 ((Qp s).map encS)=true:=Zw (λt=>rfl) _
 rw[Z5 (f:=39) (c:=c39) rfl rfl,c39_eq];have z0:(stA Yh)=.agg HE:=rfl;cases c:okB s a e with
 |false=>
  have e1:Qk s a e=1:=by unfold Qk;rw[c];rfl
  have e2:ZP s a e=Yh:=by unfold ZP;rw[c];rfl
  rw[e1,e2,z0];unfold okB at c;cases c1:Jx s with
  |false=>
   rw[c1]at hP;simp only[go_sem,s39p0,s39p1,hP]
  |true=>
  rw[c1]at hP;cases c2:QM a 0 0 with
  |false=>
   rw[c2]at hO;simp only[go_sem,s39p0,s39p1,hP,hO]
  |true=>
  rw[c2]at hO;cases c5003:Q9 e with
  |false=>
   rw[c5003]at hF;simp only[go_sem,s39p0,s39p1,hP,hO,hF]
  |true=>rw[c1,c2,c5003]at c;cases c
 |true=>
  have c':=c;unfold okB at c';simp only[ZS5]at c';obtain⟨c1,c2,c5003⟩:=c';obtain⟨k,hk,hk1,hk2⟩:=Z4w e c5003;obtain⟨hN,hE⟩:=Z4v (wk0 s a e) (Z4s s hs a e he) k hk hk1 hk2 (Z4x s c1)<|λh=>FO e c5003<|by rw[<-h];exact hk
  rw[c1]at hP;rw[c2]at hO;rw[c5003]at hF;cases c5004:Q1 (wk0 s a e)==0 with
  |false=>
   have e1:Qk s a e=Q1 (wk0 s a e):=by unfold Qk;rw[c,c5004];rfl
   have e2:ZP s a e=Yh:=by unfold ZP;rw[c,c5004];rfl
   obtain⟨fr',t,h1,h2,h3⟩:=hE c5004;rw[e1,e2,z0];simp only[apH,wH,wk0,wkC,steps,ZSr,ZT1]at h1 h3⊢;simp only[go_sem,s39p0,s39p1,s39p2,s39p3,hP,hO,hF,hI,h1,h2,h3]
  |true=>
   have h1:=hN c5004;have hz:=FN s hs a e he;have hB:=Fk (stepW<|wk0 s a e).s hz;generalize hW:stepW (wk0 s a e)=W at h1 hB hz;simp only[apH,wH,wk0,wkC,steps]at h1;cases c5005:Wh W.s.Bc with
   |false=>
    have e1:Qk s a e=8:=by unfold Qk;rw[c,c5004,hW,c5005];rfl
    have e2:ZP s a e=Yh:=by unfold ZP;rw[c,c5004,hW,c5005];rfl
    rw[e1,e2,z0];rw[c5005]at hB;simp only[go_sem,s39p0,s39p1,s39p2,s39p3,s39p5,s39p6,hP,hO,hF,hI,h1,hB]
   |true=>
    have e1:Qk s a e=0:=by unfold Qk;rw[c,c5004,hW,c5005];rfl
    have e2:ZP s a e=W.s:=by unfold ZP;rw[c,c5004,hW,c5005];rfl
    rw[e1,e2];rw[c5005]at hB;simp only[go_sem,s39p0,s39p1,s39p2,s39p3,s39p5,s39p6,hP,hO,hF,hI,h1,hB]
def ZcX:List (List UInt8)->List (List UInt8)
 |[]=>[]
 |a::r=>match ZcX r with
  |[]=>[a]
  |b::s=>if a=b then b::s else a::b::s
def ZdC:∀l:List<|List UInt8,Ys (l.map Qd)=(ZcX l).map Qd
 |[]=>rfl
 |a::r=>by
  rw[ZS9];unfold Ys ZcX;rw[ZdC r];cases ZcX r with
  |nil=>rfl
  |cons b s=>
   have e:sameKey (Qd a) (Qd b)=decide (a=b):=by
    show Z3 _ _=_
    unfold Z3;have e1:(⟨a.toArray⟩:ByteArray).data.toList=a:=by simp
    have e2:(⟨b.toArray⟩:ByteArray).data.toList=b:=by simp
    rw[e1,e2];by_cases h:a=b
    .subst h;simp
    .rw[decide_eq_false h];simpa using h
   show(bif sameKey (Qd a) (Qd b)then _ else _)=_
   rw[e];by_cases h:a=b
   .simp[h]
   .simp[h]
def Ze5(a:List UInt8)(r:List<|List UInt8):∃t,ZcX (a::r)=a::t/\t.length<=r.length:=by
 induction r generalizing a with
 |nil=>exact⟨[],rfl,ZS6 _⟩
 |cons b s ih=>
  obtain⟨t,h1,h2⟩:=ih b;unfold ZcX;rw[h1];by_cases h:a=b
  .subst h;exact⟨t,by simp,by simp;omega⟩
  .exact⟨b::t,by simp[h],by simp;omega⟩
def Adj:List (List UInt8)->Prop
 |[]=>True
 |[_]=>True
 |a::b::r=>a≠b/\Adj (b::r)
def ZdD:∀l:List<|List UInt8,(ZcX l).length=l.length↔Adj l
 |[]=>⟨λ_=>trivial,λ_=>rfl⟩
 |[a]=>⟨λ_=>trivial,λ_=>rfl⟩
 |a::b::r=>by
  have ih:=ZdD<|b::r;obtain⟨t,h1,h2⟩:=Ze5 b r;rw[h1]at ih;unfold Adj;rw[<-ih];unfold ZcX;rw[h1];by_cases h:a=b
  .subst h;simp;omega
  .simp[h]
def ZdE:∀l:List<|List UInt8,l.Pairwise (λa b=>leB a b=true)->Adj l->l.Nodup
 |[],_,_=>.nil
 |[a],_,_=>by simp
 |a::b::r,hs,h=>by
  unfold Adj at h;rw[ZSL]at hs;have ih:=ZdE (b::r) hs.2 h.2;rw[List.nodup_cons];refine⟨λhm=>?_,ih⟩
  rcases ZSc.1 hm with e|hm
  .exact h.1 e
  .have hb:=(ZSL.1 hs.2).1 a hm;exact h.1<|ET _ _ (hs.1 b<|ZSO ..) hb
def ZdF:∀l:List<|List UInt8,l.Nodup->Adj l
 |[],_=>trivial
 |[a],_=>trivial
 |a::b::r,h=>by
  rw[List.nodup_cons]at h;exact⟨λe=>h.1 (by rw[e];exact ZSO ..),ZdF (b::r) h.2⟩
def bytes_inj{a b:Str}(h:a.data.toList=b.data.toList):a=b:=by
 obtain⟨⟨a⟩⟩:=a;obtain⟨⟨b⟩⟩:=b;have:a=b:=h;rw[this]
def ZdG{α β:Type}{f:α->β}(hf:∀a b,f a=f b->a=b):∀{l:List α},(l.map f).Nodup↔l.Nodup
 |[]=>by simp
 |a::r=>by
  rw[ZS9,List.nodup_cons,List.nodup_cons,ZdG hf];refine and_congr_left λ_=>not_congr ⟨λh=>?_,λh=>List.mem_map_of_mem h⟩
  obtain⟨b,hb,e⟩:=ZSP.1 h;rw[<-hf _ _ e];exact hb
def Ze6(l:List Str):l.map encS=(l.map (λx:Str=>x.data.toList)).map Qd:=by
 rw[ZTq];apply ZTS;intro x _;obtain⟨⟨x⟩⟩:=x;rfl
def Zdk(l:List Str):Jq l=true↔l.Nodup:=by
 have e:(Ys<|Yk<|l.map encS).length=(ZcX<|WD<|l.map (λx:Str=>x.data.toList)).length:=by
  rw[Ze6,D4,ZdC,ZSf]
 have hl:(WD<|l.map (λx:Str=>x.data.toList)).length=l.length:=by
  rw[(RS _).length_eq,ZSf]
 unfold Jq;rw[beq_iff_eq,e];rw[show((ZcX<|WD<|l.map (λx:Str=>x.data.toList)).length:Int)=(l.length:Int)↔(ZcX<|WD<|l.map (λx:Str=>x.data.toList)).length=(WD<|l.map (λx:Str=>x.data.toList)).length from by rw[hl];omega]
 rw[ZdD];have h1:Adj (WD<|l.map (λx:Str=>x.data.toList))↔(WD<|l.map (λx:Str=>x.data.toList)).Nodup:=⟨ZdE _<|D8 _,ZdF _⟩
 rw[h1,(RS _).nodup_iff,ZdG<|λa b h=>bytes_inj h]
structure Prop'(s:Sta):Prop where
 rg:∀x∈s.Fa,Vo x=true
 st:∀x∈s.Gm,Vp x=true
 bu:∀x∈s.Bt,Vq x=true
 dr:∀(i:Nat)d,s.Bc[i]?=some d->Vr s i d=true
 un:∀x∈s.Nk,Vs s x=true
 ids:(Qp s).Nodup
 pa:WK s=true
def Zda{α:Type}{P:Nat->α->Bool}:∀{l:List α}{i:Nat},Zu P i l=true↔∀(j:Nat)x,l[j]?=some x->P (i+j) x=true
 |[],i=>⟨λ_ j x h=>(by simp at h),λ_=>rfl⟩
 |y::r,i=>by
  unfold Zu;rw[ZS5,Zda (l:=r)];constructor
  .rintro⟨h1,h2⟩ j x hx;cases j with
   |zero=>cases hx;exact h1
   |succ j=>have:=h2 j x hx;rw[show i+(j+1)=i+1+j by omega];exact this
  .intro h;exact⟨h 0 y rfl,λj x hx=>by have:=h (j+1) x hx;rw[show i+1+j=i+(j+1)by omega];exact this⟩
def Zdb(s:Sta):Jx s=true↔Prop' s/\Wh s.Bc=true:=by
 unfold Jx;simp only[ZS5];constructor
 .rintro⟨h1,h2,h3,h4,h5,h6,h7,h8⟩;exact⟨⟨ZSe.1 h1,ZSe.1 h2,ZSe.1 h3,λi d hd=>by have:=Zda.1 h4 i d hd;rwa[ZSa]at this,ZSe.1 h5,(Zdk _).1 h6,h8⟩,h7⟩
 .rintro⟨⟨h1,h2,h3,h4,h5,h6,h8⟩,h7⟩;exact⟨ZSe.2 h1,ZSe.2 h2,ZSe.2 h3,Zda.2 (λi d hd=>by rw[ZSa];exact h4 i d hd),ZSe.2 h5,(Zdk _).2 h6,h7,h8⟩
def look{α:Type}(f:α->Str)(l:List α)(id:Str):Int:=Zp (λx=>Z3 (f x) id) l 0
def ZcU{α:Type}{f:α->Str}{l:List α}{id:Str}(h:decide (look f l id<0)=false):∃(j:Nat)(x:α),look f l id=(j:Int)/\l[j]?=some x/\f x=id:=by
 unfold look at h⊢;rcases UA (λx=>Z3 (f x) id) l 0 with⟨h1,_⟩|⟨j,x,h1,h2,h3⟩
 .rw[h1]at h;cases h
 .exact⟨j,x,by omega,h2,by have:=List.find?_some h3;exact(Ky _ _).1 this⟩
def Ze8{α:Type}{f:α->Str}{l:List α}{x:α}(h:x∈l):decide (look f l (f x)<0)=false:=by
 unfold look;rcases UA (λy=>Z3 (f y)<|f x) l 0 with⟨_,h2⟩|⟨j,y,h1,_,_⟩
 .exfalso;have:=List.find?_eq_none.1 h2 x h;exact this<|(Ky _ _).2 rfl
 .exact decide_eq_false<|by omega
def Zi1{α:Type}{f:α->Str}{l:List α}{j:Nat}{x:α}(hn:(l.map f).Nodup)(h:l[j]?=some x):look f l (f x)=(j:Int):=by
 obtain⟨k,y,h1,h2,h3⟩:=ZcU<|Ze8 (f:=f)<|ZSN h;have hk:(l.map f)[k]?=some (f x):=by rw[ZSx,h2,ZSt,h3]
 have hj:(l.map f)[j]?=some (f x):=by rw[ZSx,h,ZSt]
 have hkl:=(ZS7.1 hk).1;have:k=j:=(List.getElem?_inj hkl hn).1 (hk.trans hj.symm);rw[h1,this]
def ZEz(s:Sta)(id:Str):Zn s id=look (λx:Ga=>x.Id) s.Bc id:=rfl
def Zd0(s:Sta)(i:Nat)(d:Ga):Vr s i d=true↔QM d.bh d.Ld d.From=true/\(∀id∈d.After.l,decide (Zn s id<=i)=false)/\UC d=false/\(Z3 d.Veil emp=true->NO s d=false/\Q9 {Hf d with br:=6}=true)/\(Z3 d.Veil emp=false->NN d=true):=by
 unfold Vr Hg K8;rw[ZS5,ZS5,ZS5,ZSe,ZSy];simp only[ZSy];cases Z3 d.Veil emp with
 |true=>rw[cond_true,ZS5,ZSy];simp
 |false=>rw[cond_false];simp
def ZcV{e:Gt}(h:Q9 e=true):Q8 e=true:=by
 unfold Q9 at h;simp only[ZS5]at h;exact h.2.2.2.2
def ZcW{e:Gt}{k:Int}(hk:e.br=k):Q8 e=Q8 {e with br:=k}:=by rw[<-hk]
def ZdP{K:List Str}{x:Str}:K.any (Z3 x)=true↔x∈K:=by
 rw[List.any_eq_true];exact⟨λ⟨y,h1,h2⟩=>by rw[(Ky _ _).1 h2];exact h1,λh=>⟨x,h,(Ky _ _).2 rfl⟩⟩
def ZbD{α:Type}{Q:α->Prop}{f:α->α}{l:List α}{k:Nat}(h:∀x∈l,Q x)(hf:∀x,Q x->Q (f x)):∀x∈ZK l k f,Q x:=by
 unfold ZK;split
 .rename_i x hx;intro y hy;rcases List.mem_or_eq_of_mem_set hy with h1|rfl
  .exact h y h1
  .exact hf x<|h x<|ZSN hx
 .exact h
def Zd9{α:Type}{Q:α->Prop}{l m:List α}(h:∀x∈l,Q x)(hm:∀x∈m,Q x):∀x∈l++m,Q x:=λx hx=>by
 rcases ZSz.1 hx with h1|h1
 .exact h x h1
 .exact hm x h1
def Zdi{α:Type}{Q:α->Prop}{y:α}(h:Q y):∀x∈[y],Q x:=λx hx=>by rw[ZSn]at hx;subst hx;exact h
structure SizeOk(s:Sta):Prop where
 rg:∀x∈s.Fa,x.bm.l.length<=100/\x.Ring.l.length<=100/\x.Id.size<=1000
 st:∀x∈s.Gm,x.bm.l.length<=100/\x.Line.l.length<=100/\x.Id.size<=1000
 bu:∀x∈s.Bt,x.Ring.l.length<=100/\x.Id.size<=1000
 dr:∀x∈s.Bc,DoS x
 un:∀x∈s.Nk,x.Id.size<=1000/\x.Ga.size<=1000/\x.Text.size<=1000
def Zdr{w:Wk}{k:Nat}{a:NL Str}(h:SizeOk w.s)(ha:a.l.length<=100)(hi:∀id∈a.l,id.size<=1000):SizeOk (Qf w k a).s:=by
 unfold Qf;split
 .rename_i x hx;refine⟨h.rg,h.st,h.bu,ZbD h.dr<|λd hd=>⟨ha,hd.id,hd.building,hd.street,hd.veil⟩,λu hu=>?_⟩
  obtain⟨v,hv,rfl⟩:=ZSP.1 hu;have h0:=h.un v hv;unfold XO;cases Z3P x.Id v with
  |false=>exact h0
  |true=>
   rw[cond_true];unfold UG;split
   .rename_i id r hc;exact⟨h0.1,hi id (by rw[hc];exact ZSO ..),h0.2.2⟩
   .exact h0
 .exact h
def ZdB{w:Wk}{d:Ga}(h:SizeOk w.s)(hd:DoS d):SizeOk (Qw w d).s:=
 ⟨h.rg,h.st,h.bu,Zd9 h.dr<|Zdi ⟨hd.after,hd.id,hd.building,hd.street,hd.veil⟩,h.un⟩
def Ze1{a:NL Str}(ha:a.l.length<=100)(hi:∀id∈a.l,id.size<=1000):∀(l:List Int)(w:Wk),SizeOk w.s->SizeOk (Yg w l a).s
 |[],_,h=>h
 |k::r,w,h=>Ze1 ha hi r (Qf w k.toNat a)<|Zdr h ha hi
def Ze2{w:Wk}{l:List Ga}(h:SizeOk w.s):∀i,SizeOk (Y6 w l i).s
 |0=>h
 |i+1=>by
  have ih:=Ze2 (w:=w) (l:=l) h i;unfold Y6;split
  .rename_i x hx;cases NV w.e.Id x with
   |false=>exact ih
   |true=>exact Zdr ih (Nat.zero_le _)<|λid hc=>by cases hc
  .exact ih
def Ze3{D:List Ga}{l:List Ent}(h:∀x∈D,DoS x):∀i,∀x∈Yn D l i,DoS x
 |0=>h
 |i+1=>by
  have ih:=Ze3 (l:=l) h i;unfold Yn;split
  .exact ZbD ih<|λd hd=>⟨hd.after,hd.id,hd.building,hd.street,hd.veil⟩
  .exact ih
def Ze4{s:Sta}(h:SizeOk s)(k:Nat):(JF s k).l.length<=100:=by
 unfold JF;split
 .rename_i x hx;exact(h.st x<|ZSN hx).1
 .exact Nat.zero_le _
def Zdj:emp.size<=1000:=Nat.zero_le _
def ZeG{w:Wk}(h:SizeOk w.s)(he:EvS w.e)(hL:∀x∈w.e.Lst.l,x.Id.size<=1000):SizeOk (stepW w).s:=by
 unfold stepW;split
 .refine⟨?_,h.st,h.bu,h.dr,h.un⟩;unfold Hj;cases decide (Qo w.s w.e.Id<0)with
  |true=>exact Zd9 h.rg<|Zdi ⟨Nat.zero_le _,he.path,he.id⟩
  |false=>exact ZbD h.rg<|λx hx=>⟨hx.1,he.path,hx.2.2⟩
 .exact⟨h.rg,Zd9 h.st<|Zdi ⟨Nat.zero_le _,he.path,he.id⟩,h.bu,h.dr,h.un⟩
 .unfold Hl;cases decide (Qo w.s w.e.Id>=0)with
  |true=>exact⟨ZbD h.rg<|λx hx=>⟨he.names,hx.2⟩,h.st,h.bu,h.dr,h.un⟩
  |false=>exact⟨h.rg,ZbD h.st<|λx hx=>⟨he.names,hx.2⟩,h.bu,h.dr,h.un⟩
 .exact⟨h.rg,ZbD (ZbD h.st<|λx hx=>⟨Ze4 h _,hx.2⟩)<|λx hx=>⟨Ze4 h _,hx.2⟩,h.bu,h.dr,h.un⟩
 .exact⟨h.rg,h.st,Zd9 h.bu<|Zdi ⟨he.path,he.id⟩,h.dr,h.un⟩
 .exact ZdB h ⟨Nat.zero_le _,he.id,he.other,he.text,Zdj⟩
 .exact⟨h.rg,h.st,h.bu,h.dr,Zd9 h.un<|Zdi ⟨he.id,he.other,he.text⟩⟩
 .exact⟨h.rg,h.st,h.bu,Ze3 h.dr _,h.un⟩
 .unfold Kb;split
  .rename_i d hd;have hd':=h.dr d<|ZSN hd;refine Zdr (w:=Y5 w d w.e.Lst.l) ⟨h.rg,h.st,h.bu,Zd9 h.dr<|λy hy=>?_,h.un⟩ ?_ (λid hid=>?_)
   .obtain⟨x,hx,rfl⟩:=ZSP.1 hy;exact⟨Nat.zero_le _,hL x hx,hd'.building,hd'.street,Zdj⟩
   .rw[ZSf];exact ZSC he.lst<|by decide
   .obtain⟨x,hx,rfl⟩:=ZSP.1 hid;exact hL x hx
  .exact h
 .unfold Kd;split
  .rename_i d hd;have hd':=h.dr d<|ZSN hd;exact Ze1 (a:=⟨false,[w.e.Id]⟩) (by simp) (λid hid=>by rw[ZSn]at hid;subst hid;exact he.id) _ _<|ZdB h ⟨Nat.zero_le _,he.id,hd'.building,hd'.street,Zdj⟩
  .exact h
 .unfold Ht;exact Ze2 (w:=JH w<|ZK w.s.Bt (Y1 w.s w.e.Id).toNat<|Ke w.e) ⟨h.rg,h.st,ZbD (f:=Ke w.e) h.bu<|λx hx=>hx,h.dr,h.un⟩ _
 .unfold Hy;cases Kg w.s w.e.Id with
  |true=>exact⟨ZbD h.rg<|λx hx=>hx,h.st,h.bu,h.dr,h.un⟩
  |false=>
  cases Kh w.s w.e.Id with
  |true=>exact⟨h.rg,ZbD h.st<|λx hx=>hx,h.bu,h.dr,h.un⟩
  |false=>
  cases Ki w.s w.e.Id with
  |true=>exact Zdr h (Nat.zero_le _)<|λid hc=>by cases hc
  |false=>exact⟨h.rg,h.st,h.bu,h.dr,ZbD h.un<|λx hx=>hx⟩
 .exact⟨h.rg,h.st,h.bu,h.dr,h.un⟩
 .exact⟨h.rg,h.st,h.bu,h.dr,h.un⟩
 .exact ZdB h ⟨Nat.zero_le _,he.id,Zdj,Zdj,he.text⟩
def ZeH(s:Sta)(hs:StF s)(a:Int)(e:Gt)(he:EvS e)(hL:∀x∈e.Lst.l,x.Id.size<=1000):StE (ZP s a e):=by
 unfold ZP;cases okB s a e&&(Q1 (wk0 s a e)==0&&Wh (stepW<|wk0 s a e).s.Bc)with
 |true=>
  have h:=ZeG (w:=wk0 s a e) ⟨hs.e.regions,hs.e.streets,hs.e.buildings,hs.e.doors,hs.e.units⟩ he hL;exact⟨FN s hs a e he,h.rg,h.st,h.bu,h.dr,h.un⟩
 |false=>
  refine⟨⟨Nat.zero_le _,Nat.zero_le _,Nat.zero_le _,Nat.zero_le _,Nat.zero_le _,Nat.zero_le _,Nat.zero_le _⟩,?_,?_,?_,?_,?_⟩
  all_goals (intro x hx;cases hx)
def ZoO(m:List<|Int×Int)(k v:Int):List (Int×Int):=match m.findIdx? (λp=>k==p.1)with|some i=>m.set i (k,v)|none=>m++[(k,v)]
def Zos(l:List bf):List (Int×Int):=l.foldl (λm p=>ZoO m p.b p.a) []
def ZoB(m:List<|Int×Int)(k:Int):Option Int:=(m.find?<|λp=>k==p.1).map (·.2)
def ZoL(m:List<|Int×Int):Nat->Int->Option Int
 |0,_=>none
 |n+1,a=>match ZoB m a with|some b=>ZoL m n b|none=>some a
def Zpn(k:Int):∀(m:List<|Int×Int)(i:Nat),ZW false [1] (I k) (m.map<|λp=>I p.1) i=some ((m.findIdx?<|λp=>k==p.1).map (· + i))
 |[],i=>rfl
 |p::r,i=>by
  have ih:=Zpn k r<|i+1;have he:Zz false [1] (I k) (I p.1)=some (k==p.1):=by simp only[go_sem,ZSu,if_true]
  rw[ZS9];unfold ZW;rw[he];dsimp only;rw[ih,List.findIdx?_cons];cases k==p.1 with
  |true=>simp
  |false=>
   simp only[cond_false,ZSo,if_false];congr 1;cases List.findIdx? (λp=>k==p.1) r with
   |none=>rfl
   |some j=>simp;omega
def ZpA(k:Int):Zz false [1] (I k) (I k)=some true:=by simp only[go_sem,ZSu,beq_self_eq_true,if_true]
def Zq7(m:List<|Int×Int)(k v:Int){h:Hp}{b:Nat}(hb:h[b]?=some (.map (m.map<|λp=>I p.1)<|m.map<|λp=>I p.2)):
 YK h false [1] (.mp b) (I k) (I v)=some (.bot,setH h b<|.map ((ZoO m k v).map (λp=>I p.1))<|(ZoO m k v).map (λp=>I p.2)):=by
 simp only[YK,hb,Yo,ZpA];rw[Zpn k m 0];unfold ZoO;cases hf:m.findIdx? (λp=>k==p.1)with
 |none=>
  simp only[Option.map_none,ZM,ZH,ZTs,ZS9,ZSA]
 |some i=>
  simp only[ZSt,ZSp,ZM,ZH,List.map_set];obtain⟨hi,hp,_⟩:=List.findIdx?_eq_some_iff_getElem.1 hf;have hk:(m.map<|λp=>I p.1).set i (I k)=m.map (λp=>I p.1):=by
   have hke:k=m[i].1:=by simpa using hp
   apply ZSY;intro j;rw[List.getElem?_set];by_cases hj:i=j
   .subst hj;rw[if_pos rfl,if_pos (by rw[ZSf];exact hi),ZSx,ZSb hi,hke]
    rfl
   .rw[if_neg hj]
  rw[hk]
def lkV:Option Int->AV
 |some v=>I v
 |none=>I 0
def look_ok(m:List<|Int×Int)(k:Int)(bw:Bool)(h:Hp):
 W5 h false [1] true (I 0) (.imap bw (m.map<|λp=>I p.1)<|m.map<|λp=>I p.2) (I k)=some (.tup [lkV<|ZoB m k,.bool (ZoB m k).isSome]):=by
 simp only[W5,QW,ZpA];rw[Zpn k m 0];unfold ZoB;cases hf:m.findIdx? (λp=>k==p.1)with
 |none=>
  have hn:m.find? (λp=>k==p.1)=none:=by
   rw[List.find?_eq_none];intro x hx;have:=List.findIdx?_eq_none_iff.1 hf x hx;simpa using this
  rw[hn];rfl
 |some i=>
  obtain⟨hi,hp,hlt⟩:=List.findIdx?_eq_some_iff_getElem.1 hf;have hs:m.find? (λp=>k==p.1)=some m[i]:=by
   rw[List.find?_eq_some_iff_getElem];exact⟨hp,i,hi,rfl,λj hj=>by have:=hlt j hj;simpa using this⟩
  rw[hs];simp only[ZSt,ZSp,ZSx,ZSb hi,Option.isSome_some];rfl
def Zq8(m:List<|Int×Int)(k v x:Int):ZoB (ZoO m k v) x=if x=k then some v else ZoB m x:=by
 unfold ZoO;cases hf:m.findIdx? (λp=>k==p.1)with
 |none=>
  have hn:∀p∈m,p.1≠k:=by
   intro p hp hc;have:=List.findIdx?_eq_none_iff.1 hf p hp;rw[hc]at this;simp at this
  unfold ZoB;dsimp only;rw[List.find?_append];by_cases hx:x=k
  .subst hx;have:m.find? (λp=>x==p.1)=none:=by
    rw[List.find?_eq_none];intro p hp hc;exact hn p hp (by simpa using hc:x=p.1).symm
   rw[this,if_pos rfl];simp
  .rw[if_neg hx];cases m.find? (λp=>x==p.1)with
   |some p=>rfl
   |none=>
    have:(x==k)=false:=by simpa using hx
    simp[this]
 |some i=>
  obtain⟨hi,hp,hlt⟩:=List.findIdx?_eq_some_iff_getElem.1 hf;have hp':k=m[i].1:=by simpa using hp
  dsimp only;clear hf;induction m generalizing i with
  |nil=>exact absurd hi<|Nat.not_lt_zero _
  |cons p r ih=>
   cases i with
   |zero=>
    have hpk:k=p.1:=hp';unfold ZoB;rw[List.set_cons_zero,List.find?_cons,List.find?_cons];by_cases hx:x=k
    .subst hx;rw[if_pos rfl];simp
    .rw[if_neg hx];have h1:(x==k)=false:=by simpa using hx
     have h2:(x==p.1)=false:=by rw[<-hpk];exact h1
     simp only[h1,h2]
   |succ i=>
    have h0:=hlt 0<|Nat.succ_pos i;have h0':(k==p.1)=false:=by simpa using h0
    have ih':=ih i (by simpa using hi) (by simpa using hp) (λj hj=>by have:=hlt (j+1) (by omega);simpa using this)<|by simpa using hp'
    unfold ZoB at ih'⊢;rw[List.set_cons_succ,List.find?_cons,List.find?_cons];cases hx:x==p.1 with
    |true=>
     have hxp:x=p.1:=by simpa using hx
     have hxk:x≠k:=by
      intro hc;rw[<-hc,hx]at h0';cases h0'
     rw[if_neg hxk]
    |false=>exact ih'
def Zq9(l:List bf)(h:(l.map (·.b)).Nodup)(x:Int):ZoB (Zos l) x=(l.find?<|λp=>p.b==x).map (·.a):=by
 have G:∀(l:List bf)(m:List<|Int×Int),(l.map (·.b)).Nodup->ZoB (l.foldl (λm p=>ZoO m p.b p.a) m) x=match(l.find?<|λp=>p.b==x).map (·.a)with|some v=>some v|none=>ZoB m x:=by
  intro l;induction l with
  |nil=>intro m _;rfl
  |cons p r ih=>
   intro m hn;rw[ZS9,List.nodup_cons]at hn;rw[ZTj,ih _ hn.2,Zq8,List.find?_cons];cases hx:p.b==x with
   |true=>
    have hpx:p.b=x:=by simpa using hx
    have hr:r.find? (λp=>p.b==x)=none:=by
     rw[List.find?_eq_none];intro q hq hc;have:q.b=x:=by simpa using hc
     exact hn.1 (by rw[hpx,<-this];exact List.mem_map_of_mem (f:=(·.b)) hq)
    rw[hr,if_pos hpx.symm];rfl
   |false=>
    have hpx:¬x=p.b:=λhc=>by rw[hc]at hx;simp at hx
    rw[if_neg hpx]
 have:=G l [] h;unfold Zos;rw[this];cases(l.find?<|λp=>p.b==x).map (·.a)<;>rfl
def ZpB:∀(l:List bf)(K:List Int)(b:Int),(K.any (Vm b)=true\/∃p∈l,p.b=b)->(l.foldl (λK p=>Qi Vm K p.b) K).any (Vm b)=true
 |[],K,b,h=>h.elim id<|λ⟨p,hp,_⟩=>by cases hp
 |p::r,K,b,h=>by
  rw[ZTj];refine ZpB r _ b ?_;rcases h with h|⟨q,hq,hb⟩
  .left;unfold Qi;cases K.any (Vm p.b)with
   |true=>exact h
   |false=>rw[cond_false,List.any_append,h,Bool.true_or]
  .rcases ZSc.1 hq with rfl|hq
   .left;unfold Qi;cases hc:K.any (Vm q.b)with
    |true=>rw[cond_true,<-hb];exact hc
    |false=>
     rw[cond_false,List.any_append,hb];unfold Vm;simp
   .exact Or.inr ⟨q,hq,hb⟩
def ZpC{s:Sta}(hp:WK s=true):(s.Gc.map (·.b)).Nodup/\∀q∈s.Gc,Y2 q=true:=by
 unfold WK at hp;simp only[ZS5]at hp;obtain⟨p1,_,_⟩:=hp;unfold UB at p1;rw[Zda]at p1;refine⟨?_,λq hq=>?_⟩
 .rw[List.nodup_iff_pairwise_ne,List.pairwise_map,List.pairwise_iff_getElem];intro i j hi hj hij hc;have:=p1 j s.Gc[j]<|ZSb hj;rw[ZSa,ZS5,ZSy]at this;have h2:=this.2;unfold QV at h2;rw[ZpB (s.Gc.take j) [] s.Gc[j].b<|Or.inr ⟨s.Gc[i],?_,hc⟩]at h2
  .cases h2
  .rw[ZTv];exact⟨i,by rw[List.getElem?_take,if_pos hij];exact ZSb hi⟩
 .obtain⟨j,hj⟩:=ZTv.1 hq;have:=p1 j q hj;rw[ZS5]at this;exact this.1
def Zoz(a:Int):Bool:=decide (0<=a)&&decide (a<=63)
def Zpo{q:bf}(h:Y2 q=true):(0<=q.a/\q.a<=63)/\(0<=q.b/\q.b<=63):=by
 unfold Y2 QM ZD at h;simp only[ZS5,decide_eq_true_eq]at h;exact⟨⟨h.1.1.1,h.1.1.2⟩,⟨h.2.1.1.1,h.2.1.1.2⟩⟩
def ZpD{s:Sta}(hp:WK s=true)(x:Int):ZoB (Zos s.Gc) x=bif decide (XJ s x<0)then none else some (XJ s x):=by
 obtain⟨h1,h2⟩:=ZpC hp;rw[Zq9 _ h1];unfold XJ;cases hf:s.Gc.find? (λp=>p.b==x)with
 |none=>rfl
 |some p=>
  have:=(Zpo<|h2 p<|List.mem_of_find?_eq_some hf).1;have hd:decide (p.a<0)=false:=decide_eq_false<|by omega
  simp only[ZSt,hd,cond_false]
def ZpE{s:Sta}(hp:WK s=true):∀(n:Nat)(x:Int),0<=x->chN s n x=true->∃b,ZoL (Zos s.Gc) n x=some b
 |0,x,hx,h=>by
  unfold chN at h;rw[show decide (x>=0)=true from decide_eq_true hx]at h
  cases h
 |n+1,x,hx,h=>by
  unfold chN at h;rw[show decide (x>=0)=true from decide_eq_true hx,cond_true]at h
  unfold ZoL;rw[ZpD hp];cases hd:decide (XJ s x<0)with
  |true=>exact⟨x,rfl⟩
  |false=>
   have:=of_decide_eq_false hd;exact ZpE hp n (XJ s x) (by omega) h
def Zoq(s:Sta)(a:Int):Int:=(ZoL (Zos s.Gc) (s.Gc.length+1) a).getD a
def ZpF{s:Sta}(hp:WK s=true){a:Int}(ha:0<=a):ZoL (Zos s.Gc) (s.Gc.length+1) a=some (Zoq s a):=by
 obtain⟨b,hb⟩:=ZpE hp _ a ha<|Z3L s hp a;unfold Zoq;rw[hb];rfl
def ZpG{s:Sta}(hp:WK s=true):∀(n:Nat)(a b:Int),0<=a/\a<=63->ZoL (Zos s.Gc) n a=some b->0<=b/\b<=63
 |0,a,b,_,h=>by cases h
 |n+1,a,b,ha,h=>by
  unfold ZoL at h;rw[ZpD hp]at h;cases hd:decide (XJ s a<0)with
  |true=>rw[hd]at h;cases h;exact ha
  |false=>
   rw[hd]at h;refine ZpG hp n (XJ s a) b ?_ h;have h0:=of_decide_eq_false hd;unfold XJ at h0⊢;cases hf:s.Gc.find? (λp=>p.b==a)with
   |none=>rw[hf]at h0;exact absurd (by decide) h0
   |some p=>exact(Zpo<|(ZpC hp).2 p (List.mem_of_find?_eq_some hf)).1
def ZpH{s:Sta}(hp:WK s=true){a:Int}(ha:0<=a/\a<=63):0<=Zoq s a/\Zoq s a<=63:=ZpG hp _ a _ ha<|ZpF hp ha.1
def ibr(h:Hp)(a b c:Bool):DRec:=bif a&&(!b&&!c)then⟨false,[],some h.length,none⟩else⟨false,[],none,none⟩
def Zqa(h:Hp):ibr h true false false=⟨false,[],some h.length,none⟩:=rfl
def Zqd{E:Env}{sz:Nat}{x:Arg}{fr:Fr}{h:Hp}:Za E (.ibox sz x) fr h=ibr h (fits sz<|ev E (Z2 x.slots fr) x) (Z4 (ev E (Z2 x.slots fr) x).cells) (Zi (ev E (Z2 x.slots fr) x).cells):=by
 simp only[Za,Z8,AOp.slots];cases fits sz (ev E (Z2 x.slots fr) x)<;>cases Z4 (ev E (Z2 x.slots fr) x).cells<;>cases Zi (ev E (Z2 x.slots fr) x).cells<;>rfl
attribute [go_sem] Zqd Zqa
def Zqe(bw:Bool)(h:Hp)(n:Nat)(l:List AV)(hc:Z4 l=true):ZC bw h (n+1) l=some l:=by
 unfold ZC;rw[hc];rfl
def Zqf(bw:Bool)(h:Hp)(n b:Nat)(ks vs:List AV)(hb:h[b]?=some (.map ks vs))(hk:Z4 ks=true)(hv:Z4 vs=true):freeze bw h (n+2) (.mp b)=some (.imap bw ks vs):=by
 unfold freeze;rw[show clean (.mp b)=false from rfl,cond_false]
 dsimp only;rw[hb];dsimp only;rw[hk,cond_true,Zqe bw h n vs hv];rfl
abbrev tkV(s:Sta):AV:=.imap false ((Zos s.Gc).map (λp=>I p.1))<|(Zos s.Gc).map (λp=>I p.2)
abbrev ldA(s:Sta):List AV:=[.isl false false 6<|s.Fa.map Gk.enc,.isl false false 5<|s.Gm.map By.enc,.isl false false 4<|s.Bt.map Ev.enc,.isl false false 16<|s.Bc.map Ga.enc,.isl false false 6<|s.Nk.map be.enc,.isl false false 2<|s.Gc.map bf.enc,.isl false false 2<|s.ba.map bf.enc,tkV s]
abbrev ldI(s:Sta):AV:=.iptr false<|ldA s
def Zqg(s:Sta)(hl:s.Gc.length<=1000):Zg rE [1,4,9,10,11] c69L0b [(1,stI s),(4,.mp 0),(9,.isl false false 2<|s.Gc.map bf.enc),(10,I s.Gc.length),(11,.int .i64 0)] [.map [] []] =
 some (.exit 0,[(1,stI s),(4,.mp 0),(9,.isl false false 2<|s.Gc.map bf.enc),(10,I s.Gc.length),(11,I s.Gc.length)],[.map ((Zos s.Gc).map (λp=>I p.1))<|(Zos s.Gc).map (λp=>I p.2)]):=by
 have hb:∀(m:List<|Int×Int)n,Zd n (m.map<|λp=>I p.1)=true/\Zd n (m.map<|λp=>I p.2)=true:=λm n=>⟨ZN _<|Zw (λt=>rfl) m,ZN _<|Zw (λt=>rfl) m⟩
 have L:=Y8 (E:=rE) (live:=[1,4,9,10,11]) (b:=c69L0b) s.Gc.length (λi=>[(1,stI s),(4,.mp 0),(9,.isl false false 2<|s.Gc.map bf.enc),(10,I s.Gc.length),(11,I i)])
  (λi=>[.map ((Zos<|s.Gc.take i).map (λp=>I p.1))<|(Zos<|s.Gc.take i).map (λp=>I p.2)]) (λi=>rfl)
  (λi hi=>by
   obtain⟨x,hx⟩:∃x,s.Gc[i]?=some x:=⟨_,ZSb hi⟩;have hg:=Z6 (f:=bf.enc) hx;have hi':=Zh hi;have hwr:=Zx (n:=i)<|by omega
   have htk:Zos (s.Gc.take<|i+1)=ZoO (Zos<|s.Gc.take i) x.b x.a:=Us _ _ hx;rw[htk];have hp:=λ(q:AObj)=>Zq7 (Zos<|s.Gc.take i) x.b x.a (h:=[.map ((Zos<|s.Gc.take i).map (λp=>I p.1))<|(Zos<|s.Gc.take i).map (λp=>I p.2),q]) (b:=0) rfl
   generalize Zos (s.Gc.take i)=m at*;have n0:((0:Int)).toNat=0:=rfl;have n1:((1:Int)).toNat=1:=rfl;refine⟨[(1,stI s),(4,.mp 0),(9,.isl false false 2<|s.Gc.map bf.enc),(10,I s.Gc.length),(11,I (i+1:Nat))],?_,rfl⟩;simp only[go_sem,c69L0b,hg,hi',hwr,bf.enc,WJ,XL,n0,n1,if_true,hp,hb])
  (e:=.exit 0) (fr:=[(1,stI s),(4,.mp 0),(9,.isl false false 2<|s.Gc.map bf.enc),(10,I s.Gc.length),(11,I s.Gc.length)]) (h:=[.map ((Zos s.Gc).map (λp=>I p.1))<|(Zos s.Gc).map (λp=>I p.2)]) (by
   rw[List.take_length];simp only[go_sem,c69L0b,ZG,hb]) (by simp)
 exact L
def Zp7(s:Sta)(hE:StE s):pfn rE 69 [stA s]=some (.tup [ldI s,.bool<|Jx s]):=by
 have hP:=Z3i s hE;have L:=Zqg s hE.sizes.merged;have hb:∀(m:List<|Int×Int)n,Zd n (m.map<|λp=>I p.1)=true/\Zd n (m.map<|λp=>I p.2)=true:=λm n=>⟨ZN _<|Zw (λt=>rfl) m,ZN _<|Zw (λt=>rfl) m⟩
 have hc:Z4 ((Zos s.Gc).map (λp=>I p.1))=true/\Z4 ((Zos s.Gc).map (λp=>I p.2))=true:=⟨Zw (λt=>rfl) _,Zw (λt=>rfl) _⟩
 have hz:=λq=>Zqf false [.map ((Zos s.Gc).map (λp=>I p.1))<|(Zos s.Gc).map (λp=>I p.2),q] 27 0 _ _ rfl hc.1 hc.2
 simp only[stI]at L;rw[Z5 (f:=69) rfl rfl];simp only[go_sem,c69,c69L0,L,hP,hb,hz]
def Zp8(a:Int):pfn rE 70 [I a]=some (.bool<|Zoz a):=by
 rw[Z5 (f:=70) rfl rfl];unfold Zoz;have h:decide (a<64)=decide (a<=63):=by
  by_cases c:a<=63
  .rw[decide_eq_true c,decide_eq_true<|by omega]
  .rw[decide_eq_false c,decide_eq_false<|by omega]
 have h0:decide (a>=0)=decide (0<=a):=rfl;cases c:decide (0<=a)<;>simp only[go_sem,c70,h0,c,h]
def ZpI(s:Sta)(b:Int):∀(n:Nat)(a:Int),ZoL (Zos s.Gc) n a=some b->
 ∃fr',Zg rE [0,1,5,6] c72L0b [(0,ldI s),(1,I a),(5,lkV<|ZoB (Zos s.Gc) a),(6,.bool (ZoB (Zos s.Gc) a).isSome)] []=some (.exit 0,fr',[])/\get fr' 1=I b
 |0,a,h=>by cases h
 |n+1,a,h=>by
  unfold ZoL at h;have hk:=λx=>look_ok (Zos s.Gc) x false []
  cases hl:ZoB (Zos s.Gc) a with
  |none=>
   rw[hl]at h;cases h;refine⟨_,Q7 rfl (e:=.exit 0) (fr':=[(0,ldI s),(1,I b),(5,I 0),(6,.bool false)]) (by simp only[go_sem,c72L0b,Option.isSome_none,lkV]) (by simp),by simp only[go_sem]⟩
  |some c=>
   rw[hl]at h;dsimp only at h;obtain⟨fr',h1,h2⟩:=ZpI s b n c h;refine⟨fr',?_,h2⟩;have hs:=hk c;rw[Yt rfl (fr':=[(0,ldI s),(1,I c),(5,lkV<|ZoB (Zos s.Gc) c),(6,.bool (ZoB (Zos s.Gc) c).isSome)]) (h':=[]) (by simp only[go_sem,c72L0b,Option.isSome_some,lkV,hs])]
   exact h1
def ZpJ(s:Sta)(hp:WK s=true)(a:Int)(ha:0<=a):pfn rE 72 [ldI s,I a]=some (I<|Zoq s a):=by
 obtain⟨fr',h1,h2⟩:=ZpI s _ _ a<|ZpF hp ha;have hk:=look_ok (Zos s.Gc) a false [];rw[Z5 (f:=72) rfl rfl];simp only[go_sem,c72,c72L0,hk,h1,h2]
def ZoE(m:Int->Int)(a b:Int):List bf->Option Bool
 |[]=>none
 |p::r=>bif m p.a==a&&m p.b==b then some (a != b)else bif m p.a==b&&m p.b==a then some false else ZoE m a b r
def ZoW(s:Sta)(a b:Int):Bool:=(ZoE (Zoq s) a b s.ba.reverse).getD false
abbrev ruV(s:Sta):AV:=.isl false false 2<|s.ba.map bf.enc
def Zov(s:Sta)(a b:Int):Fr:=[(3,.iptr false [ldI s]),(4,.iptr false [I a]),(5,.iptr false [I b]),(6,.ptr 0 0 0 1),(16,.clo (.func 339) [] [.iptr false [ruV s]])]
def prH(s:Sta)(a b:Int):Hp:=[.row 1 [.bool false],.loop .ready .normal (Zov s a b) [17,18] c138R0a c138R0b]
def prD(s:Sta)(a b:Int)(r:Bool):Hp:=[.row 1 [.bool r],.loop .done .ret (Zov s a b) [17,18] c138R0a c138R0b]
def Zot(s:Sta)(n:Nat):bel n (ldI s)=true:=by
 have hc:Z4 [ldI s]=true:=by
  have hb:Z4 ((Zos s.Gc).map (λp=>I p.1))=true/\Z4 ((Zos s.Gc).map (λp=>I p.2))=true:=⟨Zw (λt=>rfl) _,Zw (λt=>rfl) _⟩
  simp only[go_sem]
 have:=ZN (n:=n) [ldI s] hc;unfold Zd at this;rw[ZS5]at this;exact this.1
def Zow(s:Sta):clean (ldI s)=true:=by
 have hb:Z4 ((Zos s.Gc).map (λp=>I p.1))=true/\Z4 ((Zos s.Gc).map (λp=>I p.2))=true:=⟨Zw (λt=>rfl) _,Zw (λt=>rfl) _⟩
 simp only[go_sem]
def Zqh(s:Sta)(a b:Int)(i:Nat)(p:bf)(ha:pfn rE 72 [ldI s,I p.a]=some (I<|Zoq s p.a))(hb:pfn rE 72 [ldI s,I p.b]=some (I<|Zoq s p.b)):
 U4 rE 1 [I i,.agg [I p.a,I p.b]] (prH s a b)=some (match ZoE (Zoq s) a b [p]with
  |none=>(.bool true,prH s a b++[.row 2 [.agg [I p.a,I p.b]]])
  |some r=>(.bool false,prD s a b r++[.row 2 [.agg [I p.a,I p.b]]])):=by
 have n0:((0:Int)).toNat=0:=rfl;have n1:((1:Int)).toNat=1:=rfl;have hl:=Zot s;have hc:=Zow s;unfold ZoE ZoE;generalize Zoq s p.a=x at*;generalize Zoq s p.b=y at*;cases c1:x==a&&y==b with
 |true=>
  have h:=Ss (E:=rE) (b:=1) (args:=[I i,.agg [I p.a,I p.b]]) (h:=prH s a b) (fr:=Zov s a b) (ps:=[17,18]) (assign:=c138R0a) (body:=c138R0b)
   (fr0:=(18,.agg [I p.a,I p.b])::(17,I i)::Zov s a b) rfl rfl (by simp only[go_sem,c138R0a,prH,Zov]<;>rfl) (by rfl)
   (by
    cases d1:x==a with
    |false=>rw[d1]at c1;cases c1
    |true=>
    rw[d1,ZSS]at c1;simp only[go_sem,c138R0b,ha,hb,WJ,XL,n0,n1,d1,c1]<;>rfl) (by rfl)
  exact h
 |false=>
  rw[cond_false];cases c2:x==b&&y==a with
  |true=>
   have h:=Ss (E:=rE) (b:=1) (args:=[I i,.agg [I p.a,I p.b]]) (h:=prH s a b) (fr:=Zov s a b) (ps:=[17,18]) (assign:=c138R0a) (body:=c138R0b)
    (fr0:=(18,.agg [I p.a,I p.b])::(17,I i)::Zov s a b) rfl rfl (by simp only[go_sem,c138R0a,prH,Zov]<;>rfl) (by rfl)
    (by
     cases e1:x==b with
     |false=>rw[e1]at c2;cases c2
     |true=>
     rw[e1,ZSS]at c2;cases d1:x==a with
     |false=>simp only[go_sem,c138R0b,ha,hb,WJ,XL,n0,n1,d1,e1,c2]<;>rfl
     |true=>
      rw[d1,ZSS]at c1;simp only[go_sem,c138R0b,ha,hb,WJ,XL,n0,n1,d1,c1,e1,c2]<;>rfl) (by rfl)
   exact h
  |false=>
   have h:=Ss (E:=rE) (b:=1) (args:=[I i,.agg [I p.a,I p.b]]) (h:=prH s a b) (fr:=Zov s a b) (ps:=[17,18]) (assign:=c138R0a) (body:=c138R0b)
    (fr0:=(18,.agg [I p.a,I p.b])::(17,I i)::Zov s a b) rfl rfl (by simp only[go_sem,c138R0a,prH,Zov]<;>rfl) (by rfl)
    (e:=.normal) (fr2:=[]) (h2:=[.row 1 [.bool false],.loop .busy .normal (Zov s a b) [17,18] c138R0a c138R0b,.row 2 [.agg [I p.a,I p.b]]])
    (by
     cases d1:x==a with
     |false=>
      cases e1:x==b with
      |false=>simp only[go_sem,c138R0b,Zov,ha,hb,WJ,XL,n0,n1,d1,e1]<;>rfl
      |true=>
       rw[e1,ZSS]at c2;simp only[go_sem,c138R0b,Zov,ha,hb,WJ,XL,n0,n1,d1,e1,c2]<;>rfl
     |true=>
      rw[d1,ZSS]at c1;cases e1:x==b with
      |false=>simp only[go_sem,c138R0b,Zov,ha,hb,WJ,XL,n0,n1,d1,c1,e1]<;>rfl
      |true=>
       rw[e1,ZSS]at c2;simp only[go_sem,c138R0b,Zov,ha,hb,WJ,XL,n0,n1,d1,c1,e1,c2]<;>rfl) (by rfl)
   exact h
def ZpK(s:Sta)(a b:Int)(hl:s.ba.length<=1000)(hM:∀p∈s.ba,pfn rE 72 [ldI s,I p.a]=some (I<|Zoq s p.a)/\pfn rE 72 [ldI s,I p.b]=some (I<|Zoq s p.b)):
 ∀(k:Nat),k<=s.ba.length->∃fr',Zg rE [0,1,3] c339L0b [(0,.yld 1),(1,.iptr false [ruV s]),(3,I<|(k:Int)-1)] (prH s a b) =
  some (match ZoE (Zoq s) a b (s.ba.take k).reverse with|none=>(.exit 0,fr',prH s a b)|some r=>(.ret,fr',prD s a b r))
 |0,_=>⟨_,Q7 rfl (e:=.exit 0) (fr':=[(0,.yld 1),(1,.iptr false [ruV s]),(3,I<|-1)]) (by
  have h0:decide (((0:Nat):Int)-1>=0)=false:=rfl;simp only[go_sem,c339L0b,h0,prH];rfl) (by simp)⟩
 |k+1,hk=>by
  obtain⟨x,hx⟩:∃x,s.ba[k]?=some x:=⟨_,ZSb<|by omega⟩
  obtain⟨m1,m2⟩:=hM x<|ZSN hx;have hg:=Z6 (f:=bf.enc) hx;have hy:=Zqh s a b k x m1 m2;have hk1:(((k+1:Nat):Int)-1)=(k:Int):=by omega
  have hge:decide ((k:Int)>=0)=true:=decide_eq_true<|by omega
  have hw:IntKind.i64.wrap ((k:Int)-1)=(k:Int)-1:=YM (by omega)<|by omega
  have htk:(s.ba.take<|k+1).reverse=x::(s.ba.take k).reverse:=by
   rw[List.take_add_one,hx,List.reverse_append];rfl
  have hbl:=Zot s;have hbf:Zd 2 (frV<|Zov s a b)=true:=by simp only[go_sem,Zov]
  have hp1:ZoE (Zoq s) a b (x::(s.ba.take k).reverse)=match ZoE (Zoq s) a b [x]with|some r=>some r|none=>ZoE (Zoq s) a b (s.ba.take k).reverse:=by
   show(bif _ then _ else bif _ then _ else _)=_
   unfold ZoE;cases Zoq s x.a==a&&Zoq s x.b==b with
   |true=>rfl
   |false=>
    rw[cond_false,cond_false];cases Zoq s x.a==b&&Zoq s x.b==a with
    |true=>rfl
    |false=>rw[cond_false,cond_false];unfold ZoE;rfl
  rw[htk,hp1,hk1];cases hc:ZoE (Zoq s) a b [x]with
  |some r=>
   rw[hc]at hy;dsimp only at hy;refine⟨_,Q7 rfl (e:=.ret) (fr':=[(0,.yld 1),(1,.iptr false [ruV s]),(3,I k)]) (by
    simp only[prH,prD,ZSr,ZT1]at hy⊢;simp only[go_sem,c339L0b,S3,hg,hge,hy,bf.enc,hbf]) (by simp)⟩
  |none=>
   rw[hc]at hy;dsimp only at hy;obtain⟨fr',h1⟩:=ZpK s a b hl hM k<|by omega
   refine⟨fr',?_⟩;rw[Yt rfl (fr':=[(0,.yld 1),(1,.iptr false [ruV s]),(3,I<|(k:Int)-1)]) (h':=prH s a b) (by
    simp only[prH,ZSr,ZT1]at hy⊢;simp only[go_sem,c339L0b,S3,hg,hge,hw,hy,bf.enc,hbf])]
   exact h1
def Zqi(ex:Bool)(es:List AV)(h:Hp)(hc:Z4 es=true):fnV rE 256 [.isl false ex 2 es] h=some (.clo (.func 339) [] [.iptr false [.isl false ex 2 es]],h):=by
 rw[Q6 (f:=256) rfl rfl];simp only[go_sem,c256]
def Zqj(s:Sta)(a b:Int)(hl:s.ba.length<=1000)(hM:∀p∈s.ba,pfn rE 72 [ldI s,I p.a]=some (I<|Zoq s p.a)/\pfn rE 72 [ldI s,I p.b]=some (I<|Zoq s p.b)):
 rf rE (.clo (.func 339) [] [.iptr false [ruV s]]) [17,18] c138R0a c138R0b (Zov s a b) [.row 1 [.bool false]]=match ZoE (Zoq s) a b s.ba.reverse with
  |none=>some (.normal,Zov s a b,[.row 1 [.bool false],.loop .exhausted .normal (Zov s a b) [17,18] c138R0a c138R0b])
  |some r=>some (.ret,Zov s a b,[.row 1 [.bool r],.loop .exhausted .ret (Zov s a b) [17,18] c138R0a c138R0b]):=by
 obtain⟨fr',L⟩:=ZpK s a b hl hM s.ba.length<|ZS6 _;rw[List.take_length]at L;have hw:IntKind.i64.wrap ((s.ba.length:Int)-1)=(s.ba.length:Int)-1:=YM (by omega)<|by omega
 have hbl:=Zot s;have hbf:Zd 2 (frV<|Zov s a b)=true:=by simp only[go_sem,Zov]
 rw[Z1k (c:=c339) rfl];simp only[prH,prD]at L;cases hc:ZoE (Zoq s) a b s.ba.reverse with
 |none=>
  rw[hc]at L;dsimp only at L;simp only[go_sem,c339,c339L0,hw,L,hbf];rfl
 |some r=>
  rw[hc]at L;dsimp only at L;simp only[go_sem,c339,c339L0,hw,L,hbf];rfl
def ZpL(s:Sta)(a b:Int)(hl:s.ba.length<=1000)(hM:∀p∈s.ba,pfn rE 72 [ldI s,I p.a]=some (I<|Zoq s p.a)/\pfn rE 72 [ldI s,I p.b]=some (I<|Zoq s p.b)):
 pfn rE 138 [ldI s,I a,I b]=some (.bool<|ZoW s a b):=by
 have hrf:=Zqj s a b hl hM;have hB:=λh=>Zqi false (s.ba.map bf.enc) h<|Zw (λt=>rfl) _
 have hc:=Zow s;have hbl:=Zot s;unfold ZoW;rw[Z5 (f:=138) rfl rfl];cases hp:ZoE (Zoq s) a b s.ba.reverse with
 |none=>
  rw[hp]at hrf;dsimp only at hrf;simp only[Zov]at hrf;simp only[go_sem,c138,hB,Sr,hrf,hc];rfl
 |some r=>
  rw[hp]at hrf;dsimp only at hrf;simp only[Zov]at hrf;simp only[go_sem,c138,hB,Sr,hrf,hc];rfl
def hfX(q:Int)(p:Int):Int:=W<|W (2*q)-p
def ZoX(p a b:Pt):Int:=W<|W (hfX a.X p.X*hfX b.Y p.Y)-W (hfX a.Y p.Y*hfX b.X p.X)
def Zp9(p a b:Pt):Bool:=ZoX p a b==0&&decide (W (W (hfX a.X p.X*hfX b.X p.X)+W (hfX a.Y p.Y*hfX b.Y p.Y))<=0)
def Zp4(p a b:Pt)(w:Int):Int:=
 bif decide (hfX a.Y p.Y<=0)&&(decide (hfX b.Y p.Y>0)&&decide (ZoX p a b>0))then W<|w+1
 else bif decide (hfX a.Y p.Y>0)&&(decide (hfX b.Y p.Y<=0)&&decide (ZoX p a b<0))then W (w-1)else w
def ZoP(p:Pt)(l:List Pt)(st:Int×Bool)(i:Nat):Int×Bool:=
 (Zp4 p (pAt l i) (pAt l<|(i+1)%l.length) st.1,st.2||Zp9 p (pAt l i) (pAt l<|(i+1)%l.length))
def ZoC(l:List Pt)(p:Pt):Int×Bool:=(List.range l.length).foldl (ZoP p l) (0,false)
def ZoD(v:AV)(p:Pt):Fr:=[(14,.clo (.func 386) [] [.iptr false [v]]),(13,v),(0,v),(3,.iptr false [I p.X,I p.Y]),(4,.ptr 0 0 0 1),(5,.ptr 1 0 0 1)]
def hfH(v:AV)(p:Pt)(st:Int×Bool):Hp:=[.row 1 [I st.1],.row 1 [.bool st.2],.loop .ready .normal (ZoD v p) [15,16] c371R0a c371R0b]
def hfD:ACode:=
 .keep []<|.block 2<|
  .seq (.keep [4,9,11,12,63]<|.region [o 64<|.mv<|.t 9,
   o 65 (.bin .leq (.t 64)<|.c<|.int .i64 0),
   o 66 (.mv<|.t 65),
   og 67 (.mv<|.t 11) 66 true,
   og 68 (.bin .gtr (.t 67)<|.c<|.int .i64 0) 66 true,
   o 69 (.pick (.t 66) (.t 68)<|.c<|.bool false),
   o 70 (.mv<|.t 69),
   og 71 (.mv<|.t 12) 70 true,
   og 72 (.bin .gtr (.t 71)<|.c<|.int .i64 0) 70 true,
   o 73 (.pick (.t 70) (.t 72)<|.c<|.bool false),
   o 63 (.mv<|.t 73)])<|
  .cond (.t 63)
   (.keep []<|.region [o 74<|.load none<|.t 4,
    o 75 (.bin .add (.t 74)<|.c<|.int .i64 1),
    ⟨none,.store 1 (.t 4)<|.t 75,none⟩])
   (.seq (.keep [4,76]<|.region [o 77<|.mv<|.t 9,
     o 78 (.bin .gtr (.t 77)<|.c<|.int .i64 0),
     o 79 (.mv<|.t 78),
     og 80 (.mv<|.t 11) 79 true,
     og 81 (.bin .leq (.t 80)<|.c<|.int .i64 0) 79 true,
     o 82 (.pick (.t 79) (.t 81)<|.c<|.bool false),
     o 83 (.mv<|.t 82),
     og 84 (.mv<|.t 12) 83 true,
     og 85 (.bin .lss (.t 84)<|.c<|.int .i64 0) 83 true,
     o 86 (.pick (.t 83) (.t 85)<|.c<|.bool false),
     o 76 (.mv<|.t 86)])<|
    .cond (.t 76)
     (.keep []<|.region [o 87<|.load none<|.t 4,
      o 88 (.bin .sub (.t 87)<|.c<|.int .i64 1),
      ⟨none,.store 1 (.t 4)<|.t 88,none⟩])
     (.skip))
def hfB:ACode:=
 .keep []<|.block 1<|
  .seq (.keep [4,5,8,9,10,11]<|.draw [[],[],[],[],[],[],[],[],[],[],[],[],[],[],[],[],[],[],[],[],[],[],[],[],[],[],[]]
   [o 17<|.fadr 0<|.t 6,
   o 18 (.load none<|.t 17),
   o 19 (.bin .mul (.c<|.int .i64 2)<|.t 18),
   o 20 (.fadr 0<|.t 3),
   o 21 (.load none<|.t 20),
   o 22 (.bin .sub (.t 19)<|.t 21),
   o 23 (.fadr 1<|.t 6),
   o 24 (.load none<|.t 23),
   o 25 (.bin .mul (.c<|.int .i64 2)<|.t 24),
   o 26 (.fadr 1<|.t 3),
   o 27 (.load none<|.t 26),
   o 28 (.bin .sub (.t 25)<|.t 27),
   o 29 (.fadr 0<|.t 7),
   o 30 (.load none<|.t 29),
   o 31 (.bin .mul (.c<|.int .i64 2)<|.t 30),
   o 32 (.fadr 0<|.t 3),
   o 33 (.load none<|.t 32),
   o 34 (.bin .sub (.t 31)<|.t 33),
   o 35 (.fadr 1<|.t 7),
   o 36 (.load none<|.t 35),
   o 37 (.bin .mul (.c<|.int .i64 2)<|.t 36),
   o 38 (.fadr 1<|.t 3),
   o 39 (.load none<|.t 38),
   o 40 (.bin .sub (.t 37)<|.t 39),
   o 8 (.mv<|.t 22),
   o 9 (.mv<|.t 28),
   o 10 (.mv<|.t 34)]
   [o 11<|.mv<|.t 40])<|
  .seq (.keep [4,5,8,9,10,11,12]<|.region [o 41<|.mv<|.t 8,
   o 42 (.mv<|.t 11),
   o 43 (.bin .mul (.t 41)<|.t 42),
   o 44 (.mv<|.t 9),
   o 45 (.mv<|.t 10),
   o 46 (.bin .mul (.t 44)<|.t 45),
   o 47 (.bin .sub (.t 43)<|.t 46),
   o 12 (.mv<|.t 47)])<|
  .seq (.keep [4,9,11,12]<|.region [o 48<|.load none<|.t 5,
   o 49 (.mv<|.t 48),
   og 50 (.mv<|.t 12) 49 false,
   og 51 (.bin .eql (.t 50)<|.c<|.int .i64 0) 49 false,
   og 52 (.mv<|.t 51) 49 false,
   og 53 (.mv<|.t 8) 52 true,
   og 54 (.mv<|.t 10) 52 true,
   og 55 (.bin .mul (.t 53)<|.t 54) 52 true,
   og 56 (.mv<|.t 9) 52 true,
   og 57 (.mv<|.t 11) 52 true,
   og 58 (.bin .mul (.t 56)<|.t 57) 52 true,
   og 59 (.bin .add (.t 55)<|.t 58) 52 true,
   og 60 (.bin .leq (.t 59)<|.c<|.int .i64 0) 52 true,
   og 61 (.pick (.t 52) (.t 60)<|.c<|.bool false) 49 false,
   o 62 (.pick (.t 49) (.c<|.bool true)<|.t 61),
   ⟨none,.store 1 (.t 5)<|.t 62,none⟩])<|
  hfD
def Zqk(p a b:Pt)(w:Int)(F:Fr)(hb6:Zd 6 (frV F)=true)(x:Bool)(r3 r4 r5:AObj)(h3:∀n,2<=n->Zj n r3=true)(h4:∀n,2<=n->Zj n r4=true)(h5:∀n,2<=n->Zj n r5=true):
 Zb rE hfD [(4,.ptr 0 0 0 1),(9,I<|hfX a.Y p.Y),(11,I<|hfX b.Y p.Y),(12,I<|ZoX p a b)] [.row 1 [I w],.row 1 [.bool x],.loop .busy .normal F [15,16] c371R0a c371R0b,r3,r4,r5] =
  some (.normal,[],[.row 1 [I<|Zp4 p a b w],.row 1 [.bool x],.loop .busy .normal F [15,16] c371R0a c371R0b,r3,r4,r5]):=by
 have t6:decide (hfX a.Y p.Y>0) = !decide (hfX a.Y p.Y<=0):=by by_cases c:hfX a.Y p.Y<=0<;>simp[c]<;>omega
 have t7:decide (hfX b.Y p.Y<=0) = !decide (hfX b.Y p.Y>0):=by by_cases c:hfX b.Y p.Y>0<;>simp[c]<;>omega
 have q3:=h3 6<|by decide
 have q4:=h4 6<|by decide
 have q5:=h5 6<|by decide
 unfold Zp4;rw[t6,t7];generalize hfX a.Y p.Y=ay at*;generalize hfX b.Y p.Y=by' at*
 generalize ZoX p a b=tn at*;cases d3:decide (ay<=0)with
 |true=>
  cases d4:decide (by'>0)with
  |true=>
   rw[d3]at t6;cases d5:decide (tn>0)with
   |true=>simp only[go_sem,hfD,d3,d4,d5,hb6,q3,q4,q5]
   |false=>simp only[go_sem,hfD,d3,d4,d5,t6,hb6,q3,q4,q5,ZSF,Bool.and_false,Bool.false_and,cond_false]
  |false=>
   rw[d3]at t6;simp only[go_sem,hfD,d3,d4,t6,hb6,q3,q4,q5,ZSF,Bool.and_false,Bool.false_and,cond_false]
 |false=>
  rw[d3]at t6;cases d4:decide (by'>0)with
  |true=>
   rw[d4]at t7;simp only[go_sem,hfD,d3,t6,t7,hb6,q3,q4,q5,ZSF,ZSw,Bool.and_false,Bool.false_and,cond_false]
  |false=>
   rw[d4]at t7;cases d8:decide (tn<0)with
   |true=>simp only[go_sem,hfD,d3,t6,t7,d8,hb6,q3,q4,q5,ZSw,Bool.false_and,cond_false,ZSu,cond_true]
   |false=>simp only[go_sem,hfD,d3,t6,t7,d8,hb6,q3,q4,q5,ZSw,Bool.false_and,cond_false,Bool.and_false]
def Zql(v:AV)(hv:∀n,bel n v=true)(p:Pt)(st:Int×Bool)(q a b:Pt):
 U4 rE 2 [.agg [I a.X,I a.Y],.agg [I b.X,I b.Y]] (hfH v p st++[.row 2 [.agg [I q.X,I q.Y]]]) =
  some (.bool true,hfH v p (Zp4 p a b st.1,st.2||Zp9 p a b)++[.row 2 [.agg [I q.X,I q.Y]],.row 2 [.agg [I a.X,I a.Y]],.row 2 [.agg [I b.X,I b.Y]]]):=by
 have h:=Ss (E:=rE) (b:=2) (args:=[.agg [I a.X,I a.Y],.agg [I b.X,I b.Y]]) (h:=hfH v p st++[.row 2 [.agg [I q.X,I q.Y]]]) (fr:=ZoD v p) (ps:=[15,16]) (assign:=c371R0a) (body:=c371R0b)
  (fr0:=(16,.agg [I b.X,I b.Y])::(15,.agg [I a.X,I a.Y])::ZoD v p) rfl rfl (by simp only[go_sem,c371R0a,hfH,ZoD]<;>rfl) (by rfl)
  (e:=.normal) (fr2:=[]) (h2:=[.row 1 [I<|Zp4 p a b st.1],.row 1 [.bool<|st.2||Zp9 p a b],.loop .busy .normal (ZoD v p) [15,16] c371R0a c371R0b,.row 2 [.agg [I q.X,I q.Y]],.row 2 [.agg [I a.X,I a.Y]],.row 2 [.agg [I b.X,I b.Y]]])
  (by
   show Zb rE hfB [(7,.ptr 5 0 0 1),(6,.ptr 4 0 0 1),(16,.agg [I b.X,I b.Y]),(15,.agg [I a.X,I a.Y]),(14,.clo (.func 386) [] [.iptr false [v]]),(13,v),(0,v),(3,.iptr false [I p.X,I p.Y]),(4,.ptr 0 0 0 1),(5,.ptr 1 0 0 1)]
    [.row 1 [I st.1],.row 1 [.bool st.2],.loop .busy .normal (ZoD v p) [15,16] c371R0a c371R0b,.row 2 [.agg [I q.X,I q.Y]],.row 2 [.agg [I a.X,I a.Y]],.row 2 [.agg [I b.X,I b.Y]]]=_
   have hb6:Zd 6 (frV<|ZoD v p)=true:=by simp only[go_sem,ZoD,hv]
   have hr:∀(z:Pt)n,2<=n->Zj n (.row 2 [.agg [I z.X,I z.Y]])=true:=λz n _=>rfl
   have hL:=λx=>Zqk p a b st.1 (ZoD v p) hb6 x (.row 2 [.agg [I q.X,I q.Y]]) (.row 2 [.agg [I a.X,I a.Y]]) (.row 2 [.agg [I b.X,I b.Y]]) (hr q) (hr a)<|hr b
   simp only[hfX,ZoX]at hL;unfold Zp9 ZoX hfX;cases c1:st.2 with
   |true=>
    rw[Bool.true_or];simp only[go_sem,hfB,hb6,hL]
   |false=>
    rw[Bool.false_or];cases d1:W (W (W (W (2*a.X)-p.X)*W (W (2*b.Y)-p.Y))-W (W (W (2*a.Y)-p.Y)*W (W (2*b.X)-p.X)))==0 with
    |true=>simp only[go_sem,hfB,hb6,hL,d1,ZSS]
    |false=>simp only[go_sem,hfB,hb6,hL,d1,Bool.false_and]) (by rfl)
 exact h
def Zqm(l:List Pt)(ex:Bool)(hl:l.length<=1000000)(p:Pt):pfn rE 371 [.isl false ex 2<|l.map Pt.enc,.agg [I p.X,I p.Y]]=some (.tup [I (ZoC l p).1,.bool (ZoC l p).2]):=by
 have hv:∀n,bel n (.isl false ex 2<|l.map Pt.enc)=true:=λn=>by
  have:=ZN (n:=n) [.isl false ex 2<|l.map Pt.enc] (by have:=Zw (f:=Pt.enc) (λt=>rfl) l;simp only[go_sem])
  unfold Zd at this;rw[ZS5]at this;exact this.1
 have hb3:Zd 3 (frV<|ZoD (.isl false ex 2<|l.map Pt.enc) p)=true:=by simp only[go_sem,ZoD,hv]
 have L:=Y8 (E:=rE) (live:=[0,1,5,6,7]) (b:=c386L0b) l.length (λi=>[(0,.yld 2),(1,.iptr false [.isl false ex 2<|l.map Pt.enc]),(5,.isl false ex 2<|l.map Pt.enc),(6,I l.length),(7,I i)])
  (λi=>hfH (.isl false ex 2<|l.map Pt.enc) p<|(List.range i).foldl (ZoP p l) (0,false)) (λi=>rfl)
  (λi hi=>by
   have h0:0<l.length:=by omega
   have hg:=YN hi;have hg2:=YN (l:=l)<|Nat.mod_lt (i+1) h0;have hi':=Zh hi;have hw:=Zx (n:=i)<|by omega
   have hn:=nat_ne h0;have hy:=Zql (.isl false ex 2<|l.map Pt.enc) hv p ((List.range i).foldl (ZoP p l) (0,false)) (pAt l i) (pAt l i)<|pAt l<|(i+1)%l.length;have hs:(List.range<|i+1).foldl (ZoP p l) (0,false)=ZoP p l ((List.range i).foldl (ZoP p l) (0,false)) i:=by
    rw[List.range_succ,List.foldl_append];rfl
   rw[hs];generalize(List.range i).foldl (ZoP p l) (0,false)=n at*;unfold ZoP;simp only[hfH,ZSr,ZT1]at hy⊢;refine⟨_,by simp only[go_sem,c386L0b,S3,hg,hg2,hi',hw,hn,Jc,hy,Pt.enc,hb3];rfl,?_⟩
   simp only[go_sem])
  (e:=.exit 0) (by simp only[go_sem,hfH,c386L0b,ZG];rfl) (by simp)
 have L':Zg rE [0,1,5,6,7] c386L0b [(0,.yld 2),(1,.iptr false [.isl false ex 2<|l.map Pt.enc]),(5,.isl false ex 2<|l.map Pt.enc),(6,I l.length),(7,.int .i64 0)] [.row 1 [.int .i64 0],.row 1 [.bool false],.loop .ready .normal (ZoD (.isl false ex 2<|l.map Pt.enc) p) [15,16] c371R0a c371R0b]=_:=L;rw[Z5 (f:=371) rfl rfl];have hrf:rf rE (.clo (.func 386) [] [.iptr false [.isl false ex 2<|l.map Pt.enc]]) [15,16] c371R0a c371R0b (ZoD (.isl false ex 2<|l.map Pt.enc) p) [.row 1 [.int .i64 0],.row 1 [.bool false]] =
  some (.normal,ZoD (.isl false ex 2<|l.map Pt.enc) p,[.row 1 [I (ZoC l p).1],.row 1 [.bool (ZoC l p).2],.loop .exhausted .normal (ZoD (.isl false ex 2<|l.map Pt.enc) p) [15,16] c371R0a c371R0b]):=by
  rw[Z1k (c:=c386) rfl];simp only[go_sem,c386,c386L0,L',hb3];rfl
 simp only[ZoD]at hrf;simp only[go_sem,c371,Z1l,Sr,hrf,hv]
def ZoY(l:List Pt)(p:Pt):Int:=
 bif (!Vh l||Jf p)||((ZoC l ⟨W<|2*p.X,W<|2*p.Y⟩).1==0&&!(ZoC l ⟨W<|2*p.X,W<|2*p.Y⟩).2)then -1
 else bif (ZoC l ⟨W<|2*p.X,W<|2*p.Y⟩).1 != 0&&!(ZoC l ⟨W<|2*p.X,W<|2*p.Y⟩).2 then 1 else 0
def Zqn(l:List Pt)(ex:Bool)(hl:l.length<=1000000)(p:Pt):pfn rE 251 [.isl false ex 2<|l.map Pt.enc,.agg [I p.X,I p.Y]]=some (I<|ZoY l p):=by
 have hV:=Dz l ex hl;have hO:=Z1h p;have hH:=Zqm l ex hl ⟨W<|2*p.X,W<|2*p.Y⟩;have hO2:pfn rE 334 [.isl false ex 2<|l.map Pt.enc,.agg [I<|W<|2*p.X,I<|W<|2*p.Y]]=some (.bool<|(ZoC l ⟨W<|2*p.X,W<|2*p.Y⟩).1==0&&!(ZoC l ⟨W<|2*p.X,W<|2*p.Y⟩).2):=by
  rw[Z5 (f:=334) rfl rfl];cases c:(ZoC l ⟨W<|2*p.X,W<|2*p.Y⟩).1==0<;>simp only[go_sem,c334,hH,c,ZSS,Bool.false_and]
 have hI:pfn rE 335 [.isl false ex 2<|l.map Pt.enc,.agg [I<|W<|2*p.X,I<|W<|2*p.Y]]=some (.bool<|(ZoC l ⟨W<|2*p.X,W<|2*p.Y⟩).1 != 0&&!(ZoC l ⟨W<|2*p.X,W<|2*p.Y⟩).2):=by
  rw[Z5 (f:=335) rfl rfl];cases c:(ZoC l ⟨W<|2*p.X,W<|2*p.Y⟩).1 != 0<;>simp only[go_sem,c335,hH,c,ZSS,Bool.false_and]
 rw[Z5 (f:=251) rfl rfl];unfold ZoY;generalize((ZoC l ⟨W<|2*p.X,W<|2*p.Y⟩).1==0&&!(ZoC l ⟨W<|2*p.X,W<|2*p.Y⟩).2)=b1 at*;generalize((ZoC l ⟨W<|2*p.X,W<|2*p.Y⟩).1 != 0&&!(ZoC l ⟨W<|2*p.X,W<|2*p.Y⟩).2)=b2 at*;cases c1:Vh l with
 |false=>simp only[go_sem,c251,hV,c1,ZSw,Bool.true_or,cond_true]
 |true=>
 cases c2:Jf p with
 |true=>simp only[go_sem,c251,hV,hO,c1,c2,ZSF,Bool.false_or,Bool.true_or,cond_true]
 |false=>
 cases b1 with
 |true=>simp only[go_sem,c251,hV,hO,hO2,c1,c2,ZSF,Bool.false_or,cond_true]
 |false=>
 cases b2<;>simp only[go_sem,c251,hV,hO,hO2,hI,c1,c2,ZSF,Bool.false_or,cond_true,cond_false]
def ZoG(x:Gk):Bool:=x.br==1&&x.Ld==-1
def ZpM(x:Gk):pfn rE 130 [x.enc]=some (.bool<|ZoG x):=by
 rw[Z5 (f:=130) rfl rfl];unfold ZoG;cases c:x.br==1<;>simp only[go_sem,c130,Gk.enc,NL.enc,c,ZSS,Bool.false_and]
def ZoF(s:Sta)(p:Pt)(K:List Int)(x:Gk):List Int:=bif ZoG x&&decide (ZoY x.Ring.l p>=0)then Qi Vm K (Zoq s x.bh)else K
def Zoy(s:Sta)(p:Pt):List Int:=s.Fa.foldl (ZoF s p) []
def ZoH(s:Sta)(p:Pt):List Int:=Zox<|Zoy s p
structure ClS(s:Sta):Prop where
 E:StE s
 pr:Jx s=true
def ClS.prop{s:Sta}(h:ClS s):Prop' s:=((Zdb s).1 h.pr).1
def Zpa{a b c:Int}(h:QM a b c=true):0<=a/\a<=63:=by
 unfold QM ZD at h;simp only[ZS5,decide_eq_true_eq]at h;exact h.1
def ClS.reg{s:Sta}(h:ClS s){x:Gk}(hx:x∈s.Fa):0<=x.bh/\x.bh<=63:=by
 have:=h.prop.rg x hx;unfold Vo at this;simp only[ZS5]at this;exact Zpa this.1
def ClS.mst{s:Sta}(h:ClS s){a:Int}(ha:0<=a):pfn rE 72 [ldI s,I a]=some (I<|Zoq s a):=ZpJ s h.prop.pa a ha
def ZpN{s:Sta}(h:ClS s)(p:Pt):∀(l:List Gk)(K:List Int),(∀x∈l,x∈s.Fa)->(∀z∈K,0<=z/\z<=63)->∀z∈l.foldl (ZoF s p) K,0<=z/\z<=63
 |[],K,_,hK=>hK
 |x::r,K,hl,hK=>by
  rw[ZTj];refine ZpN h p r _ (λy hy=>hl y<|ZSW _ hy)<|λz hz=>?_
  unfold ZoF at hz;cases c:ZoG x&&decide (ZoY x.Ring.l p>=0)with
  |false=>rw[c]at hz;exact hK z hz
  |true=>
   rw[c,cond_true]at hz;unfold Qi at hz;cases d:K.any (Vm<|Zoq s x.bh)with
   |true=>rw[d]at hz;exact hK z hz
   |false=>
    rw[d,cond_false,ZSz,ZSn]at hz;rcases hz with hz|rfl
    .exact hK z hz
    .exact ZpH h.prop.pa<|h.reg<|hl x<|ZSO ..
def Zqo(s:Sta)(h:ClS s)(p:Pt):Zg rE [0,3,5,13,14,15] c134L0b [(0,ldI s),(3,.iptr false [I p.X,I p.Y]),(5,.mp 0),(13,.isl false false 6<|s.Fa.map Gk.enc),(14,I s.Fa.length),(15,.int .i64 0)] [.map [] []] =
 some (.exit 0,[(0,ldI s),(3,.iptr false [I p.X,I p.Y]),(5,.mp 0),(13,.isl false false 6<|s.Fa.map Gk.enc),(14,I s.Fa.length),(15,I s.Fa.length)],[.map ((Zoy s p).map I)<|ZO (Zoy s p).length]):=by
 have hl:=h.E.sizes.regions;have hbl:=Zot s;have hb:∀(K:List Int)n,Zd n (K.map I)=true/\Zd n (ZO K.length)=true:=λK n=>⟨ZN _<|Zw (λt=>rfl) K,ZN _<|Ut _⟩
 have L:=Y8 (E:=rE) (live:=[0,3,5,13,14,15]) (b:=c134L0b) s.Fa.length (λi=>[(0,ldI s),(3,.iptr false [I p.X,I p.Y]),(5,.mp 0),(13,.isl false false 6<|s.Fa.map Gk.enc),(14,I s.Fa.length),(15,I i)])
  (λi=>[.map (((s.Fa.take i).foldl (ZoF s p) []).map I)<|ZO ((s.Fa.take i).foldl (ZoF s p) []).length]) (λi=>rfl)
  (λi hi=>by
   obtain⟨x,hx⟩:∃x,s.Fa[i]?=some x:=⟨_,ZSb hi⟩;have hm:=ZSN hx;have hg:=Z6 (f:=Gk.enc) hx;have hi':=Zh hi;have hwr:=Zx (n:=i)<|by omega
   have hT:=ZpM x;have hW:=Zqn x.Ring.l x.Ring.ex (ZSC (h.E.regions x hm).2.1 (by omega)) p
   have hM:=h.mst (h.reg hm).1;rw[Us _ _ hx];generalize List.foldl (ZoF s p) [] (s.Fa.take i)=K at*;unfold ZoF;have hp:=λ(q:AObj)=>Ur (eq:=Vm) Wi K (Zoq s x.bh) (h:=[.map (K.map I)<|ZO K.length,q]) (b:=0) rfl
   refine⟨[(0,ldI s),(3,.iptr false [I p.X,I p.Y]),(5,.mp 0),(13,.isl false false 6<|s.Fa.map Gk.enc),(14,I s.Fa.length),(15,I (i+1:Nat))],?_,rfl⟩;simp only[Gk.enc,NL.enc]at hT;cases c1:ZoG x with
   |false=>
    rw[c1]at hT;simp only[go_sem,c134L0b,hg,hi',hwr,hT,Gk.enc,NL.enc,hb,hbl,Bool.false_and,cond_false]
   |true=>
   rw[c1]at hT;cases c2:decide (ZoY x.Ring.l p>=0)with
   |false=>simp only[go_sem,c134L0b,hg,hi',hwr,hT,hW,c2,Gk.enc,NL.enc,hb,hbl,ZSS,cond_false]
   |true=>simp only[go_sem,c134L0b,hg,hi',hwr,hT,hW,hM,hp,c2,Gk.enc,NL.enc,hb,hbl,ZSS,cond_true])
  (e:=.exit 0) (fr:=[(0,ldI s),(3,.iptr false [I p.X,I p.Y]),(5,.mp 0),(13,.isl false false 6<|s.Fa.map Gk.enc),(14,I s.Fa.length),(15,I s.Fa.length)]) (h:=[.map ((Zoy s p).map I)<|ZO (Zoy s p).length]) (by
   rw[List.take_length];show Zb rE _ _ [.map ((Zoy s p).map I)<|ZO (Zoy s p).length]=_
   simp only[go_sem,c134L0b,ZG,hb,hbl]) (by simp)
 exact L
def Zqp(b:Nat)(h:Hp):fnV rE 253 [.mp b] h=some (.clo (.func 338) [] [.ptr h.length 0 0 1],h++[.row 1 [.mp b]]):=by
 rw[Q6 (f:=253) rfl rfl];simp only[go_sem,c253]
def Zqq(K:List Int)(vs:List AV)(hK:∀z∈K,0<=z/\z<=63)(hl:K.length<=1000000):fnV rE 252 [.clo (.func 338) [] [.ptr 1 0 0 1]] [.map (K.map I) vs,.row 1 [.mp 0]] =
 some (.sl 2 K.length 0 K.length false,[.map (K.map I) vs,.row 1 [.mp 0],.row 1<|(Zox K).map I]):=by
 have hi:(K.map I).all Zp2=true:=by
  rw[List.all_map,ZSe];intro z hz;obtain⟨h1,h2⟩:=hK z hz;show(decide (-9223372036854775808<=z)&&decide (z<=9223372036854775807))=true
  rw[decide_eq_true (by omega),decide_eq_true<|by omega]
  rfl
 have hb:Nat.ble K.length 1000000=true:=ZT2 hl;have hs:Yk (K.map I)=(Zox K).map I:=Zpl K;rw[V8 (s:=ZoZ 338) rfl];unfold ZoZ;simp only[ZST,ZSs,hi,hb,ZSu,hs,ZSf];rfl
def ZpO(s:Sta)(h:ClS s)(p:Pt):pfn rE 134 [ldI s,.agg [I p.X,I p.Y]]=some (.isl false false 1<|(ZoH s p).map I):=by
 have L:=Zqo s h p;have hR:∀z∈Zoy s p,0<=z/\z<=63:=ZpN h p s.Fa [] (λx hx=>hx)<|λz hz=>by cases hz
 have hlen:(Zoy s p).length<=1000000:=by
  have G:∀(l:List Gk)(K:List Int),(l.foldl (ZoF s p) K).length<=K.length+l.length:=by
   intro l;induction l with
   |nil=>intro K;exact ZS6 _
   |cons x r ih=>
    intro K;rw[ZTj,ZSl];refine ZSC (ih _) ?_;have:(ZoF s p K x).length<=K.length+1:=by
     unfold ZoF Qi;cases ZoG x&&decide (ZoY x.Ring.l p>=0)with
     |false=>exact ZTl _
     |true=>
      rw[cond_true];cases K.any (Vm<|Zoq s x.bh)with
      |true=>exact ZTl _
      |false=>rw[cond_false,ZSM];exact ZS6 _
    omega
  have:=G s.Fa [];have hl:=h.E.sizes.regions;unfold Zoy;simp only[ZT8]at this;omega
 have hk:=Zqp 0 [.map ((Zoy s p).map I)<|ZO (Zoy s p).length];have hs:=Zqq (Zoy s p) (ZO (Zoy s p).length) hR hlen;have hsl:(Zox<|Zoy s p).length=(Zoy s p).length:=(Zp3 _).length_eq;have hc:Z4 ((Zox<|Zoy s p).map I)=true:=Zw (λt=>rfl) _
 have htk:List.take (Zoy s p).length ((Zox<|Zoy s p).map I)=(Zox<|Zoy s p).map I:=ZSX<|by simp[hsl]
 have hb:∀(K:List Int)n,Zd n (K.map I)=true/\Zd n (ZO K.length)=true:=λK n=>⟨ZN _<|Zw (λt=>rfl) K,ZN _<|Ut _⟩
 have hbl:=Zot s;have hcl:=Zow s;unfold ZoH;rw[Z5 (f:=134) rfl rfl];simp only[ZSl,ZT8,ZSr,ZT1,ZSa]at hk;simp only[go_sem,c134,c134L0,L,hk,hs,hb,hbl,hc,hsl,ZSf,htk,ZTA,beq_self_eq_true]
def Zqr(l:List Str)(hl:l.length<=100000)(id:Str)(bw ex:Bool):pfn rE 248 [.isl bw ex 1<|l.map encS,.str id]=some (.bool<|l.any<|λx=>Z3 id x):=by
 have h:=Nz (f:=333) (enc:=encS) (p:=λx=>Z3 id x) (v:=.str id) rfl rfl l (by omega) (λx _=>rfl) rfl (λx _=>rfl) bw ex
 rw[Z5 (f:=248) rfl rfl,<-Vg];unfold WG;cases bw<;>simp only[go_sem,c248,h]
def ZoM(e:Gt):List Pt:=
 bif !Q9 e then []else
 bif e.br==1||(e.br==2||e.br==5)then e.Path.l.take 1 else
 bif e.br==6||e.br==10 then [e.bg]else
 bif e.br==9 then e.Lst.l.map (·.bg)else []
def Zqs{e:Gt}(h:Q9 e=true)(hk:(e.br==1||(e.br==2||e.br==5))=true):0<e.Path.l.length:=by
 have hn:=ZcV h;have hp:Vh e.Path.l=true\/Ul e.Path.l=true:=by
  rcases(by simpa using hk:e.br=1\/e.br=2\/e.br=5)with k|k|k
  .rw[ZcW k]at hn;have hn':(ZZ e.Id&&(ZD e.A 1 3&&Vh e.Path.l))=true:=hn;simp only[ZS5]at hn';exact Or.inl hn'.2.2
  .rw[ZcW k]at hn;have hn':(ZZ e.Id&&Ul e.Path.l)=true:=hn;simp only[ZS5]at hn';exact Or.inr hn'.2
  .rw[ZcW k]at hn;have hn':(ZZ e.Id&&Vh e.Path.l)=true:=hn;simp only[ZS5]at hn';exact Or.inl hn'.2
 rcases hp with hp|hp
 .unfold Vh at hp;rw[ZS5]at hp;have:=of_decide_eq_true hp.1;omega
 .unfold Ul at hp;simp only[ZS5]at hp;have:=of_decide_eq_true hp.2.1;omega
def Zqt(e:Gt)(hl:e.Lst.l.length<=1000):Zg rE [3,28,29,30] c133L0b [(3,.sl 0 0 0 0 false),(28,.isl false e.Lst.ex 7<|e.Lst.l.map Ent.enc),(29,I e.Lst.l.length),(30,.int .i64 0)] [.row 2 []] =
 some (.exit 1,[(3,.sl 0 e.Lst.l.length 0 e.Lst.l.length false),(28,.isl false e.Lst.ex 7<|e.Lst.l.map Ent.enc),(29,I e.Lst.l.length),(30,I e.Lst.l.length)],[.row 2 ((e.Lst.l.map (·.bg)).map Pt.enc)]):=by
 have hbP:∀(D:List Pt)n,Zd n (D.map Pt.enc)=true:=λD n=>ZN _<|Zw (λt=>rfl) D
 have L:=Y8 (E:=rE) (live:=[3,28,29,30]) (b:=c133L0b) e.Lst.l.length (λi=>[(3,.sl 0 i 0 i false),(28,.isl false e.Lst.ex 7<|e.Lst.l.map Ent.enc),(29,I e.Lst.l.length),(30,I i)])
  (λi=>[.row 2 (((e.Lst.l.take i).map (·.bg)).map Pt.enc)]) (λi=>rfl)
  (λi hi=>by
   obtain⟨x,hx⟩:∃x,e.Lst.l[i]?=some x:=⟨_,ZSb hi⟩;have hlen:(e.Lst.l.take i).length=i:=by rw[ZTd];omega
   have hg:=Z6 (f:=Ent.enc) hx;have hi':=Zh hi;have hwr:=Zx (n:=i)<|by omega
   have htk:(e.Lst.l.take<|i+1).map (·.bg)=(e.Lst.l.take i).map (·.bg)++[x.bg]:=by
    rw[List.take_add_one,hx,ZTs];rfl
   have ha:=λ(q:AObj)=>XC (h:=[.row 2 (((e.Lst.l.take i).map (·.bg)).map Pt.enc),q]) (fz:=false) (b:=0) (g:=i) (sz:=2) (bytes:=16) (es:=((e.Lst.l.take i).map (·.bg)).map Pt.enc) (bw:=false) (ex:=false) (ys:=[.agg [I x.bg.X,I x.bg.Y]]) (by show(bif (((e.Lst.l.take i).map (·.bg)).map Pt.enc).length==i then _ else none)=_;rw[ZSf,ZSf,hlen,beq_self_eq_true];rfl) rfl rfl (by decide) (by decide) (by simp;omega)
   have hma:((e.Lst.l.take i).map (·.bg)++[x.bg]).map Pt.enc=((e.Lst.l.take i).map (·.bg)).map Pt.enc++[.agg [I x.bg.X,I x.bg.Y]]:=by rw[ZTs];rfl
   rw[htk,hma];have hb2:∀n,Zd n (((e.Lst.l.take i).map (·.bg)).map Pt.enc++[.agg [I x.bg.X,I x.bg.Y]])=true:=λn=>by rw[<-hma];exact hbP _ n
   generalize((e.Lst.l.take i).map (·.bg)).map Pt.enc=es at*;refine⟨[(3,.sl 0 (i+1) 0 (i+1) false),(28,.isl false e.Lst.ex 7<|e.Lst.l.map Ent.enc),(29,I e.Lst.l.length),(30,I (i+1:Nat))],?_,rfl⟩;simp only[go_sem,c133L0b,hg,hi',hwr,ha,hb2,Ent.enc])
  (e:=.exit 1) (fr:=[(3,.sl 0 e.Lst.l.length 0 e.Lst.l.length false),(28,.isl false e.Lst.ex 7<|e.Lst.l.map Ent.enc),(29,I e.Lst.l.length),(30,I e.Lst.l.length)]) (h:=[.row 2 ((e.Lst.l.map (·.bg)).map Pt.enc)]) (by
   rw[List.take_length];simp only[go_sem,c133L0b,ZG,hbP]) (by simp)
 exact L
def Zqu(l:List Pt)(ex:Bool)(h0:0<l.length)(hl:l.length<=1000000):pfn rE 250 [.isl false ex 2<|l.map Pt.enc]=some (.isl false false 2<|l.map Pt.enc):=by
 have hfit:(l.map Pt.enc).all (fits 2)=true:=by
  rw[List.all_map,ZSe];intro x _;rfl
 have hne:(l.map Pt.enc).isEmpty=false:=by
  cases l with
  |nil=>exact absurd h0<|Nat.not_lt_zero _
  |cons x r=>rfl
 have hble:Nat.ble l.length 1000000=true:=ZT2 hl;have hc:Z4 (l.map Pt.enc)=true:=Zw (λt=>rfl) _
 have htk:List.take l.length (l.map Pt.enc)=l.map Pt.enc:=ZSX<|by simp
 have h1:fnV rE 250 [.isl false ex 2<|l.map Pt.enc] []=some (.sl 0 l.length 0 l.length false,[.row 2<|l.map Pt.enc]):=by
  rw[V8 (s:=ZO8 2) rfl];simp only[ZO8,Q2,Qq,hfit,hne,ZSf,hble,beq_self_eq_true,Bool.true_or,ZSu,ZSw,cond_true,ZT1,ZT8]
 unfold pfn;rw[h1,ZM];simp only[go_sem,hc,htk,ZSf,ZTA,beq_self_eq_true]
def Zqv(e:Gt)(he:EvS e):pfn rE 133 [evA e]=some (.isl false false 2<|(ZoM e).map Pt.enc):=by
 have hF:=NH e he;have hL:=Zqt e (by have:=he.lst;omega)
 have hcP:∀D:List Pt,Z4 (D.map Pt.enc)=true:=λD=>Zw (λt=>rfl) _
 have htk:List.take e.Lst.l.length ((e.Lst.l.map (·.bg)).map Pt.enc)=(e.Lst.l.map (·.bg)).map Pt.enc:=ZSX<|by simp
 have hpos:=Zqs (e:=e);rw[Z5 (f:=133) rfl rfl];unfold ZoM;simp only[evA]at hF;cases c0:Q9 e with
 |false=>
  rw[c0]at hF;simp only[go_sem,c133,hF,ZSw,cond_true,ZSA]
 |true=>
 rw[c0]at hF;have hcl:(e.br==1||(e.br==2||e.br==5))=true->∀x,pfn rE 250 [.isl false x 2<|(e.Path.l.take 1).map Pt.enc]=some (.isl false false 2<|(e.Path.l.take 1).map Pt.enc):=λhk x=>Zqu _ _ (by have:=hpos c0 hk;rw[ZTd];omega)<|by rw[ZTd];omega
 have hp1:(e.br==1||(e.br==2||e.br==5))=true->bounds none (some<|I 1) none e.Path.l.length=some (0,1,none):=λhk=>by
  have h1:=hpos c0 hk;have h2:Nat.ble 1 e.Path.l.length=true:=ZT2 h1;simp[bounds,Vz,Wl,VA,numOf,VB,h2];rfl
 have hm:List.take 1 (e.Path.l.map Pt.enc)=(e.Path.l.take 1).map Pt.enc:=List.map_take.symm;cases k1:e.br==1 with
 |true=>
  rw[k1]at hcl hp1;have hcl:=hcl rfl;have hp1:=hp1 rfl;simp only[go_sem,c133,c133L0,hF,k1,hp1,hm,hcl,ZSF,cond_false,cond_true,Bool.true_or,if_true]
 |false=>
 cases k2:e.br==2 with
 |true=>
  rw[k1,k2]at hcl hp1;have hcl:=hcl rfl;have hp1:=hp1 rfl;simp only[go_sem,c133,c133L0,hF,k1,k2,hp1,hm,hcl,ZSF,cond_false,cond_true,Bool.true_or,ZTF,if_true]
 |false=>
 cases k5:e.br==5 with
 |true=>
  rw[k1,k2,k5]at hcl hp1;have hcl:=hcl rfl;have hp1:=hp1 rfl;simp only[go_sem,c133,c133L0,hF,k1,k2,k5,hp1,hm,hcl,ZSF,cond_false,cond_true,ZTF,if_true]
 |false=>
 cases k6:e.br==6 with
 |true=>simp only[go_sem,c133,c133L0,hF,k1,k2,k5,k6,ZSF,cond_false,cond_true,Bool.true_or,Bool.false_or,ZS9,ZSA,Pt.enc]
 |false=>
 cases k10:e.br==10 with
 |true=>simp only[go_sem,c133,c133L0,hF,k1,k2,k5,k6,k10,ZSF,cond_false,cond_true,ZTF,Bool.false_or,ZS9,ZSA,Pt.enc]
 |false=>
 cases k9:e.br==9 with
 |true=>simp only[go_sem,c133,c133L0,hF,hL,k1,k2,k5,k6,k10,k9,ZSF,cond_false,cond_true,Bool.false_or,hcP,htk,ZSf,ZTA,beq_self_eq_true]
 |false=>simp only[go_sem,c133,c133L0,hF,k1,k2,k5,k6,k10,k9,ZSF,cond_false,cond_true,Bool.false_or,ZSA]
abbrev rqL(s:Sta)(e:Gt)(a m:Int):List AV:=[ldI s,I e.br,I e.Day,I e.A,I e.B,I e.bz,.str e.Id,.str e.bv,.str e.Text,.isl false e.Ids.ex 1<|e.Ids.l.map encS,.isl false e.bm.ex 3<|e.bm.l.map Nm.enc,
 I e.An.N,.str e.An.bn,I e.An.Num,I e.An.Den,I e.bg.X,I e.bg.Y,.isl false e.Path.ex 2<|e.Path.l.map Pt.enc,.isl false e.Lst.ex 7<|e.Lst.l.map Ent.enc,I a,I m]
abbrev rqI(s:Sta)(e:Gt)(a m:Int):AV:=.iptr false<|rqL s e a m
structure RqS(s:Sta)(e:Gt)(m:Int):Prop where
 c:ClS s
 ev:EvS e
 f:Q9 e=true
 m:0<=m/\m<=63
def Zp0(s:Sta)(e:Gt)(a m:Int):Int:=bif (e.br==14&&a != 0)||(e.br==13&&Zoq s e.B != m)then 18 else 0
def Zqw(s:Sta)(e:Gt)(a m:Int)(h:RqS s e m):pfn rE 73 [rqI s e a m]=some (I<|Zp0 s e a m):=by
 have hM:(e.br==13)=true->pfn rE 72 [ldI s,I e.B]=some (I<|Zoq s e.B):=λhk=>by
  have hn:=ZcV h.f;rw[ZcW (k:=13)<|by simpa using hk]at hn
  have hn':K5 e.A e.B=true:=hn;unfold K5 ZD at hn';simp only[ZS5,decide_eq_true_eq]at hn';exact h.c.mst<|by omega
 have hcl:=Zow s;have hbl:=Zot s;rw[Z5 (f:=73) rfl rfl];unfold Zp0;cases c1:e.br==14 with
 |true=>
  have c5003:(e.br==13)=false:=by
   rw[(by simpa using c1:e.br=14)]
   rfl
  cases c2:a != 0 with
  |true=>simp only[go_sem,c73,c1,c2,c5003,ZSS,Bool.true_or,cond_true]
  |false=>simp only[go_sem,c73,c1,c2,c5003,ZSS,Bool.false_and,Bool.false_or,cond_false]
 |false=>
  cases c5003:e.br==13 with
  |false=>simp only[go_sem,c73,c1,c5003,Bool.false_and,Bool.false_or,cond_false]
  |true=>
   have hM:=hM c5003;cases c5004:Zoq s e.B != m<;>simp only[go_sem,c73,c1,c5003,c5004,hM,hcl,ZSS,Bool.false_and,Bool.false_or,cond_true,cond_false]
def Zp5(s:Sta)(e:Gt)(m:Int):Int:=bif e.br==15&&!s.Fa.any (λx=>ZoG x&&Zoq s x.bh==m)then 18 else 0
def Zqx(s:Sta)(e:Gt)(a m:Int)(h:RqS s e m)(x:Gk)(hx:x∈s.Fa):pfn rE 129 [x.enc,.iptr false [rqI s e a m]]=some (.bool<|ZoG x&&Zoq s x.bh==m):=by
 have hT:=ZpM x;have hM:=h.c.mst (h.c.reg hx).1;have hcl:=Zow s;have hbl:=Zot s;simp only[Gk.enc,NL.enc]at hT;rw[Z5 (f:=129) rfl rfl];cases c:ZoG x with
 |false=>
  rw[c]at hT;simp only[go_sem,c129,Gk.enc,NL.enc,hT,Bool.false_and]
 |true=>
  rw[c]at hT;simp only[go_sem,c129,Gk.enc,NL.enc,hT,hM,ZSS]
def ZpP(l:List Gk)(hl:l.length<=1000000)(p:Gk->Bool)(g:Nat)(cap:List AV)(hc:Z4 cap=true)(hp:∀x∈l,pfn rE g (x.enc::cap)=some (.bool<|p x)):pfn rE 131 [.isl false false 6<|l.map Gk.enc,.clo (.func g) [] cap]=some (.bool<|l.any p):=by
 have h:=WF (E:=rE) (f:=249) (sz:=6) (n:=some 6) (enc:=Gk.enc) (p:=p) (g:=g) (cap:=cap) rfl rfl hc l (by omega) (λx _=>x.el) hp false false
 rw[Z5 (f:=131) rfl rfl,<-Vg];unfold WG;simp only[go_sem,c131,h,hc]
def Zqy(s:Sta)(e:Gt)(a m:Int)(h:RqS s e m):pfn rE 75 [rqI s e a m]=some (I<|Zp5 s e m):=by
 have hcl:=Zow s;have hbl:=Zot s;have hc:Z4 [.iptr false [rqI s e a m]]=true:=by simp only[go_sem]
 have hA:=ZpP s.Fa (by have:=h.c.E.sizes.regions;omega) (λx=>ZoG x&&Zoq s x.bh==m) 129 [.iptr false [rqI s e a m]] hc<|Zqx s e a m h
 rw[Z5 (f:=75) rfl rfl];unfold Zp5;cases c1:e.br==15 with
 |false=>simp only[go_sem,c75,c1,Bool.false_and,cond_false]
 |true=>
  generalize s.Fa.any (λx=>ZoG x&&Zoq s x.bh==m)=b at*
  cases b<;>simp only[go_sem,c75,c1,hA,ZSS,ZSF,ZSw,cond_true,cond_false]
def plE(s:Sta)(m:Int):List Pt->Int
 |[]=>0
 |p::r=>bif !(ZoH s p).any (λx=>m==x)then 18 else bif (ZoH s p).any (λc=>c != m&&!ZoW s m c)then 19 else plE s m r
def Zp1(s:Sta)(e:Gt)(a m:Int):Int:=
 bif e.br==1 then bif s.Fa.any (λx=>Z3 x.Id e.Id)then 0 else bif e.A==1&&a==0 then 18 else bif e.A==1 then 0 else plE s m<|ZoM e
 else plE s m<|ZoM e
def ZpQ{s:Sta}(h:ClS s):∀p∈s.ba,pfn rE 72 [ldI s,I p.a]=some (I<|Zoq s p.a)/\pfn rE 72 [ldI s,I p.b]=some (I<|Zoq s p.b):=by
 intro p hp;have hpa:=h.prop.pa;unfold WK at hpa;simp only[ZS5]at hpa;have:=Zpo<|ZSe.1 hpa.2.1 p hp;exact⟨h.mst this.1.1,h.mst this.2.1⟩
def Zqz(l:List Int)(hl:l.length<=1000000)(p:Int->Bool)(g:Nat)(cap:List AV)(hc:Z4 cap=true)(hp:∀x∈l,pfn rE g (I x::cap)=some (.bool<|p x)):pfn rE 136 [.isl false false 1<|l.map I,.clo (.func g) [] cap]=some (.bool<|l.any p):=by
 have h:=WF (E:=rE) (f:=255) (sz:=1) (n:=none) (enc:=I) (p:=p) (g:=g) (cap:=cap) rfl rfl hc l (by omega) (λx _=>⟨rfl,rfl⟩) hp false false
 rw[Z5 (f:=136) rfl rfl,<-Vg];unfold WG;simp only[go_sem,c136,h,hc]
def ZqA(s:Sta)(e:Gt)(a m:Int)(x:Gk):pfn rE 132 [x.enc,.iptr false [rqI s e a m]]=some (.bool<|Z3 x.Id e.Id):=by
 have hcl:=Zow s;have hbl:=Zot s;rw[Z5 (f:=132) rfl rfl];simp only[go_sem,c132,Gk.enc,NL.enc]
def ZqB(s:Sta)(e:Gt)(a m:Int)(h:RqS s e m)(c:Int):pfn rE 137 [I c,.iptr false [rqI s e a m]]=some (.bool<|c != m&&!ZoW s m c):=by
 have hP:=ZpL s m c h.c.E.sizes.rulings<|ZpQ h.c;have hcl:=Zow s;have hbl:=Zot s;rw[Z5 (f:=137) rfl rfl];cases c1:c != m with
 |false=>simp only[go_sem,c137,c1,Bool.false_and]
 |true=>simp only[go_sem,c137,c1,hP,hcl,ZSS]
def ZqC(s:Sta)(h:ClS s)(p:Pt):(ZoH s p).length<=100000:=by
 unfold ZoH;rw[(Zp3 _).length_eq];have G:∀(l:List Gk)(K:List Int),(l.foldl (ZoF s p) K).length<=K.length+l.length:=by
  intro l;induction l with
  |nil=>intro K;exact ZS6 _
  |cons x r ih=>
   intro K;rw[ZTj,ZSl];refine ZSC (ih _) ?_;have:(ZoF s p K x).length<=K.length+1:=by
    unfold ZoF Qi;cases ZoG x&&decide (ZoY x.Ring.l p>=0)with
    |false=>exact ZTl _
    |true=>
     rw[cond_true];cases K.any (Vm<|Zoq s x.bh)with
     |true=>exact ZTl _
     |false=>rw[cond_false,ZSM];exact ZS6 _
   omega
 have:=G s.Fa [];have hl:=h.E.sizes.regions;unfold Zoy;simp only[ZT8]at this;omega
def ZpR(s:Sta)(e:Gt)(a m:Int)(h:RqS s e m)(l:List Pt)(hl:l.length<=1000):∀(k i:Nat),i+k=l.length->
 ∃fr',(plE s m (l.drop i)=0->Zg rE [1,50,51,52] c76L0b [(1,.iptr false [rqI s e a m]),(50,.isl false false 2<|l.map Pt.enc),(51,I l.length),(52,I i)] []=some (.exit 1,fr',[]))/\
  (plE s m (l.drop i)≠0->Zg rE [1,50,51,52] c76L0b [(1,.iptr false [rqI s e a m]),(50,.isl false false 2<|l.map Pt.enc),(51,I l.length),(52,I i)] []=some (.ret,fr',[])/\get fr' 2=I (plE s m<|l.drop i))
 |0,i,hi=>by
  have hd:l.drop i=[]:=List.drop_eq_nil_of_le<|by omega
  have hi':i=l.length:=by omega
  refine⟨[(1,.iptr false [rqI s e a m]),(2,.bot),(50,.isl false false 2<|l.map Pt.enc),(51,I l.length),(52,I i)],λ_=>?_,λhc=>?_⟩
  .rw[hi'];refine Q7 rfl ?_ (by simp)
   simp only[go_sem,c76L0b,ZG]
  .rw[hd]at hc;exact absurd rfl hc
 |k+1,i,hi=>by
  obtain⟨x,hx⟩:∃x,l[i]?=some x:=⟨_,ZSb<|by omega⟩
  have hg:=Z6 (f:=Pt.enc) hx;have hi':=Zh<|Z7 hx;have hwr:=Zx (n:=i)<|by omega
  have hd:l.drop i=x::l.drop (i+1):=by
   rw[ZTu<|Z7 hx];congr 1;have:=ZSb<|Z7 hx;rw[hx]at this;exact(Option.some.inj this).symm
  have hcl:=Zow s;have hbl:=Zot s;have hc:Z4 [.iptr false [rqI s e a m]]=true:=by simp only[go_sem]
  have hC:=ZpO s h.c x;have hlen:=ZqC s h.c x;have hI:=DR (ZoH s x) false m<|by omega
  have hA:=Zqz (ZoH s x) (by omega) (λc=>c != m&&!ZoW s m c) 137 [.iptr false [rqI s e a m]] hc<|λc _=>ZqB s e a m h c
  rw[hd];unfold plE;cases c1:(ZoH s x).any (λy=>m==y)with
  |false=>
   rw[c1]at hI;refine⟨[(1,.iptr false [rqI s e a m]),(2,I 18),(50,.isl false false 2<|l.map Pt.enc),(51,I l.length),(52,I i)],λhq=>?_,λ_=>⟨?_,by simp only[go_sem,ZSw,cond_true]⟩⟩
   .exact absurd (show(18:Int)=0 from hq)<|by decide
   .refine Q7 rfl ?_ (by simp)
    simp only[go_sem,c76L0b,hg,hi',Pt.enc,hC,hI]
  |true=>
  rw[c1]at hI;cases c2:(ZoH s x).any (λc=>c != m&&!ZoW s m c)with
  |true=>
   rw[c2]at hA;refine⟨[(1,.iptr false [rqI s e a m]),(2,I 19),(50,.isl false false 2<|l.map Pt.enc),(51,I l.length),(52,I i)],λhq=>?_,λ_=>⟨?_,by simp only[go_sem,ZSF,cond_false,cond_true]⟩⟩
   .exact absurd (show(19:Int)=0 from hq)<|by decide
   .refine Q7 rfl ?_ (by simp)
    simp only[go_sem,c76L0b,hg,hi',Pt.enc,hC,hI,hA]
  |false=>
  rw[c2]at hA;obtain⟨fr',h1,h2⟩:=ZpR s e a m h l hl k (i+1)<|by omega
  have hstep:Zb rE c76L0b [(1,.iptr false [rqI s e a m]),(50,.isl false false 2<|l.map Pt.enc),(51,I l.length),(52,I i)] []=some (.normal,[(1,.iptr false [rqI s e a m]),(2,.bot),(50,.isl false false 2<|l.map Pt.enc),(51,I l.length),(52,I (i+1:Nat))],[]):=by
   simp only[go_sem,c76L0b,hg,hi',hwr,Pt.enc,hC,hI,hA]
  rw[Yt rfl hstep];exact⟨fr',h1,h2⟩
def ZqD(s:Sta)(e:Gt)(a m:Int)(h:RqS s e m):pfn rE 76 [rqI s e a m]=some (I<|Zp1 s e a m):=by
 have hcl:=Zow s;have hbl:=Zot s;have hc:Z4 [.iptr false [rqI s e a m]]=true:=by simp only[go_sem]
 have hA:=ZpP s.Fa (by have:=h.c.E.sizes.regions;omega) (λx=>Z3 x.Id e.Id) 132 [.iptr false [rqI s e a m]] hc<|λx _=>ZqA s e a m x
 have hP:=Zqv e h.ev;have hlen:(ZoM e).length<=1000:=by
  unfold ZoM;have h1:=h.ev.lst;cases Q9 e with
  |false=>exact Nat.zero_le _
  |true=>
  cases e.br==1||(e.br==2||e.br==5)with
  |true=>show(e.Path.l.take 1).length<=1000;rw[ZTd];omega
  |false=>
  cases e.br==6||e.br==10 with
  |true=>show 1<=1000;omega
  |false=>
  cases e.br==9 with
  |true=>show(e.Lst.l.map (·.bg)).length<=1000;rw[ZSf];omega
  |false=>exact Nat.zero_le _
 have L:=ZpR s e a m h (ZoM e) hlen (ZoM e).length 0<|by omega
 rw[ZTA]at L;obtain⟨fr',l1,l2⟩:=L;simp only[evA]at hP;rw[Z5 (f:=76) rfl rfl];unfold Zp1;have z0:((0:Nat):Int)=0:=rfl;rw[z0]at l1 l2;by_cases hz:plE s m (ZoM e)=0
 .have l1:=l1 hz;rw[hz];cases k1:e.br==1 with
  |false=>simp only[go_sem,c76,c76L0,k1,hP,l1,cond_false,ZSf]
  |true=>
   cases k2:s.Fa.any (λx=>Z3 x.Id e.Id)with
   |true=>
    rw[k2]at hA;simp only[go_sem,c76,c76L0,k1,hA,cond_true]
   |false=>
   rw[k2]at hA;cases k3:e.A==1 with
   |false=>simp only[go_sem,c76,c76L0,k1,k3,hA,hP,l1,cond_true,cond_false,Bool.false_and,ZSf]
   |true=>cases k4:a==0<;>simp only[go_sem,c76,c76L0,k1,k3,k4,hA,cond_true,cond_false,ZSS]
 .obtain⟨l2,l3⟩:=l2 hz;cases k1:e.br==1 with
  |false=>simp only[go_sem,c76,c76L0,k1,hP,l2,l3,cond_false,ZSf]
  |true=>
   cases k2:s.Fa.any (λx=>Z3 x.Id e.Id)with
   |true=>
    rw[k2]at hA;simp only[go_sem,c76,c76L0,k1,hA,cond_true]
   |false=>
   rw[k2]at hA;cases k3:e.A==1 with
   |false=>simp only[go_sem,c76,c76L0,k1,k3,hA,hP,l2,l3,cond_true,cond_false,Bool.false_and,ZSf]
   |true=>cases k4:a==0<;>simp only[go_sem,c76,c76L0,k1,k3,k4,hA,cond_true,cond_false,ZSS]
def ZU(s:Str):Bool:=!decide ((s.size:Int)>100)
def Vv(bw ex:Bool)(l:List Str)(hl:l.length<9223372036854775807):pfn rE 119 [.isl bw ex 1<|l.map encS]=some (.bool<|l.all ZU):=by
 have L:=Uf (E:=rE) (live:=[0,3]) (b:=c119L0b) (h:=[]) l (λ_ x=>ZU x) (λi=>[(0,.isl bw ex 1<|l.map encS),(3,I i)]) 0 (λfr=>get fr 2=.bool false) (λi=>rfl)
  (λi x hx hP=>by
   have hg:=Z6 (f:=encS) hx;have hi:=Zh<|Z7 hx;have hw:=Zx (n:=i) (by have:=Z7 hx;omega)
   have hP':decide ((x.size:Int)>100)=false:=by simpa[ZU]using hP
   refine⟨_,by simp only[go_sem,c119L0b,hg,hi,hw,hP',encS];rfl,?_⟩
   simp only[go_sem])
  (λi x hx hP=>by
   have hg:=Z6 (f:=encS) hx;have hi:=Zh<|Z7 hx;have hP':decide ((x.size:Int)>100)=true:=by simpa[ZU]using hP
   refine⟨_,by simp only[go_sem,c119L0b,hg,hi,hP',encS];rfl,?_⟩
   simp only[go_sem])
  (⟨_,by simp only[go_sem,c119L0b,ZG];rfl⟩)
 rw[Z5 (f:=119) rfl rfl];rw[QE]at L;obtain⟨fr',h1,h2⟩:=L;have h1':Zg rE [0,3] c119L0b [(0,.isl bw ex 1<|l.map encS),(3,.int .i64 0)] []=_:=h1;cases hc:l.all ZU with
 |true=>rw[hc]at h1';simp only[go_sem,c119,c119L0,h1']
 |false=>
  rw[hc]at h1';have h2':=h2 hc;simp only[go_sem,c119,c119L0,h1',h2',ZSo]
def HG(a b:Str):pfn rE 119 [.isl false false 1 [.str a,.str b]]=some (.bool<|[a,b].all ZU):=Vv false false [a,b]<|by simp
def Z4y(a b c d:Str):pfn rE 119 [.isl false false 1 [.str a,.str b,.str c,.str d]]=some (.bool<|[a,b,c,d].all ZU):=Vv false false [a,b,c,d]<|by simp
def HH{α:Type}{l:List α}{n i:Nat}{x:α}(h:(l.take n)[i]?=some x):l[i]?=some x/\i<n:=by
 have hi:=Z7 h;rw[ZTd]at hi;rw[ZTg<|by omega]at h
 exact⟨h,by omega⟩
def FR{α:Type}(l:List α):(decide ((((l.take 10).length:Nat):Int)<(l.length:Int))=true->decide ((((l.take 10).length:Nat):Int)<10)=false):=by
 intro h;have:=of_decide_eq_true h;rw[ZTd]at*;exact decide_eq_false<|by omega
def M1(x:Nm):Bool:=[x.Lang,x.Text].all ZU
def XQ(l:List Nm):Bool:=(l.take 10).all M1&&decide ((l.length:Int)<=10)
def UQ(ex:Bool)(l:List Nm):pfn rE 120 [.isl false ex 3<|l.map Nm.enc]=some (.bool<|XQ l):=by
 have L:=QT (E:=rE) (live:=[0,3]) (b:=c120L0b) (h:=[]) (l.take 10) (λ_ x=>M1 x) (λi=>[(0,.isl false ex 3<|l.map Nm.enc),(3,I i)]) 0 (λfr=>get fr 0=.isl false ex 3 (l.map Nm.enc)/\get fr 2=.bot) (λfr=>get fr 2=.bool false) (λi=>rfl)
  (λi x hx hP=>by
   obtain⟨hx',hi10⟩:=HH hx;have hg:=Z6 (f:=Nm.enc) hx';have hi:=Zh<|Z7 hx';have hw:=Zx (n:=i)<|by omega
   have h10:decide ((i:Int)<10)=true:=decide_eq_true<|by omega
   have hS:=HG x.Lang x.Text;have hP':[x.Lang,x.Text].all ZU=true:=hP;rw[hP']at hS;refine⟨_,by simp only[go_sem,c120L0b,hg,hi,hw,h10,Nm.enc,hS];rfl,?_⟩
   simp only[go_sem])
  (λi x hx hP=>by
   obtain⟨hx',hi10⟩:=HH hx;have hg:=Z6 (f:=Nm.enc) hx';have hi:=Zh<|Z7 hx';have h10:decide ((i:Int)<10)=true:=decide_eq_true<|by omega
   have hS:=HG x.Lang x.Text;have hP':[x.Lang,x.Text].all ZU=false:=hP;rw[hP']at hS;refine⟨_,by simp only[go_sem,c120L0b,hg,hi,h10,Nm.enc,hS];rfl,?_⟩
   simp only[go_sem])
  (by
   cases c:decide ((((l.take 10).length:Nat):Int)<(l.length:Int))with
   |true=>
    have h10:=FR l c;exact⟨_,by simp only[go_sem,c120L0b,c,h10];rfl,by simp only[go_sem],by simp only[go_sem]⟩
   |false=>exact⟨_,by simp only[go_sem,c120L0b,c];rfl,by simp only[go_sem],by simp only[go_sem]⟩)
 rw[Z5 (f:=120) rfl rfl];rw[QE]at L;obtain⟨fr',h1,h3,h2⟩:=L;have h1':Zg rE [0,3] c120L0b [(0,.isl false ex 3<|l.map Nm.enc),(3,.int .i64 0)] []=_:=h1;unfold XQ;cases hc:(l.take 10).all M1 with
 |true=>
  rw[hc]at h1';obtain⟨q0,q2⟩:=h3 hc;simp only[go_sem,c120,c120L0,h1',q0,q2]
 |false=>
  rw[hc]at h1';have h2':=h2 hc;simp only[go_sem,c120,c120L0,h1',h2',ZSo]
def M2(x:Ent):Bool:=[x.Id,x.An.bn].all ZU
def FT(l:List Ent):Bool:=(l.take 10).all M2
abbrev evI(e:Gt):AV:=.iptr false [I e.br,I e.Day,I e.A,I e.B,I e.bz,.str e.Id,.str e.bv,.str e.Text,.isl false e.Ids.ex 1<|e.Ids.l.map encS,.isl false e.bm.ex 3<|e.bm.l.map Nm.enc,
 I e.An.N,.str e.An.bn,I e.An.Num,I e.An.Den,I e.bg.X,I e.bg.Y,.isl false e.Path.ex 2<|e.Path.l.map Pt.enc,.isl false e.Lst.ex 7<|e.Lst.l.map Ent.enc]
def Xn(e:Gt):Bool:=
 FT e.Lst.l&&([e.Id,e.bv,e.Text,e.An.bn].all ZU&&(decide ((e.Ids.l.length:Int)<=10)&&(e.Ids.l.all ZU&&(XQ e.bm.l&&(decide ((e.Path.l.length:Int)<=12)&&decide ((e.Lst.l.length:Int)<=10))))))
def Z4z(e:Gt):pfn rE 63 [evA e]=some (.bool<|Xn e):=by
 have L:=QT (E:=rE) (live:=[1,3]) (b:=c63L0b) (h:=[]) (e.Lst.l.take 10) (λ_ x=>M2 x) (λi=>[(1,evI e),(3,I i)]) 0 (λfr=>get fr 1=evI e/\get fr 2=.bot) (λfr=>get fr 2=.bool false) (λi=>rfl)
  (λi x hx hP=>by
   obtain⟨hx',hi10⟩:=HH hx;have hg:=Z6 (f:=Ent.enc) hx';have hi:=Zh<|Z7 hx';have hw:=Zx (n:=i)<|by omega
   have h10:decide ((i:Int)<10)=true:=decide_eq_true<|by omega
   have hS:=HG x.Id x.An.bn;have hP':[x.Id,x.An.bn].all ZU=true:=hP;rw[hP']at hS;refine⟨_,by simp only[go_sem,c63L0b,hg,hi,hw,h10,Ent.enc,hS];rfl,?_⟩
   simp only[go_sem])
  (λi x hx hP=>by
   obtain⟨hx',hi10⟩:=HH hx;have hg:=Z6 (f:=Ent.enc) hx';have hi:=Zh<|Z7 hx';have h10:decide ((i:Int)<10)=true:=decide_eq_true<|by omega
   have hS:=HG x.Id x.An.bn;have hP':[x.Id,x.An.bn].all ZU=false:=hP;rw[hP']at hS;refine⟨_,by simp only[go_sem,c63L0b,hg,hi,h10,Ent.enc,hS];rfl,?_⟩
   simp only[go_sem])
  (by
   cases c:decide ((((e.Lst.l.take 10).length:Nat):Int)<(e.Lst.l.length:Int))with
   |true=>
    have h10:=FR e.Lst.l c;exact⟨_,by simp only[go_sem,c63L0b,c,h10];rfl,by simp only[go_sem],by simp only[go_sem]⟩
   |false=>exact⟨_,by simp only[go_sem,c63L0b,c];rfl,by simp only[go_sem],by simp only[go_sem]⟩)
 rw[Z5 (f:=63) rfl rfl];rw[QE]at L;obtain⟨fr',h1,h3,h2⟩:=L;have h1':Zg rE [1,3] c63L0b [(1,evI e),(3,.int .i64 0)] []=_:=h1;have hS:=Z4y e.Id e.bv e.Text e.An.bn;have hN:=UQ e.bm.ex e.bm.l;unfold Xn FT;cases hc:(e.Lst.l.take 10).all M2 with
 |false=>
  rw[hc]at h1';have h2':=h2 hc;simp only[evI]at h1';simp only[go_sem,c63,c63L0,h1',h2',ZSo]
 |true=>
  rw[hc]at h1';obtain⟨q1,q2⟩:=h3 hc;simp only[evI]at h1' q1;cases c1:[e.Id,e.bv,e.Text,e.An.bn].all ZU with
  |false=>rw[c1]at hS;simp only[go_sem,c63,c63L0,h1',q1,q2,hS]
  |true=>
  rw[c1]at hS;cases c2:decide ((e.Ids.l.length:Int)<=10)with
  |false=>simp only[go_sem,c63,c63L0,h1',q1,q2,hS,c2]
  |true=>
  have hI:=Vv false e.Ids.ex e.Ids.l (by have:=of_decide_eq_true c2;omega)
  cases c5003:e.Ids.l.all ZU with
  |false=>rw[c5003]at hI;simp only[go_sem,c63,c63L0,h1',q1,q2,hS,c2,hI]
  |true=>
  rw[c5003]at hI;cases c5004:XQ e.bm.l with
  |false=>rw[c5004]at hN;simp only[go_sem,c63,c63L0,h1',q1,q2,hS,c2,hI,hN]
  |true=>
  rw[c5004]at hN;cases c5005:decide ((e.Path.l.length:Int)<=12)with
  |false=>simp only[go_sem,c63,c63L0,h1',q1,q2,hS,c2,hI,hN,c5005]
  |true=>simp only[go_sem,c63,c63L0,h1',q1,q2,hS,c2,hI,hN,c5005]
def JL(e:Gt)(h:Xn e=true):EvS e:=by
 simp only[Xn,ZS5]at h;obtain⟨_,h1,h2,h3,h4,h5,h6⟩:=h;have k2:=of_decide_eq_true h2;have k5:=of_decide_eq_true h5;have k6:=of_decide_eq_true h6;have k4:(e.bm.l.length:Int)<=10:=by
  simp only[XQ,ZS5]at h4;exact of_decide_eq_true h4.2
 simp[ZU]at h1;exact⟨by omega,by omega,by omega,by omega,by omega,by omega,by omega⟩
end Go.AM
