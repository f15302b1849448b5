/- What the functions of the program compute, part 4, for WatchMatchesReference. No condition. -/
import Derived.Test.YtbnmnkpkjmoehabGreatDoorP3c
set_option linter.unusedVariables false
set_option linter.defProp false
set_option linter.unusedSimpArgs false
set_option linter.unusedSectionVars false
namespace Go.AM
open Go
variable [REdz]
def wsB(w:Wch):Bool:=!(decide ((w.Id.size:Int)>60)||decide ((w.Gc.size:Int)>60))
def fwB(l:List Wch):Bool:=Zu (λ_ w=>wsB w) 0 (l.take 10)&&decide ((l.length:Int)<=10)
def ZMv(bw ex:Bool)(l:List Wch):pfn rE 18 [.isl bw ex 2<|l.map Wch.enc]=some (.bool<|fwB l):=by
 have hlt:(l.take 10).length<=10:=by rw[ZWT];omega
 have L:=QT (E:=rE) (live:=[0,3]) (b:=c18L0b) (h:=[]) (l.take 10) (λ_ w=>wsB w) (λi=>[(0,.isl bw ex 2<|l.map Wch.enc),(3,I i)]) 0 (λfr=>get fr 0=.isl bw ex 2 (l.map Wch.enc)/\get fr 2=.bot) (λfr=>get fr 2=.bool false) (λi=>rfl)
  (λi x hx hP=>by
   have hx':=HH hx;have hg:=Z6 (f:=Wch.enc) hx'.1;have hi:=Zh<|Z7 hx'.1;have hi2:decide ((i:Int)<10)=true:=decide_eq_true (by have:=hx'.2;omega)
   have hw:=Zx (n:=i) (by have:=hx'.2;omega)
   unfold wsB at hP;rw[ZWG,ZXE]at hP;simp only[Wch.enc]at hg;refine⟨_,by simp only[go_sem,c18L0b,hg,hi,hi2,hw,hP.1,hP.2];rfl,?_⟩
   simp only[go_sem])
  (λi x hx hP=>by
   have hx':=HH hx;have hg:=Z6 (f:=Wch.enc) hx'.1;have hi:=Zh<|Z7 hx'.1;have hi2:decide ((i:Int)<10)=true:=decide_eq_true (by have:=hx'.2;omega)
   unfold wsB at hP;rw[ZXK,ZXt]at hP;simp only[Wch.enc]at hg;cases c:decide ((x.Id.size:Int)>60)with
   |true=>exact⟨_,by simp only[go_sem,c18L0b,hg,hi,hi2,c];rfl,by simp only[go_sem]⟩
   |false=>
    have c2:decide ((x.Gc.size:Int)>60)=true:=by rw[c]at hP;simpa using hP
    exact⟨_,by simp only[go_sem,c18L0b,hg,hi,hi2,c,c2];rfl,by simp only[go_sem]⟩)
  (by
   cases c:decide (l.length<10)with
   |true=>
    have e:(l.take 10).length=l.length:=by rw[ZWT];have:=of_decide_eq_true c;omega
    rw[e];exact⟨_,by simp only[go_sem,c18L0b,ZG];rfl,by simp only[go_sem],by simp only[go_sem]⟩
   |false=>
    have c':=of_decide_eq_false c;have e:(l.take 10).length=10:=by rw[ZWT];omega
    rw[e];have e2:decide (((10:Nat):Int)<10)=false:=rfl;cases c5003:decide (((10:Nat):Int)<(l.length:Int))with
    |true=>exact⟨_,by simp only[go_sem,c18L0b,ZWm,c5003,e2];rfl,by simp only[go_sem],by simp only[go_sem]⟩
    |false=>exact⟨_,by simp only[go_sem,c18L0b,ZWm,c5003,e2];rfl,by simp only[go_sem],by simp only[go_sem]⟩)
 obtain⟨fr',h1,h2,h3⟩:=L;have h1':Zg rE [0,3] c18L0b [(0,.isl bw ex 2<|l.map Wch.enc),(3,.int .i64 0)] []=_:=h1;unfold fwB;rw[Z5 (f:=18) rfl rfl];cases hc:Zu (λ_ w=>wsB w) 0 (l.take 10)with
 |true=>
  rw[hc]at h1';obtain⟨q1,q2⟩:=h2 hc;simp only[go_sem,c18,c18L0,h1',q1,q2,ZWm,ZWp,if_true]
 |false=>
  rw[hc]at h1';simp only[go_sem,c18,c18L0,h1',h3 hc,ZWr,ZWt]
def ZMw(a b:Sta)(bw ex:Bool)(l:List Wch):pfn rE 5 [stA a,stA b,.isl bw ex 2<|l.map Wch.enc]=some (.bool<|YQ a&&(YQ b&&fwB l)):=by
 have h1:=Z4F a;have h2:=Z4F b;have h3:=ZMv bw ex l;simp only[stA]at h1 h2;rw[Z5 (f:=5) rfl rfl];cases c1:YQ a with
 |false=>
  rw[c1]at h1;simp only[go_sem,c5,stA,h1,ZWr]
 |true=>
 rw[c1]at h1;cases c2:YQ b with
 |false=>
  rw[c2]at h2;simp only[go_sem,c5,stA,h1,h2,ZWr,ZWw]
 |true=>
 rw[c2]at h2;simp only[go_sem,c5,stA,h1,h2,h3,ZWp]
def ZMx{D D2:List Str}{E E2:List Endz}:HL D D2 E E2=true↔D=D2/\E=E2:=by
 constructor
 .intro h;unfold HL at h;rw[ZWn,ZWn,Zda,beq_iff_eq]at h;obtain⟨⟨h1,h2⟩,h3⟩:=h;constructor
  .unfold HK at h2;rw[ZWn,Zda,beq_iff_eq]at h2;refine ZZ3 h2.1 λi hi hj=>?_
   have:=h2.2 i D[i]<|ZWu hi;rw[ZWD,ZWu hj]at this;exact(Ky _ _).1 this
  .refine ZZ3 h1 λi hi hj=>?_
   have:=h3 i E[i]<|ZWu hi;rw[ZWD,ZWu hj]at this;exact ZGg.1 this
 .rintro⟨rfl,rfl⟩;exact ZIe _ _
def ZMy(k m:Knw):ZLb k m=(eqL Zvh k.P m.P&&HL k.D m.D k.E m.E):=by
 rw[ZWK,ZWn,ZMx,ZLj<|λx y=>Zwt,ZLw]
 cases k;cases m;simp;constructor<;>rintro⟨rfl,rfl,rfl⟩<;>exact⟨rfl,rfl,rfl⟩
structure NtS(n:Ntc):Prop where
 od:n.Od.length<=1152921504606846976
 oe:n.Oe.length<=1152921504606846976
 nd:n.Nd.length<=1152921504606846976
 ne:n.Ne.length<=1152921504606846976
 oa:n.Oa.length<=1152921504606846976
 na:n.Na.length<=1152921504606846976
def ZMz{Ka Kb:Str->Knw}(sa:∀x,KnS<|Ka x)(sb:∀x,KnS<|Kb x){l:List Wch}:∀n∈ZL6 Ka Kb l,NtS n:=by
 intro n hn;unfold ZL6 at hn;obtain⟨w,_,rfl⟩:=ZX2.1 hn;exact⟨(sa _).d,(sa _).e,(sb _).d,(sb _).e,(sa _).p,(sb _).p⟩
def ZM6(n:Ntc)(hn:NtS n):pfn rE 28 [n.enc,n.enc]=some (.bool true):=by
 have h1:=ZF5 false false false false n.Od n.Od n.Oe n.Oe hn.od hn.oe;have h2:=ZF5 false false false false n.Nd n.Nd n.Ne n.Ne hn.nd hn.ne;have h3:=ZLv false false false false n.Oa n.Oa (by have:=hn.oa;omega)
 have h4:=ZLv false false false false n.Na n.Na (by have:=hn.na;omega)
 rw[ZIe]at h1 h2;rw[(ZLj<|λx y=>Zwt).2 rfl]at h3 h4
 simp only[ftA]at h1 h2;have h0:Z3 n.W n.W=true:=(Ky _ _).2 rfl;rw[Z5 (f:=28) rfl rfl];unfold Ntc.enc;simp only[go_sem,c28,h0,h1,h2,h3,h4,beq_self_eq_true]
def ZNA(ba ea bb eb:Bool)(l:List Ntc)(hl:l.length<=1000)(hn:∀n∈l,NtS n):pfn rE 11 [.isl ba ea 8<|l.map Ntc.enc,.isl bb eb 8<|l.map Ntc.enc]=some (.bool true):=by
 obtain⟨fr',h1,h2,_⟩:=QT (E:=rE) (live:=[0,1,5]) (b:=c11L0b) (h:=[]) l (λ_ _=>true) (λi=>[(0,.isl ba ea 8<|l.map Ntc.enc),(1,.isl bb eb 8<|l.map Ntc.enc),(5,I i)]) 0 (λfr=>True) (λfr=>True) (λi=>rfl)
  (λi x hx _=>by
   have hg:=Z6 (f:=Ntc.enc) hx;have hi:=Zh<|Z7 hx;have hw:=Zx (n:=i) (by have:=Z7 hx;omega)
   have hs:=ZM6 x<|hn x<|ZWA hx;simp only[Ntc.enc]at hs hg;refine⟨_,by simp only[go_sem,c11L0b,Ntc.enc,hg,hi,hw,hs,ZWo];rfl,?_⟩
   simp only[go_sem])
  (λi x hx hP=>by cases hP)
  (⟨_,by simp only[go_sem,c11L0b,ZG];rfl,trivial⟩)
 have ht:Zu (λ(_:Nat)(_:Ntc)=>true) 0 l=true:=Zda.2 λ_ _ _=>rfl
 have hne:((l.length:Int) != (l.length:Int))=false:=by simp
 rw[ht]at h1;have h1':Zg rE [0,1,5] c11L0b [(0,.isl ba ea 8<|l.map Ntc.enc),(1,.isl bb eb 8<|l.map Ntc.enc),(5,.int .i64 0)] []=_:=h1;rw[Z5 (f:=11) rfl rfl];simp only[go_sem,c11,c11L0,ZWm,hne,h1',if_true]
def ZLr{s:Sta}(h:YQ s=true):StK s:=by
 have hs:=Kl s h;simp only[YQ,M3,ZWn,ZWG]at h;have h1:=h.1;simp only[decide_eq_false_iff_not]at h1;exact⟨hs.e,by omega,by omega⟩
def ZLl(n:Ntc):Knw:=⟨n.Od,n.Oe,n.Oa⟩
def ZLm(n:Ntc):Knw:=⟨n.Nd,n.Ne,n.Na⟩
def kAt(k:Knw)(N:List Ntc):Knw:=N.foldl (λ_ n=>ZLm n) k
def ZMA(k:Knw){N:List Ntc}{i:Nat}{n:Ntc}(h:N[i]?=some n):kAt k (N.take<|i+1)=ZLm n:=by
 have hi:=ZWx.1 h;unfold kAt;rw[ZYu hi.1,ZXV,hi.2];rfl
def ZLA{k:Knw}(hk:KnS k):∀{N:List Ntc},(∀n∈N,NtS n)->KnS (kAt k N)
 |[],_=>hk
 |n::r,h=>by
  have h1:=h n ZX4;exact ZLA (k:=ZLm n) ⟨h1.nd,h1.ne,h1.na⟩ λm hm=>h m<|ZXp _ hm
def rpP(k:Knw)(N:List Ntc)(i:Nat)(n:Ntc):Bool:=ZLb (kAt k<|N.take i)<|ZLl n
def rpH(k:Knw):Hp:=[.row 2 [.agg [.isl false false 1 [],.isl false false 3 []]],.row 3 [k.enc]]
def rpV(k:Knw):AV:=.tup [ftA false false k.D k.E,.isl false false 11<|k.P.map Plc.enc,I 0]
def ZM7(k:Knw)(hk:KnS k)(bw ex:Bool)(N:List Ntc)(hN:∀n∈N,NtS n)(hl:N.length<=1000):
 pfn rE 9 [ftA false false k.D k.E,.isl false false 11<|k.P.map Plc.enc,.isl bw ex 8<|N.map Ntc.enc]=some (bif Zu (rpP k N) 0 N then rpV (kAt k N)else .tup [ftA false false [] [],.isl false false 11 [],I 11]):=by
 have hbS:∀n(K:List Str),Zd n (K.map encS)=true:=λn K=>ZN _<|Zw (λt=>rfl) K
 have hbE:∀n(K:List Endz),Zd n (K.map Endz.enc)=true:=λn K=>ZN _<|Zw (λt=>rfl) K
 have hbP:∀n(K:List Plc),Zd n (K.map Plc.enc)=true:=λn K=>ZN _<|Zw (λt=>rfl) K
 obtain⟨fr',h',L1,L2,L3⟩:=Jk (E:=rE) (live:=[6,9,15,16,17]) (b:=c9L0b) N (rpP k N) (λi=>[(6,.ptr 0 0 0 1),(9,.ptr 1 0 0 1),(15,.isl bw ex 8<|N.map Ntc.enc),(16,I N.length),(17,I i)])
  (λi=>rpH<|kAt k<|N.take i) 0 (λfr h=>get fr 6=.ptr 0 0 0 1/\get fr 9=.ptr 1 0 0 1/\get fr 7=.bot/\get fr 8=.bot/\h=rpH (kAt k N)) (λfr h=>get fr 6=.ptr 0 0 0 1/\get fr 7=.isl false false 11 []/\get fr 8=.int .i64 11/\get fr 9=.bot/\∃m,h=rpH m) (λi=>rfl)
  (λi x hx hP=>by
   have hg:=Z6 (f:=Ntc.enc) hx;have hi':=Zh<|Z7 hx;have hw:=Zx (n:=i) (by have:=Z7 hx;omega)
   have hs:=ZMA k hx;have hz:=ZLA hk (N:=N.take i) λn hn=>hN n<|ZXT hn
   have hi:=ZoJ (kAt k<|N.take i) (ZLl x) hz;unfold rpP at hP;rw[hP]at hi;rw[hs];generalize kAt k (N.take i)=m at hi⊢;simp only[Knw.enc,ZLl]at hi;simp only[Ntc.enc]at hg;refine⟨_,by simp only[go_sem,c9L0b,rpH,Knw.enc,ZLm,hg,hi',hw,hi,hbS,hbE,hbP,ZWo];rfl,?_⟩
   simp only[go_sem])
  (λi x hx hP=>by
   have hg:=Z6 (f:=Ntc.enc) hx;have hi':=Zh<|Z7 hx;have hz:=ZLA hk (N:=N.take i) λn hn=>hN n<|ZXT hn
   have hi:=ZoJ (kAt k<|N.take i) (ZLl x) hz;unfold rpP at hP;rw[hP]at hi;generalize kAt k (N.take i)=m at hi⊢;simp only[Knw.enc,ZLl]at hi;simp only[Ntc.enc]at hg;refine⟨_,_,by simp only[go_sem,c9L0b,rpH,Knw.enc,hg,hi',hi,hbS,hbE,hbP,ZWq];rfl,?_⟩
   simp only[go_sem];exact⟨trivial,trivial,trivial,trivial,m,rfl⟩)
  (⟨_,_,by simp only[go_sem,c9L0b,rpH,ZG];rfl,by simp only[go_sem],by simp only[go_sem],by simp only[go_sem],by simp only[go_sem],by rw[ZWR];rfl⟩)
 have L1':Zg rE [6,9,15,16,17] c9L0b [(6,.ptr 0 0 0 1),(9,.ptr 1 0 0 1),(15,.isl bw ex 8<|N.map Ntc.enc),(16,I N.length),(17,.int .i64 0)] (rpH k)=_:=L1;unfold ftA;rw[Z5 (f:=9) rfl rfl];simp only[rpH,Knw.enc]at L1';cases e:Zu (rpP k N) 0 N with
 |true=>
  obtain⟨q6,q9,q7,q8,rfl⟩:=L2 e;rw[e]at L1';unfold rpV ftA;generalize kAt k N=m at*;simp only[rpH,Knw.enc]at L1';simp only[go_sem,c9,c9L0,ZWm,L1',q6,q9,q7,q8,if_true,cond_true]
 |false=>
  obtain⟨q6,q7,q8,q9,m,rfl⟩:=L3 e;rw[e]at L1';simp only[rpH,Knw.enc]at L1';simp only[go_sem,c9,c9L0,ZWm,L1',q6,q7,q8,q9,hbS,hbE,hbP,ZWt,cond_false]
def ZSC{s:Sta}(hp:Prop' s){d:Gc}(hd:d∈s.Bc)(h:d.Ld<0):d.After.l=[]/\(d.Ld==-1)=true:=by
 obtain⟨i,hi⟩:=ZXF hd;have h1:=(Zd0 s i d).1 (hp.dr i d hi);have ho:=h1.1;unfold QM ZD at ho;simp only[ZWn,decide_eq_true_eq]at ho;have he:(d.Ld==-1)=true:=by rw[beq_iff_eq];omega
 have hb:=h1.2.2.1;unfold UC exD at hb;rw[he]at hb;simp only[ZXE,ZWp]at hb;have hn:=of_decide_eq_false hb.1.1.2;unfold Yf at hn;exact⟨List.eq_nil_of_length_eq_zero (by omega),he⟩
def ZSD{s:Sta}(hp:Prop' s){d:Gc}(hd:d∈s.Bc):(d.Ld==-1)=true↔d.Ld<0:=
 ⟨λh=>by have:=eq_of_beq h;omega,λh=>(ZSC hp hd h).2⟩
structure FaI(s:Sta)(M:List Bool)(i:Nat)(st:List Str×List Endz):Prop where
 ds:st.1.Pairwise ltS
 es:st.2.Pairwise λa b=>ltS a.Id b.Id
 dm:∀x,x∈st.1↔∃k d,k<i/\s.Bc[k]?=some d/\M.getD k false=true/\d.After.l=[]/\d.Ld<0/\d.Id=x
 em:∀e,e∈st.2↔∃k d,k<i/\s.Bc[k]?=some d/\M.getD k false=true/\d.After.l=[]/\¬d.Ld<0/\ZEk d=e
def ZSE{s:Sta}(hp:Prop' s)(M:List Bool):∀i,i<=s.Bc.length->FaI s M i (faK s M i)
 |0,_=>⟨List.Pairwise.nil,List.Pairwise.nil,λx=>⟨λh=>(by cases h),λ⟨k,_,h,_⟩=>(by omega)⟩,λe=>⟨λh=>(by cases h),λ⟨k,_,h,_⟩=>(by omega)⟩⟩
 |i+1,hi=>by
  have ih:=ZSE hp M i<|by omega
  obtain⟨d,hd⟩:∃x,s.Bc[i]?=some x:=⟨_,ZWu<|by omega⟩
  have hm:=ZWA hd;rw[ZQu];generalize faK s M i=st at ih⊢;unfold faS;rw[hd];dsimp only;have ne:decide (Yf d>0)=true↔d.After.l≠[]:=by
   unfold Yf;rw[decide_eq_true_eq];constructor
   .intro h e;rw[e]at h;simp at h
   .intro h;have:=List.length_pos_iff.2 h;omega
  have keep:∀{P:Gc->Prop},(¬(M.getD i false=true/\P d))->((∃k e,k<i+1/\s.Bc[k]?=some e/\M.getD k false=true/\P e)↔(∃k e,k<i/\s.Bc[k]?=some e/\M.getD k false=true/\P e)):=λ{P}h=>by
   constructor
   .rintro⟨k,e,h1,h2,h3,h4⟩;by_cases hk:k=i
    .subst hk;rw[hd]at h2;cases h2;exact absurd ⟨h3,h4⟩ h
    .exact⟨k,e,by omega,h2,h3,h4⟩
   .rintro⟨k,e,h1,h2,h3,h4⟩;exact⟨k,e,by omega,h2,h3,h4⟩
  have more:∀{P:Gc->Prop},M.getD i false=true->P d->∀Q:Prop,(Q↔∃k e,k<i/\s.Bc[k]?=some e/\M.getD k false=true/\P e)->True:=λ_ _ _ _=>trivial
  clear more;cases hc:!M.getD i false||decide (Yf d>0)with
  |true=>
   rw[cond_true];have hno:¬(M.getD i false=true/\d.After.l=[]):=by
    rintro⟨h1,h2⟩;rw[h1,ZWo,ZWB,ne]at hc;exact hc h2
   refine⟨ih.ds,ih.es,λx=>?_,λe=>?_⟩
   .rw[ih.dm x,keep (P:=λe=>e.After.l=[]/\e.Ld<0/\e.Id=x) λh=>hno ⟨h.1,h.2.1⟩]
   .rw[ih.em e,keep (P:=λy=>y.After.l=[]/\¬y.Ld<0/\ZEk y=e) λh=>hno ⟨h.1,h.2.1⟩]
  |false=>
   rw[cond_false];simp only[ZXE,ZXK]at hc;obtain⟨hM,hA⟩:=hc;have hA':d.After.l=[]:=by
    by_cases h:d.After.l=[]
    .exact h
    .rw[ne.2 h]at hA;cases hA
   cases he:d.Ld==-1 with
   |true=>
    have hlt:=(ZSD hp hm).1 he;rw[cond_true];refine⟨ZSv ih.ds,ih.es,λx=>?_,λe=>?_⟩
    .rw[put_mem,ih.dm x];constructor
     .rintro(rfl|⟨k,e,h1,h2⟩)
      .exact⟨i,d,by omega,hd,hM,hA',hlt,rfl⟩
      .exact⟨k,e,by omega,h2⟩
     .rintro⟨k,e,h1,h2,h3,h4,h5,h6⟩;by_cases hk:k=i
      .subst hk;rw[hd]at h2;cases h2;exact Or.inl h6.symm
      .exact Or.inr ⟨k,e,by omega,h2,h3,h4,h5,h6⟩
    .rw[ih.em e,keep (P:=λy=>y.After.l=[]/\¬y.Ld<0/\ZEk y=e) λh=>h.2.2.1 hlt]
   |false=>
    have hlt:¬d.Ld<0:=λh=>by rw[(ZSD hp hm).2 h]at he;cases he
    rw[cond_false];have hnew:∀y∈st.2,y.Id≠d.Id:=λy hy hid=>by
     obtain⟨k,e,h1,h2,_,_,_,h6⟩:=(ih.em y).1 hy;have h7:e.Id=d.Id:=by rw[<-hid,<-h6];rfl
     have h8:=Zi1 (f:=λd:Gc=>d.Id) (ZEF hp) h2
     have h9:=Zi1 (f:=λd:Gc=>d.Id) (ZEF hp) hd
     rw[h7,h9]at h8;omega
    refine⟨ih.ds,ZSx ih.es hnew,λx=>?_,λe=>?_⟩
    .rw[ih.dm x,keep (P:=λy=>y.After.l=[]/\y.Ld<0/\y.Id=x) λh=>hlt h.2.2.1]
    .rw[ZSw,ih.em e];constructor
     .rintro(rfl|⟨k,f,h1,h2⟩)
      .exact⟨i,d,by omega,hd,hM,hA',hlt,rfl⟩
      .exact⟨k,f,by omega,h2⟩
     .rintro⟨k,f,h1,h2,h3,h4,h5,h6⟩;by_cases hk:k=i
      .subst hk;rw[hd]at h2;cases h2;exact Or.inl h6.symm
      .exact Or.inr ⟨k,f,by omega,h2,h3,h4,h5,h6⟩
def ZVC{s:Sta}(hp:Prop' s)(hN:s.Bc.length<=500){id:Str}(h0:0<=Zn s id):IsFate s id (ZP8 s id).1 (ZP8 s id).2:=by
 have h:=ZSE hp (ZOd s id) s.Bc.length<|ZWs _;have hl:=ZQv s (ZOd s id) s.Bc.length;rw[show faK s (ZOd s id) s.Bc.length=ZP8 s id from rfl]at h hl
 refine⟨h.ds.imp λ{a b}hab e=>by subst e;exact ZIV a hab,h.ds,h.es,λx=>?_,λe=>?_,by omega,by omega⟩
 .rw[h.dm x];constructor
  .rintro⟨k,d,_,h2,h3,h4,h5,h6⟩;exact⟨d,ZWA h2,h6,h5,(ZPZ hp h0 h2).1 h3⟩
  .rintro⟨d,h1,h2,h3,h4⟩;obtain⟨k,hk⟩:=ZXF h1;exact⟨k,d,Z7 hk,hk,(ZPZ hp h0 hk).2 h4,(ZSC hp h1 h3).1,h3,h2⟩
 .rw[h.em e];constructor
  .rintro⟨k,d,_,h2,h3,h4,h5,h6⟩;exact⟨d,ZWA h2,h6.symm,h5,h4,(ZPZ hp h0 h2).1 h3⟩
  .rintro⟨d,h1,h2,h3,h4,h5⟩;obtain⟨k,hk⟩:=ZXF h1;exact⟨k,d,Z7 hk,hk,(ZPZ hp h0 hk).2 h5,h4,h3,h2.symm⟩
def ZVD(s:Sta)(hs:StS s):pfn rE 120 [stA s]=some (.isl false false 3<|(lvR s.Ga).map arA):=by
 have hbS:∀n(K:List Gm),Zd n (K.map arA)=true:=λn K=>ZN _<|Zw (λt=>rfl) K
 have hl:=hs.regions;have L:=Y8 (E:=rE) (live:=[1,3,4]) (b:=c120L0b) s.Ga.length
  (λi=>[(1,stI s),(3,.sl 0 (lvR<|s.Ga.take i).length 0 (lvR<|s.Ga.take i).length false),(4,I i)])
  (λi=>[.row 3<|(lvR<|s.Ga.take i).map arA]) (λi=>rfl)
  (λi hi=>by
   obtain⟨x,hx⟩:∃x,s.Ga[i]?=some x:=⟨_,ZWu hi⟩;have hg:=Z6 (f:=Gm.enc) hx;have hi':=Zh hi;have hw:=Zx (n:=i)<|by omega
   have hn:(lvR<|s.Ga.take i).length<=1000:=ZXh (Zi0 _)<|by rw[ZWT];omega
   rw[Zi2 hx];generalize lvR (s.Ga.take i)=KS at hn⊢;cases c:x.Ld==-1 with
   |false=>
    rw[cond_false,ZXe];refine⟨_,by simp only[go_sem,c120L0b,hg,hi',hw,Gm.enc,NL.enc,c,hbS,ZWm];rfl,?_⟩
    simp only[go_sem]
   |true=>
    have ha:=XC (h:=[.row 3<|KS.map arA]) (fz:=false) (b:=0) (g:=KS.length) (sz:=3) (es:=KS.map arA) (bw:=false) (ex:=false) (ys:=[.agg [.str x.Id,I x.bq,.isl false x.Ring.ex 2<|x.Ring.l.map Pt.enc]]) (bytes:=48) (by simp[rowAt]) rfl (by rfl) (by omega) (by omega) (by simp;omega)
    have e1:(KS++[x]).map arA=KS.map arA++[.agg [.str x.Id,I x.bq,.isl false x.Ring.ex 2<|x.Ring.l.map Pt.enc]]:=by rw[ZWM];rfl
    rw[cond_true,e1,ZWz,ZXs];refine⟨_,by simp only[go_sem,c120L0b,hg,hi',hw,Gm.enc,NL.enc,c,ha,beq_self_eq_true,hbS,ZWm];rfl,?_⟩
    simp only[go_sem])
  (e:=.exit 0) (by simp only[go_sem,c120L0b,ZG,ZWR,ZWm];rfl) (by simp)
 have e0:lvR (s.Ga.take 0)=[]:=rfl;simp only[e0,ZWQ,ZX6]at L;have L':Zg rE [1,3,4] c120L0b [(1,stI s),(3,.sl 0 0 0 0 false),(4,.int .i64 0)] [.row 3 []]=_:=L;rw[Z5 (f:=120) rfl rfl];have hcl:Z4 ((lvR s.Ga).map arA)=true:=Zw (λt=>rfl) _
 have htk:((lvR s.Ga).map arA).take (lvR s.Ga).length=(lvR s.Ga).map arA:=ZWL<|by rw[ZWm];omega
 simp only[go_sem,c120,c120L0,L',hbS,beq_self_eq_true,ZXu,htk,hcl]
def ZVE(s:Sta)(hs:StR s)(hl:s.Ga.length<=400)(id:Str):pfn rE 61 [stA s,.str id]=some (.tup [(ZLa s id).1.enc,I (ZLa s id).2]):=by
 have hp:=ZP7 s hs;have hf:=ZOK s hs.toStE.sizes id;have hR:=ZVD s hs.toStE.sizes;unfold ZLa;cases c1:Jx s with
 |false=>
  rw[c1]at hp;rw[Z5 (f:=61) rfl rfl];simp only[go_sem,c61,hp,zP,Plc.enc,ZWq,cond_true]
 |true=>
 rw[c1]at hp;have hG:=ZMk ((Zdb s).1 c1).1 hs.toStE hl;cases c2:decide (Zn s id<0)with
 |true=>
  rw[Z5 (f:=61) rfl rfl];simp only[go_sem,c61,hp,hf,c2,zP,Plc.enc,ZWo,cond_true,cond_false]
 |false=>
 have c2':=c2;rw[ZEz]at c2';obtain⟨k,d,h1,h2,h3⟩:=ZcU c2';have h1':Zn s id=(k:Int):=h1;have hg:=Z6 (f:=Gc.enc) h2;have hlt:=Zh<|Z7 h2;have o3:=ZQz (lvR s.Ga) hG 3 rfl d.bg;have o2:=ZQz (lvR s.Ga) hG 2 rfl d.bg;have o1:=ZQz (lvR s.Ga) hG 1 rfl d.bg;rw[h1']at hf c2⊢;rw[ZXR,h2];have hcl:Z4 ((lvR s.Ga).map arA)=true:=Zw (λt=>rfl) _
 generalize(lvR s.Ga).map arA=M at*;simp only[ZWo,cond_false];unfold ZLs Plc.enc;generalize ZLf 3 d.bg (lvR s.Ga)=x3 at*;generalize ZLf 2 d.bg (lvR s.Ga)=x2 at*;generalize ZLf 1 d.bg (lvR s.Ga)=x1 at*;cases c3:d.Ld != -1 with
 |true=>
  rw[Z5 (f:=61) rfl rfl];simp only[go_sem,c61,hp,hf,c2,hg,hlt,Gc.enc,NL.enc,c3,zP,ZWo,cond_true]
 |false=>
 cases c4:Z3 d.Veil emp with
 |false=>
  rw[Z5 (f:=61) rfl rfl];simp only[go_sem,c61,hp,hf,c2,hg,hlt,Gc.enc,NL.enc,c3,c4,zP,ZWo,ZWq,cond_true,cond_false]
 |true=>
  have h3':d.Id=id:=h3;rw[Z5 (f:=61) rfl rfl];simp only[go_sem,c61,hp,hf,c2,hg,hlt,Gc.enc,NL.enc,c3,c4,hR,o1,o2,o3,hcl,h3',ZWo,cond_false]
def ZSF(bw ex:Bool)(l:List Wch)(hb:∀w∈l,w.Id.size<=1000000/\w.Gc.size<=1000000)(hl:l.length<=100):pfn rE 26 [.isl bw ex 2<|l.map Wch.enc]=some (.bool<|wpB l):=by
 have inner:∀(i:Nat)(x:Wch),l[i]?=some x->∃fr',Zg rE [0,3,4] c26L0b [(0,.isl bw ex 2<|l.map Wch.enc),(3,I i),(4,.int .i64 0)] []=some (bif ((l.take i).map (·.Id)).any (Z3 x.Id)then .ret else .exit 2,fr',[])/\(((l.take i).map (·.Id)).any (Z3 x.Id)=true->get fr' 2=.bool false)/\(((l.take i).map (·.Id)).any (Z3 x.Id)=false->get fr' 0=.isl bw ex 2 (l.map Wch.enc)/\get fr' 3=I i/\get fr' 2=.bot):=λi x hx=>by
  have hgx:=Z6 (f:=Wch.enc) hx;have hli:=Z7 hx;have hti:(l.take i).length=i:=by rw[ZWT];omega
  obtain⟨fr',R1,R2,R3⟩:=QT (E:=rE) (live:=[0,3,4]) (b:=c26L0b) (h:=[]) (l.take i) (λ_ y=>!Z3 y.Id x.Id) (λj=>[(0,.isl bw ex 2<|l.map Wch.enc),(3,I i),(4,I j)]) 2 (λfr=>get fr 0=.isl bw ex 2 (l.map Wch.enc)/\get fr 3=I i/\get fr 2=.bot) (λfr=>get fr 2=.bool false) (λj=>rfl)
   (λj y hy hP=>by
    have hy':=HH hy;have hgy:=Z6 (f:=Wch.enc) hy'.1;have hlt:=Zh hy'.2;have hlj:=Zh<|Z7 hy'.1;have hlx:=Zh hli;have hw:=Zx (n:=j)<|by omega
    rw[ZWG]at hP;simp only[Wch.enc]at hgx hgy;refine⟨_,by simp only[go_sem,c26L0b,Wch.enc,hgx,hgy,hlt,hlj,hlx,hw,hP,ZWm];rfl,?_⟩
    simp only[go_sem])
   (λj y hy hP=>by
    have hy':=HH hy;have hgy:=Z6 (f:=Wch.enc) hy'.1;have hlt:=Zh hy'.2;have hlj:=Zh<|Z7 hy'.1;have hlx:=Zh hli;rw[ZXK]at hP;simp only[Wch.enc]at hgx hgy;exact⟨_,by simp only[go_sem,c26L0b,Wch.enc,hgx,hgy,hlt,hlj,hlx,hP,ZWm];rfl,by simp only[go_sem]⟩)
   (by rw[hti];exact⟨_,by simp only[go_sem,c26L0b,ZG];rfl,by simp only[go_sem],by simp only[go_sem],by simp only[go_sem]⟩)
  have e:Zu (λ(_:Nat)(y:Wch)=>!Z3 y.Id x.Id) 0 (l.take i) = !((l.take i).map (·.Id)).any (Z3 x.Id):=by
   rw[ZWK,Zda,ZWG,ZZ2];constructor
   .intro h z hz;obtain⟨y,hy,rfl⟩:=ZX2.1 hz;obtain⟨j,hj⟩:=ZXF hy;have:=h j y hj;rw[ZWG]at this;intro c;rw[(Ky _ _).1 c,(Ky _ _).2 rfl]at this;cases this
   .intro h j y hj;rw[ZWG];have:=h y.Id<|ZX2.2 ⟨y,ZWA hj,rfl⟩;cases c:Z3 y.Id x.Id with
    |false=>rfl
    |true=>exact absurd ((Ky _ _).2 ((Ky _ _).1 c).symm) this
  rw[e]at R1 R2 R3;refine⟨fr',?_,λh=>R3 (by rw[h];rfl),λh=>R2<|by rw[h];rfl⟩
  cases c:((l.take i).map (·.Id)).any (Z3 x.Id)with
  |true=>rw[c]at R1;exact R1
  |false=>rw[c]at R1;exact R1
 obtain⟨fr',R1,R2,R3⟩:=QT (E:=rE) (live:=[0,3]) (b:=c26L1b) (h:=[]) l (wpP l) (λi=>[(0,.isl bw ex 2<|l.map Wch.enc),(3,I i)]) 0 (λfr=>get fr 0=.isl bw ex 2 (l.map Wch.enc)/\get fr 2=.bot) (λfr=>get fr 2=.bool false) (λi=>rfl)
  (λi x hx hP=>by
   have hg:=Z6 (f:=Wch.enc) hx;have hi:=Zh<|Z7 hx;have hi2:decide ((i:Int)<1001)=true:=decide_eq_true (by have:=Z7 hx;omega)
   have hw:=Zx (n:=i) (by have:=Z7 hx;omega)
   obtain⟨s1,s2⟩:=hb x<|ZWA hx;have n1:=ZOe x.Id s1;have n2:=ZOe x.Gc s2;unfold wpP at hP;simp only[ZWn,ZWG]at hP;obtain⟨p1,p2,p3⟩:=hP;rw[p1]at n1;rw[p2]at n2;obtain⟨fr',h1,_,h3⟩:=inner i x hx;obtain⟨g0,g3,g2⟩:=h3 p3;rw[p3]at h1;simp only[Wch.enc]at hg;refine⟨_,by simp only[go_sem,c26L1b,c26L0,hg,hi,hi2,hw,n1,n2,h1,g0,g3,ZWm,cond_false,ZWo];rfl,?_⟩
   simp only[go_sem])
  (λi x hx hP=>by
   have hg:=Z6 (f:=Wch.enc) hx;have hi:=Zh<|Z7 hx;have hi2:decide ((i:Int)<1001)=true:=decide_eq_true (by have:=Z7 hx;omega)
   obtain⟨s1,s2⟩:=hb x<|ZWA hx;have n1:=ZOe x.Id s1;have n2:=ZOe x.Gc s2;simp only[Wch.enc]at hg;unfold wpP at hP;cases p1:ZZ x.Id with
   |false=>rw[p1]at n1;exact⟨_,by simp only[go_sem,c26L1b,hg,hi,hi2,n1,ZWm,ZWq];rfl,by simp only[go_sem]⟩
   |true=>
   rw[p1]at n1;cases p2:ZZ x.Gc with
   |false=>rw[p2]at n2;exact⟨_,by simp only[go_sem,c26L1b,hg,hi,hi2,n1,n2,ZWm,ZWq,ZWo];rfl,by simp only[go_sem]⟩
   |true=>
   rw[p2]at n2;rw[p1,p2,ZWp,ZWp,ZXK]at hP;obtain⟨fr',h1,h2,_⟩:=inner i x hx;have g2:=h2 hP;rw[hP]at h1;exact⟨_,by simp only[go_sem,c26L1b,c26L0,hg,hi,hi2,n1,n2,h1,g2,ZWm,cond_true,ZWo];rfl,by simp only[go_sem]⟩)
  (by
   exact⟨_,by simp only[go_sem,c26L1b,ZG,ZWm];rfl,by simp only[go_sem],by simp only[go_sem]⟩)
 have R1':Zg rE [0,3] c26L1b [(0,.isl bw ex 2<|l.map Wch.enc),(3,.int .i64 0)] []=_:=R1;have h4:decide ((l.length:Int)<=1000)=true:=decide_eq_true<|by omega
 rw[Z5 (f:=26) rfl rfl];unfold wpB;cases hc:Zu (wpP l) 0 l with
 |true=>
  obtain⟨q1,q2⟩:=R2 hc;rw[hc]at R1';simp only[go_sem,c26,c26L1,R1',q1,q2,h4,ZWm,ZWp,if_true]
 |false=>
  have q:=R3 hc;rw[hc]at R1';simp only[go_sem,c26,c26L1,R1',q,ZWr,ZWt]
def ZVF(s:Sta)(hA:∀x,pfn rE 61 [stA s,.str x]=some (.tup [(ZLa s x).1.enc,I (ZLa s x).2]))(D:List Str)(E:List Endz)(hD:D.length<=500):
 ∃fr',Zg rE [2,4,6,8,9] c27L0b [(2,stI s),(4,.ptr 0 0 0 1),(6,.ptr 1 0 0 1),(8,.sl 2 0 0 0 false),(9,.int .i64 0)] (kvH D E [])=some (.exit 0,fr',kvH D E<|ZL7 s D)/\get fr' 4=.ptr 0 0 0 1/\get fr' 6=.ptr 1 0 0 1/\get fr' 8=.sl 2 (ZL7 s D).length 0 (ZL7 s D).length false:=by
 have hbS:∀n(K:List Str),Zd n (K.map encS)=true:=λn K=>ZN _<|Zw (λt=>rfl) K
 have hbE:∀n(K:List Endz),Zd n (K.map Endz.enc)=true:=λn K=>ZN _<|Zw (λt=>rfl) K
 have hbP:∀n(K:List Plc),Zd n (K.map Plc.enc)=true:=λn K=>ZN _<|Zw (λt=>rfl) K
 have L:=Y8 (E:=rE) (live:=[2,4,6,8,9]) (b:=c27L0b) D.length (λi=>[(2,stI s),(4,.ptr 0 0 0 1),(6,.ptr 1 0 0 1),(8,.sl 2 (ZL7 s<|D.take i).length 0 (ZL7 s<|D.take i).length false),(9,I i)]) (λi=>kvH D E<|ZL7 s<|D.take i) (λi=>rfl)
  (λi hi=>by
   obtain⟨x,hx⟩:∃x,D[i]?=some x:=⟨_,ZWu hi⟩;have hg:=Z6 (f:=encS) hx;have hi':=Zh hi;have hw:=Zx (n:=i)<|by omega
   have ha:=hA x;have hs:=ZM1 (s:=s) hx;have hle:(ZL7 s<|D.take i).length<=500:=by
    have h1:=ZLx s<|D.take i;rw[ZWT]at h1;omega
   rw[hs];generalize ZL7 s (D.take i)=P at hle⊢;have hap:=λ(r0 r1 r3:AObj)(ys:AV)(hy:fits 11 ys=true)=>XC (h:=[r0,r1,.row 11<|P.map Plc.enc,r3]) (fz:=false) (b:=2) (g:=P.length) (sz:=11) (es:=P.map Plc.enc) (bw:=false) (ex:=false) (ys:=[ys]) (bytes:=136) (by simp[rowAt]) rfl (by simp[hy]) (by omega) (by omega) (by simp;omega)
   generalize hq:ZLa s x=q at ha⊢;obtain⟨⟨a1,a2,a3,a4,a5,⟨b1,b2,b3,b4⟩,⟨e1,e2⟩⟩,er⟩:=q;have hap:=λr0 r1 r3=>hap r0 r1 r3 (Plc.enc ⟨a1,a2,a3,a4,a5,⟨b1,b2,b3,b4⟩,⟨e1,e2⟩⟩) rfl
   simp only[Plc.enc]at ha hap;cases c:er==0 with
   |true=>
    refine⟨_,by simp only[go_sem,c27L0b,kvH,ftA,hg,encS,hi',hw,ha,hap,c,hbS,hbE,hbP,ZWm,ZWz,ZXs,ZWM,Plc.enc,cond_true];rfl,?_⟩
    simp only[go_sem]
   |false=>
    refine⟨_,by simp only[go_sem,c27L0b,kvH,ftA,hg,encS,hi',hw,ha,c,hbS,hbE,hbP,ZWm,ZXe,ZWz,ZWQ,cond_false];rfl,?_⟩
    simp only[go_sem,ZWV,ZXe,cond_false])
  (e:=.exit 0) (by simp only[go_sem,kvH,ftA,c27L0b,ZG,ZWm];rfl) (by simp)
 rw[ZWR]at L;exact⟨_,L,by simp only[go_sem],by simp only[go_sem],by simp only[go_sem]⟩
def knV(k:Knw):AV:=.tup [ftA false false k.D k.E,.isl false false 11<|k.P.map Plc.enc]
def ZSG(s:Sta)(hp:Jx s=true)(hs:StR s)(hk:StK s)(hA:ZPu s)(id:Str)(k:Knw)(h:IsKn s id k):pfn rE 27 [stA s,.str id]=some (knV k):=by
 have hcS:∀K:List Str,Z4 (K.map encS)=true:=λK=>Zw (λt=>rfl) K
 have hcE:∀K:List Endz,Z4 (K.map Endz.enc)=true:=λK=>Zw (λt=>rfl) K
 cases c:decide (Zn s id<0)with
 |true=>
  have hf:=ZVv s hs id hp<|of_decide_eq_true c;rw[h.no<|of_decide_eq_true c];have z:((10:Int) != 0)=true:=rfl;unfold knV;unfold ftA at hf⊢;rw[Z5 (f:=27) rfl rfl];simp only[go_sem,c27,hf,z,ZX6]
 |false=>
  have hn:=of_decide_eq_false c;have c2:=c;rw[ZEz]at c2;obtain⟨j,d,h1,h2,h3⟩:=ZcU c2;have h1':Zn s id=(j:Int):=h1;have hjl:=Z7 h2;have hf:=ZVu s hs id hp hA (by omega)<|by omega
  have hI:=ZVC ((Zdb s).1 hp).1 hk.doors (id:=id) (by omega)
  have hI':=h.at' hn;obtain⟨e1,e2⟩:=ZKB hI hI' (λx=>by rw[hI.dm,hI'.dm])<|λe=>by rw[hI.em,hI'.em]
  rw[e1,e2]at hf;obtain⟨fr',l1,q4,q6,q8⟩:=ZVF s (ZVE s hs hk.regions) k.D k.E hI'.dl;have hP:=h.P;unfold knV;obtain⟨D,E,P⟩:=k;dsimp only at*;rw[<-hP]at l1 q8;have hcP:Z4 (P.map Plc.enc)=true:=Zw (λt=>rfl) _
  have htk:List.take P.length (P.map Plc.enc)=P.map Plc.enc:=ZWL<|by simp
  have z:((0:Int) != 0)=false:=rfl;unfold kvH at l1;simp only[ftA,ZX6]at hf l1⊢;rw[Z5 (f:=27) rfl rfl];simp only[go_sem,c27,c27L0,hf,z,l1,q4,q6,q8,hcS,hcE,hcP,htk,ZXu,beq_self_eq_true]
def ZVG(a b:Sta)(Ka Kb:Str->Knw)(bw ex:Bool)(l:List Wch)(hk:∀w∈l,pfn rE 27 [stA a,.str w.Gc]=some (knV<|Ka w.Gc))(hm:∀w∈l,pfn rE 27 [stA b,.str w.Gc]=some (knV<|Kb w.Gc))(sk:∀w∈l,KnS<|Ka w.Gc)(hl:l.length<=1000):
 ∃fr',Zg rE [2,3,4,8,9] c8L0b [(2,.isl bw ex 2<|l.map Wch.enc),(3,stI a),(4,stI b),(8,.sl 0 0 0 0 false),(9,.int .i64 0)] [.row 8 []]=some (.exit 0,fr',[.row 8<|(ZL6 Ka Kb l).map Ntc.enc])/\get fr' 8=.sl 0 (ZL6 Ka Kb l).length 0 (ZL6 Ka Kb l).length false:=by
 have hbN:∀n(K:List Ntc),Zd n (K.map Ntc.enc)=true:=λn K=>ZN _<|ZM4 K
 have hbS:∀n(K:List Str),Zd n (K.map encS)=true:=λn K=>ZN _<|Zw (λt=>rfl) K
 have hbE:∀n(K:List Endz),Zd n (K.map Endz.enc)=true:=λn K=>ZN _<|Zw (λt=>rfl) K
 have hbP:∀n(K:List Plc),Zd n (K.map Plc.enc)=true:=λn K=>ZN _<|Zw (λt=>rfl) K
 have L:=Y8 (E:=rE) (live:=[2,3,4,8,9]) (b:=c8L0b) l.length (λi=>[(2,.isl bw ex 2<|l.map Wch.enc),(3,stI a),(4,stI b),(8,.sl 0 (ZL6 Ka Kb<|l.take i).length 0 (ZL6 Ka Kb<|l.take i).length false),(9,I i)]) (λi=>[.row 8<|(ZL6 Ka Kb<|l.take i).map Ntc.enc]) (λi=>rfl)
  (λi hi=>by
   obtain⟨x,hx⟩:∃x,l[i]?=some x:=⟨_,ZWu hi⟩;have hg:=Z6 (f:=Wch.enc) hx;have hi':=Zh hi;have hw:=Zx (n:=i)<|by omega
   have hs:=ZLy Ka Kb hx;have hle:(ZL6 Ka Kb<|l.take i).length<=1000:=by
    have h1:=ZM3 Ka Kb<|l.take i;rw[ZWT]at h1;omega
   have hxm:=ZWA hx;have h1:=hk x hxm;have h2:=hm x hxm;have h3:=sk x hxm;rw[hs,ZMy];unfold ntc;generalize Ka x.Gc=k at*;generalize Kb x.Gc=m at*;generalize ZL6 Ka Kb (l.take i)=N at*;have hP:=ZLv false false false false k.P m.P (by have:=h3.p;omega)
   have hS:=ZF5 false false false false k.D m.D k.E m.E h3.d h3.e;have hap:=λ(r1 r2:AObj)(ys:AV)(hy:fits 8 ys=true)=>XC (h:=[.row 8<|N.map Ntc.enc,r1,r2]) (fz:=false) (b:=0) (g:=N.length) (sz:=8) (es:=N.map Ntc.enc) (bw:=false) (ex:=false) (ys:=[ys]) (bytes:=168) (by simp[rowAt]) rfl (by simp[hy]) (by omega) (by omega) (by simp;omega)
   have hap:=λr1 r2=>hap r1 r2 (Ntc.enc ⟨x.Id,k.D,k.E,m.D,m.E,!eqL Zvh k.P m.P,k.P,m.P⟩) rfl
   simp only[knV,ftA,Ntc.enc,Wch.enc]at h1 h2 hS hap hg;cases c1:eqL Zvh k.P m.P with
   |false=>
    rw[c1]at hP hap;simp only[ZWq]at hap;refine⟨_,by simp only[go_sem,c8L0b,hg,hi',hw,h1,h2,hP,hap,hbN,hbS,hbE,hbP,ZWm,ZWz,ZXs,ZWM,Ntc.enc,Wch.enc,ZWr,ZWq,cond_false];rfl,?_⟩
    simp only[go_sem]
   |true=>
   rw[c1]at hP hap;simp only[ZWo]at hap;cases c2:HL k.D m.D k.E m.E with
   |false=>
    rw[c2]at hS;refine⟨_,by simp only[go_sem,c8L0b,hg,hi',hw,h1,h2,hP,hS,hap,hbN,hbS,hbE,hbP,ZWm,ZWz,ZXs,ZWM,Ntc.enc,Wch.enc,ZWw,ZWq,ZWo,cond_false];rfl,?_⟩
    simp only[go_sem]
   |true=>
    rw[c2]at hS;refine⟨_,by simp only[go_sem,c8L0b,hg,hi',hw,h1,h2,hP,hS,hbN,hbS,hbE,hbP,ZWm,ZXe,Wch.enc,ZWv,ZWo,cond_true];rfl,?_⟩
    simp only[go_sem,ZWv,cond_true,ZXe,ZWQ,ZWV])
  (e:=.exit 0) (by simp only[go_sem,c8L0b,ZG,ZWm];rfl) (by simp)
 rw[ZWR]at L;exact⟨_,L,by simp only[go_sem]⟩
def ZVH(a b:Sta)(ha:StR a)(hb:StR b)(bw ex:Bool)(l:List Wch)(hs:∀w∈l,w.Id.size<=1000000/\w.Gc.size<=1000000)(hl:l.length<=100)(h:(Jx a&&(Jx b&&wpB l))=false):pfn rE 8 [stA a,stA b,.isl bw ex 2<|l.map Wch.enc]=some ZLz:=by
 have h1:=ZP7 a ha;have h2:=ZP7 b hb;have h3:=ZSF bw ex l hs hl;unfold ZLz;rw[Z5 (f:=8) rfl rfl];cases c1:Jx a with
 |false=>
  rw[c1]at h1;simp only[go_sem,c8,h1,ZWq]
 |true=>
 cases c2:Jx b with
 |false=>
  rw[c1]at h1;rw[c2]at h2;simp only[go_sem,c8,h1,h2,ZWq,ZWo]
 |true=>
 have c3:wpB l=false:=by rw[c1,c2]at h;exact h
 rw[c1]at h1;rw[c2]at h2;rw[c3]at h3;simp only[go_sem,c8,h1,h2,h3,ZWq,ZWo]
def ZVI(a b:Sta)(ha:StR a)(hb:StR b)(bw ex:Bool)(l:List Wch)(hs:∀w∈l,w.Id.size<=1000000/\w.Gc.size<=1000000)(hl:l.length<=100)(pa:Jx a=true)(pb:Jx b=true)(pl:wpB l=true)(Ka Kb:Str->Knw)(hk:∀w∈l,pfn rE 27 [stA a,.str w.Gc]=some (knV<|Ka w.Gc))(hm:∀w∈l,pfn rE 27 [stA b,.str w.Gc]=some (knV<|Kb w.Gc))(sk:∀w∈l,KnS<|Ka w.Gc):pfn rE 8 [stA a,stA b,.isl bw ex 2<|l.map Wch.enc]=some (ZLq<|ZL6 Ka Kb l):=by
 have h1:=ZP7 a ha;have h2:=ZP7 b hb;have h3:=ZSF bw ex l hs hl;obtain⟨fr',l1,q8⟩:=ZVG a b Ka Kb bw ex l hk hm sk<|by omega
 have hcN:=ZM4<|ZL6 Ka Kb l;rw[pa]at h1;rw[pb]at h2;rw[pl]at h3;generalize ZL6 Ka Kb l=N at*;have htk:List.take N.length (N.map Ntc.enc)=N.map Ntc.enc:=ZWL<|by simp
 unfold ZLq;rw[Z5 (f:=8) rfl rfl];simp only[go_sem,c8,c8L0,h1,h2,h3,l1,q8,hcN,htk,ZXu,beq_self_eq_true,ZWo]
def ZSH(k m:Knw):ZLb k m=(HL m.D k.D m.E k.E&&eqL Zvh m.P k.P):=by
 rw[ZWK,ZWn,ZMx,ZLj<|λx y=>Zwt,ZLw]
 obtain⟨a,b,c⟩:=k;obtain⟨d,e,f⟩:=m;constructor
 .intro h;cases h;exact⟨⟨rfl,rfl⟩,rfl⟩
 .rintro⟨⟨h1,h2⟩,h3⟩;dsimp only at h1 h2 h3;subst h1 h2 h3;rfl
def rrF(k:Knw)(N:List Ntc)(bw ex:Bool)(m:Knw)(i:Nat):Fr:=[(1,.isl false false 11<|m.P.map Plc.enc),(2,.isl bw ex 8<|N.map Ntc.enc),(3,.ptr 0 0 0 1),(6,.ptr 1 0 0 1),(9,I i)]
def rrH(k:Knw):Hp:=[.row 2 [.agg [.isl false false 1<|k.D.map encS,.isl false false 3<|k.E.map Endz.enc]],.row 2 [.agg [.isl false false 1 [],.isl false false 3 []]]]
def ZVJ(k:Knw)(hk:KnS k)(bw ex:Bool)(N:List Ntc)(hN:∀n∈N,NtS n)(hl:N.length<=1000):
 pfn rE 10 [ftA false false k.D k.E,.isl false false 11<|k.P.map Plc.enc,.isl bw ex 8<|N.map Ntc.enc]=some (bif Zu (rpP k N) 0 N then rpV (kAt k N)else .tup [ftA false false [] [],.isl false false 11 [],I 11]):=by
 have hbS:∀n(K:List Str),Zd n (K.map encS)=true:=λn K=>ZN _<|Zw (λt=>rfl) K
 have hbE:∀n(K:List Endz),Zd n (K.map Endz.enc)=true:=λn K=>ZN _<|Zw (λt=>rfl) K
 have hbP:∀n(K:List Plc),Zd n (K.map Plc.enc)=true:=λn K=>ZN _<|Zw (λt=>rfl) K
 obtain⟨fr',h',L1,L2,L3⟩:=Jk (E:=rE) (live:=[1,2,3,6,9]) (b:=c10L0b) N (rpP k N) (λi=>rrF k N bw ex (kAt k<|N.take i) i)
  (λi=>rrH<|kAt k<|N.take i) 0 (λfr h=>get fr 1=.isl false false 11 ((kAt k N).P.map Plc.enc)/\get fr 3=.ptr 0 0 0 1/\get fr 6=.ptr 1 0 0 1/\get fr 7=.bot/\get fr 8=.bot/\h=rrH (kAt k N)) (λfr h=>get fr 6=.ptr 1 0 0 1/\get fr 7=.isl false false 11 []/\get fr 8=.int .i64 11/\get fr 1=.bot/\get fr 3=.bot/\∃m,h=rrH m) (λi=>rfl)
  (λi x hx hP=>by
   have hg:=Z6 (f:=Ntc.enc) hx;have hi':=Zh<|Z7 hx;have hw:=Zx (n:=i) (by have:=Z7 hx;omega)
   have hs:=ZMA k hx;have hz:=hN x<|ZWA hx;unfold rpP at hP;rw[ZSH,ZWn]at hP;rw[hs];generalize kAt k (N.take i)=m at hP⊢;have h1:=ZF5 false false false false (ZLl x).D m.D (ZLl x).E m.E hz.od hz.oe;have h2:=ZLv false false false false (ZLl x).P m.P hz.oa;rw[hP.1]at h1;rw[hP.2]at h2;simp only[ftA,ZLl]at h1 h2;simp only[Ntc.enc]at hg;refine⟨_,by simp only[go_sem,c10L0b,rrF,rrH,ZLm,hg,hi',hw,h1,h2,hbS,hbE,hbP,ZWo,ZWm];rfl,?_⟩
   simp only[go_sem,rrF,ZLm])
  (λi x hx hP=>by
   have hg:=Z6 (f:=Ntc.enc) hx;have hi':=Zh<|Z7 hx;have hz:=hN x<|ZWA hx;unfold rpP at hP;rw[ZSH]at hP;generalize kAt k (N.take i)=m at hP⊢;have h1:=ZF5 false false false false (ZLl x).D m.D (ZLl x).E m.E hz.od hz.oe;have h2:=ZLv false false false false (ZLl x).P m.P hz.oa;simp only[Ntc.enc]at hg;cases c1:HL (ZLl x).D m.D (ZLl x).E m.E with
   |false=>
    rw[c1]at h1;simp only[ftA,ZLl]at h1 h2;refine⟨_,_,by simp only[go_sem,c10L0b,rrF,rrH,hg,hi',h1,hbS,hbE,hbP,ZWq,ZWm];rfl,?_⟩
    simp only[go_sem];exact⟨trivial,trivial,trivial,trivial,trivial,m,rfl⟩
   |true=>
    rw[c1,ZWp]at hP;rw[c1]at h1;rw[hP]at h2;simp only[ftA,ZLl]at h1 h2;refine⟨_,_,by simp only[go_sem,c10L0b,rrF,rrH,hg,hi',h1,h2,hbS,hbE,hbP,ZWq,ZWo,ZWm];rfl,?_⟩
    simp only[go_sem];exact⟨trivial,trivial,trivial,trivial,trivial,m,rfl⟩)
  (⟨_,_,by simp only[go_sem,c10L0b,rrF,rrH,ZG,ZWm];rfl,by simp only[go_sem,ZWR],by simp only[go_sem],by simp only[go_sem],by simp only[go_sem],by simp only[go_sem],by rw[ZWR];rfl⟩)
 have L1':Zg rE [1,2,3,6,9] c10L0b (rrF k N bw ex k 0) (rrH k)=_:=L1;unfold ftA;rw[Z5 (f:=10) rfl rfl];simp only[rrF,rrH,Int.ofNat_zero,Int.natCast_zero,Int.cast_ofNat_Int]at L1';cases e:Zu (rpP k N) 0 N with
 |true=>
  obtain⟨q1,q3,q6,q7,q8,rfl⟩:=L2 e;rw[e]at L1';unfold rpV ftA;generalize kAt k N=m at*;simp only[rrH]at L1';simp only[go_sem,c10,c10L0,L1',q1,q3,q6,q7,q8,if_true,cond_true]
 |false=>
  obtain⟨q6,q7,q8,q1,q3,m,rfl⟩:=L3 e;rw[e]at L1';simp only[rrH]at L1';simp only[go_sem,c10,c10L0,L1',q1,q3,q6,q7,q8,hbS,hbE,hbP,ZWt,cond_false,ZX6]
def ZSI{x:Str}(h:ZU x=true):x.size<=1000000:=by
 unfold ZU at h;rw[ZWG,decide_eq_false_iff_not]at h;omega
def ZSJ{l:List Nm}(h:XQ l=true):∀n∈l,n.Lang.size<=1000000/\n.Text.size<=1000000:=by
 unfold XQ at h;rw[ZWn]at h;have hl:=of_decide_eq_true h.2;have ht:l.take 10=l:=ZWL<|by omega
 rw[ht]at h;intro n hn;have h1:=ZWF.1 h.1 n hn;unfold M1 at h1;simp only[ZX8,ZYc,ZWv,ZWn]at h1;exact⟨ZSI h1.1,ZSI h1.2⟩
def ZSK{s:Sta}(h:YQ s=true):StR s:=by
 have hz:=Kl s h;simp only[YQ,M3,ZWn,ZWG]at h;obtain⟨⟨_,_,_,_,_,d5,_⟩,e0,e1,_⟩:=h;have k5:=of_decide_eq_false d5;refine⟨hz.e,λx hx=>?_,λx hx=>?_,by omega⟩
 .have h1:=ZWF.1 e0 x hx;unfold WQ at h1;simp only[ZWn]at h1;exact ZSJ h1.2.1
 .have h1:=ZWF.1 e1 x hx;unfold WR at h1;simp only[ZWn]at h1;exact ZSJ h1.2.1
def ZVK{l:List Wch}(h:fwB l=true):l.length<=10/\∀w∈l,w.Id.size<=1000000/\w.Gc.size<=1000000:=by
 unfold fwB at h;rw[ZWn,Zda]at h;have hl:l.length<=10:=by have:=of_decide_eq_true h.2;omega
 refine⟨hl,λw hw=>?_⟩
 obtain⟨i,hi⟩:=ZXF hw;have h1:=h.1 i w<|by rw[ZWL hl];exact hi
 unfold wsB at h1;simp only[ZWG,ZXE,decide_eq_false_iff_not]at h1;omega
def ZVL{k:Knw}(h:k.D.length<=1000/\k.E.length<=1000/\k.P.length<=1000):KnS k:=⟨by omega,by omega,by omega⟩
def ZVM(a b:Sta)(l:List Wch)(fa:YQ a=true)(fb:YQ b=true)(fl:fwB l=true):
 ∃(M:List Ntc)(e:Int),M.length<=1000/\(∀n∈M,NtS n)/\pfn rE 7 [stA a,stA b,.isl false false 2<|l.map Wch.enc]=some (.tup [.isl false false 8<|M.map Ntc.enc,I e])/\pfn rE 8 [stA a,stA b,.isl false false 2<|l.map Wch.enc]=some (.tup [.isl false false 8<|M.map Ntc.enc,I e]):=by
 have ha:=ZLr fa;have hb:=ZLr fb;have Ra:=ZSK fa;have ZcM:=ZSK fb;obtain⟨hl,hw⟩:=ZVK fl;cases c1:Jx a&&(Jx b&&wpB l)with
 |false=>exact⟨[],1,ZWy _,λn hn=>(by cases hn),ZM5 a b ha.e hb.e false false l (by omega) c1,ZVH a b Ra ZcM false false l hw (by omega) c1⟩
 |true=>
  simp only[ZWn]at c1;obtain⟨Ka,hKa⟩:=ZLp a c1.1 ha;obtain⟨Kb,hKb⟩:=ZLp b c1.2.1 hb;refine⟨ZL6 Ka Kb l,0,ZXh (ZM3 Ka Kb l) (by omega),ZMz (λx=>(hKa x).1.sz)<|λx=>(hKb x).1.sz,?_,?_⟩
  .exact ZLk a b ha.e hb.e false false l c1.1 c1.2.1 c1.2.2 Ka Kb (λw _=>(hKa _).2.1) (λw _=>(hKb _).2.1)<|λw _=>(hKa _).1.sz
  .exact ZVI a b Ra ZcM false false l hw (by omega) c1.1 c1.2.1 c1.2.2 Ka Kb (λw _=>ZSG a c1.1 Ra ha (ZSj ((Zdb a).1 c1.1).1) w.Gc _ (hKa _).1) (λw _=>ZSG b c1.2.1 ZcM hb (ZSj ((Zdb b).1 c1.2.1).1) w.Gc _ (hKb _).1)<|λw _=>(hKa _).1.sz
def ZVN(k:Knw)(hk:KnS k)(N:List Ntc)(hN:∀n∈N,NtS n)(hl:N.length<=1000):
 ∃(m:Knw)(e:Int),KnS m/\pfn rE 9 [ftA false false k.D k.E,.isl false false 11<|k.P.map Plc.enc,.isl false false 8<|N.map Ntc.enc]=some (.tup [ftA false false m.D m.E,.isl false false 11<|m.P.map Plc.enc,I e])/\pfn rE 10 [ftA false false k.D k.E,.isl false false 11<|k.P.map Plc.enc,.isl false false 8<|N.map Ntc.enc]=some (.tup [ftA false false m.D m.E,.isl false false 11<|m.P.map Plc.enc,I e]):=by
 have h1:=ZM7 k hk false false N hN hl;have h2:=ZVJ k hk false false N hN hl;cases c:Zu (rpP k N) 0 N with
 |true=>rw[c]at h1 h2;exact⟨kAt k N,0,ZLA hk hN,h1,h2⟩
 |false=>rw[c]at h1 h2;exact⟨⟨[],[],[]⟩,11,⟨ZWy _,ZWy _,ZWy _⟩,h1,h2⟩
def shB(k:Knw)(N:List Ntc):Bool:=decide ((k.D.length:Int)<=20)&&(decide ((k.E.length:Int)<=20)&&decide ((N.length:Int)<=10))
def ZVO(k:Knw)(bw ex:Bool)(N:List Ntc):pfn rE 6 [ftA false false k.D k.E,.isl bw ex 8<|N.map Ntc.enc]=some (.bool<|shB k N):=by
 rw[Z5 (f:=6) rfl rfl];unfold shB ftA;cases c1:decide ((k.D.length:Int)<=20)with
 |false=>simp only[go_sem,c6,ZWm,c1,ZWr]
 |true=>
 cases c2:decide ((k.E.length:Int)<=20)with
 |false=>simp only[go_sem,c6,ZWm,c1,c2,ZWr,ZWw]
 |true=>simp only[go_sem,c6,ZWm,c1,c2,ZWp]
def ZCp(hup:pfn rE 4 []=some (.bool true))(a b:Sta)(l:List Wch)(k:Knw)(N:List Ntc)(hN:∀n∈N,NtS n):pfn rE 3 [stA a,stA b,.isl false false 2<|l.map Wch.enc,ftA false false k.D k.E,.isl false false 11<|k.P.map Plc.enc,.isl false false 8<|N.map Ntc.enc]=some (.bool true):=by
 have hf:=ZMw a b false false l;have hs:=ZVO k false false N;cases c0:YQ a&&(YQ b&&fwB l)with
 |false=>
  rw[c0]at hf;unfold ftA;rw[Z5 (f:=3) rfl rfl];simp only[go_sem,c3,hf,hup,ZWq]
 |true=>
 rw[c0]at hf;cases c1:shB k N with
 |false=>
  rw[c1]at hs;unfold ftA at hs⊢;rw[Z5 (f:=3) rfl rfl];simp only[go_sem,c3,hf,hs,hup,ZWq,ZWo]
 |true=>
 rw[c1]at hs;cases c2:decide ((k.P.length:Int)>20)with
 |true=>
  unfold ftA at hs⊢;rw[Z5 (f:=3) rfl rfl];simp only[go_sem,c3,hf,hs,hup,c2,ZWm,ZWo]
 |false=>
 simp only[ZWn]at c0;obtain⟨fa,fb,fl⟩:=c0;unfold shB at c1;simp only[ZWn,decide_eq_true_eq]at c1;have c2':=of_decide_eq_false c2;have hk:KnS k:=ZVL ⟨by omega,by omega,by omega⟩
 obtain⟨M,e,m1,m2,m3,m4⟩:=ZVM a b l fa fb fl;obtain⟨m,g,g1,g2,g3⟩:=ZVN k hk N hN<|by omega
 have s1:=ZNA false false false false M m1 m2;have s2:=ZF5 false false false false m.D m.D m.E m.E g1.d g1.e;have s3:=ZLv false false false false m.P m.P g1.p;rw[ZIe]at s2;rw[(ZLj<|λx y=>Zwt).2 rfl]at s3
 have h2:∀n:Int,(n==n)=true:=λn=>by simp
 unfold ftA at*;rw[Z5 (f:=3) rfl rfl];simp only[go_sem,c3,hf,hs,hup,c2,m3,m4,g2,g3,s1,s2,s3,h2,ZWm,ZWo]
end Go.AM
