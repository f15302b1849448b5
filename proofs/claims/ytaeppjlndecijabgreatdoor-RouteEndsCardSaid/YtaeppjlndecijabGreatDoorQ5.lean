/- The contracts of the library functions that the program calls, as summaries of the abstract machine. No condition. -/
import Derived.Test.YtaeppjlndecijabGreatDoorQ3
import Derived.Shelf.SlicesE.Clone
import Derived.Lib.Bytealg
import Derived.Lib.Atoi
import Derived.Lib.IndexAny
import Derived.Sort.Row
import Derived.Sort.Grow
import Derived.Sort.EncStr
import Derived.Sort.Walk0
import Derived.Lib.SlicesCompact
import Derived.Lib.Split
import Derived.Lib.SplitLaws
import Derived.Lib.IndexBytes
import Derived.Shelf.Strings.Split
import Derived.Shelf.Strings.IndexAnyAll
import Derived.Shelf.Small.Utf8
import Derived.Laws.RangeAny
import Derived.Laws.Runes
import Derived.Scope
import Derived.Shelf.RegionOpenPlain
import Derived.Deep.Draws
import Derived.Shelf.GgSortFunc.InsertionK
import Derived.Shelf.SlSortCmp.InsertionK
import Derived.Shelf.SlSortCmp.Whole1
import Derived.Shelf.SlIterI.Nil
set_option linter.unusedVariables false
set_option linter.defProp false
set_option linter.unusedSimpArgs false
set_option linter.unusedSectionVars false
open Nat (reduceAdd reduceSub reduceMul reduceLT reduceLeDiff)
namespace Go.AM
open Go
variable {P:Program} {E:Env} {T:Ty} {X:Xt} {w w':World} {h:Hp}
def Ua(a:Go.RowKit.Below w.heap.size w w'):Step T w T w' where
 os:=a.os
 tape:=a.tape
 output:=a.output
 size:=a.size
 le _ c hc:=⟨c,hc,.refl c⟩
 keep b hl _:=a.block b hl
 rng _ hr:=.inl hr
 drawn hd:=hd.elim
def LV(h:Hp)(o:AObj):setH h h.length o=h++[o]:=by
 induction h with
 |nil=>rfl
 |cons x r a=>simp only[ZXw,GN,a];rfl
def Ub(c:Ctx E T X h w)(f:Go.RowKit.Below w.heap.size w w'){es:List AV}{sz:Nat}{e:TypeId}{news:List Value}{v':Value}(B:0<sz)(l:∀y∈es,y.cells.length=sz)(G:Rs T X w (flat es) news)
 (p:w'.ownsRow w.heap.size e sz v' es.length news):Yq T X w (h++[.row sz es]) (.sl h.length es.length 0 es.length false) v' w':=by
 have m:=c.m;have C:T h.length=none:=JR m<|.inl<|by simp
 have o:Step T w T w':=Ua f;have J:M T X h w':=Xr m o<|λr q=>f.block r<|m.lt r q
 have⟨D,i⟩:=p;rcases i with⟨rfl,H⟩|⟨g,cap,cur,rfl,hg,hrow,hncap,hmax,hcur,htake⟩
 .have N:es=[]:=List.length_eq_zero_iff.1 H;subst N;have a:Step T w' (upd T h.length<|.row sz 0 none 0 0) w':={
   os:=rfl,tape:=rfl,output:=rfl,size:=ZXh _
   le:=λb c' k=>by
    by_cases d:b=h.length
    .subst d;rw[C]at k;cases k
    .exact⟨c',by rw[upd_ne _ _ d];exact k,.refl c'⟩
   keep:=λ_ _ _=>rfl
   rng:=λr⟨b,c',h1,h2⟩=>by
    by_cases d:b=h.length
    .subst d;rw[upd_same]at h1;cases h1;cases h2
    .rw[upd_ne _ _ d]at h1;exact .inl ⟨b,c',h1,h2⟩
   drawn:=λt=>t.elim}
  refine⟨upd T h.length<|.row sz 0 none 0 0,o.trans a,?_,?_⟩
  .rw[<-LV];refine WZ J h.length _ _ (ZXh _) a (λ_ _ _ _ _ _=>rfl) (λr q=>by cases q) ?_
   exact⟨rfl,rfl,B,ZXh _,rfl⟩
  .exact⟨⟨_,_,_,rfl⟩,sz,0,none,0,0,upd_same _ _ _,ZXh _,ZXh _,λ_=>⟨0,ZXh _,ZXh _,λA=>by simp at A,.inr ⟨rfl,none,rfl,λ_=>rfl⟩⟩⟩
 .have x:g<w'.heap.size:=(ZYd.1 hrow).1;have a:Step T w (upd T h.length<|.row sz es.length (some g) cap 0) w':={
   os:=f.os,tape:=f.tape,output:=f.output,size:=f.size
   le:=λb c' k=>by
    by_cases d:b=h.length
    .subst d;rw[C]at k;cases k
    .exact⟨c',by rw[upd_ne _ _ d];exact k,.refl c'⟩
   keep:=λb D _=>f.block b D
   rng:=λr⟨b,c',h1,h2⟩=>by
    by_cases d:b=h.length
    .subst d;rw[upd_same]at h1;cases h1;cases h2;exact .inr hg
    .rw[upd_ne _ _ d]at h1;exact .inl ⟨b,c',h1,h2⟩
   drawn:=λt=>t.elim}
  have n:=Yb a _ _ G;have v:∀(j:Nat)(u:Value),news[j]?=some u->World.at w' g (0+j)=some u:=λj u s=>by
   have O:j<news.length:=(ZXu.1 s).1;rw[ZXA];have h2:cur[j]?=some u:=by
    rw[<-htake]at s;rw[ZYK<|by omega]at s
    simpa using s
   simp only[World.at,World.cell?,hrow];have K:cur[j]?=some u:=h2;simpa using K
  refine⟨upd T h.length<|.row sz es.length (some g) cap 0,a,?_,?_⟩
  .rw[<-LV];refine WZ m h.length _ _ (ZXh _) a (λz c' F _ h1 h2=>f.block F<|m.lt F ⟨z,c',h1,h2⟩) (λr q=>?_) ?_
   .cases q;exact⟨x,λL=>by have:=c.hX _ L;omega,λz c' _ h1 h2=>by have:=m.lt g ⟨z,c',h1,h2⟩;omega⟩
   .exact⟨rfl,rfl,B,by rw[ZXA];exact hncap,cur,e,hrow,hcur,Wq l<|Xs n<|by simpa using v⟩
  .exact⟨⟨_,_,_,rfl⟩,sz,es.length,some g,cap,0,upd_same _ _ _,ZXh _,by omega,λ_=>⟨cap,hncap,by omega,λA=>by simp at A,.inl ⟨g,rfl,by rw[ZYY]⟩⟩⟩
def Uc{x:AV}{a:Array Value}(c:Rs T X w [x] a.toList):∃v,a = #[v]/\R T X w x v:=by
 have⟨v,d,h1,h2,e⟩:=c;have b:d=[]:=e;subst b;exact⟨v,by rw[<-ZZF (xs:=a),h1],h2⟩
def RN{x y:AV}{a:Array Value}(e:Rs T X w [x,y] a.toList):∃v u,a = #[v,u]/\R T X w x v/\R T X w y u:=by
 have⟨v,h,h1,h2,u,d,f,g,c⟩:=e;have b:d=[]:=c;subst b f;exact⟨v,u,by rw[<-ZZF (xs:=a),h1],h2,g⟩
end Go.AM
namespace Go.AM
open Go
variable {P:Program} {E:Env} {T:Ty} {X:Xt} {w w':World} {h:Hp}
def RO(c:Ctx E T X h w)(a:Go.RowKit.Below w.heap.size w w'){v:AV}{rv:Value}(b:R T X w' v rv):Yq T X w h v rv w':=
 ⟨T,Ua a,Xr c.m (Ua a)<|λr d=>a.block r<|c.m.lt r d,b⟩
def LX{p:UInt8->Bool}{F:List UInt8->Int}(a:∀l,-1<=F l)(c:F []=-1)(h1:∀b l,F (b::l)=if p b=true then 0 else if F l==-1 then -1 else F l+1):
 ∀(l:List UInt8)(i:Int),Yc p l i=if F l==-1 then -1 else F l+i
 |[],i=>by grind [Yc]
 |b::l,i=>by
  unfold Yc;rw[h1];cases d:p b with
  |true=>simp
  |false=>
   rw[cond_false,LX a c h1 l<|i+1]
   grind
def LY{p:UInt8->Bool}{F:List UInt8->Int}(a:∀l,-1<=F l)(c:F []=-1)(h1:∀b l,F (b::l)=if p b=true then 0 else if F l==-1 then -1 else F l+1)(l:List UInt8):Yc p l 0=F l:=by
 rw[LX a c h1]
 grind
def EK{f:Nat}(a:∀args w,(callFunc f args).run P w=.ok (.enter f args) w)
 (d:∀(s:ByteArray)(c:Int)(w:World),Calls P f #[.string s,.int .u8 c] w λe w'=>e=.returned (.int .i64<|Go.Lib.indexByte s.data.toList c.toNat.toUInt8)/\w'=w):Qn P E f U9:=by
 intro args h v h' g T X w k _ c r;unfold U9 at g;split at g
 .rename_i s n;cases m:decide (0<=n)&&decide (n<256)with
  |false=>grind
  |true=>
   rw[m]at g;cases g;simp[ZXf]at m;obtain⟨p,q,rfl,t,o⟩:=RN r;have i:p=.string s:=t;have j:q=.int .u8 n:=o;subst i j;refine .inr<|.inl ⟨f,_,a _ _,(d s n w).mono ?_⟩;rintro e w' ⟨rfl,rfl⟩;refine⟨_,rfl,RO c (.refl _ _) ?_⟩;have e:Yc (λx=>(x.toNat:Int)==n) s.data.toList 0=Go.Lib.indexByte s.data.toList n.toNat.toUInt8:=by
    refine LY (F:=λl=>Go.Lib.indexByte l n.toNat.toUInt8) (λl=>Go.Lib.indexByte_ge l _) rfl (λb l=>?_) _
    grind [UInt8.toNat_ofNat',UInt8.toNat_inj,Go.Lib.indexByte]
   rw[e];rfl
 grind
end Go.AM
namespace Go.AM
open Go
variable {P:Program} {E:Env} {T:Ty} {X:Xt} {w w':World} {h:Hp}
def LZ:∀(l:List UInt8)(a:Nat),l.all W6=true->∃m,Go.Lib.decFrom a l=some m/\(m:Int)=J4 l a
 |[],a,_=>⟨a,rfl,rfl⟩
 |b::r,a,h=>by
  rw[ZYi,ZXf]at h;have⟨h1,h2⟩:=h;simp[W6,decide_eq_true_eq]at h1;have⟨m,d,c⟩:=LZ r (a*10+(b.toNat-48)) h2;refine⟨m,?_,?_⟩
  .simp_all[Go.Lib.decFrom,Go.Lib.digitVal]
  grind [J4]
def EL{l:List UInt8}(a:l≠[])(h:l.all W6=true):Go.Lib.atoi l=some (J4 l 0):=by
 cases l with
 |nil=>grind
 |cons b r=>
  have⟨m,h1,h2⟩:=LZ (b::r) 0 h;rw[ZYi,ZXf]at h;have c:=h.1;simp[W6,decide_eq_true_eq]at c;unfold Go.Lib.atoi;have f:(b==45)=false:=by
   have:b≠45:=λe=>by simp_all
   grind
  have d:(b==43)=false:=by
   have:b≠43:=λe=>by simp_all
   grind
  simp_all[Go.Lib.decNat]
def EM{f:Nat}(a:∀args w,(callFunc f args).run P w=.ok (.enter f args) w)
 (b:∀(s:ByteArray)(n:Int)(w:World),s.size<=18->Go.Lib.atoi s.data.toList=some n->Calls P f #[.string s] w λe w'=>e=.returned (.tuple #[.int .i64 n,.nilIface])/\Go.RowKit.Below w.heap.size w w'):Qn P E f J5:=by
 intro args h v h' d T X w j _ c l;unfold J5 at d;split at d
 .rename_i s;cases g:s.data.toList.all W6&&(!s.data.toList.isEmpty&&Nat.ble s.size 18)with
  |false=>grind
  |true=>
   rw[g]at d;cases d;simp only[ZXf]at g;have⟨o,q,p⟩:=g;obtain⟨k,rfl,m⟩:=Uc l;have i:k=.string s:=m;subst i;refine .inr<|.inl ⟨f,_,a _ _,(b s (J4 s.data.toList 0) w (ZXL p)<|EL (by grind) o).mono ?_⟩
   rintro e w' ⟨rfl,hb⟩;exact⟨_,rfl,RO c hb ⟨_,rfl,_,_,rfl,rfl,_,_,rfl,rfl,rfl⟩⟩
 grind
def EN{f:Nat}(d:∀args w,(callFunc f args).run P w=.ok (.enter f args) w)
 (g:∀(s c:ByteArray)(w:World),s.size<4294967281->c.size=2->(∀(j:Nat)b,c.data.toList[j]?=some b->b.toNat<128)->Calls P f #[.string s,.string c] w λe w'=>e=.returned (.int .i64<|Go.Lib.indexAny s.data.toList c.data.toList)/\Go.RowKit.Below w.heap.size w w'):Qn P E f J6:=by
 intro args h v h' i T X w p _ c y;unfold J6 at i;split at i
 .rename_i s a;cases k:Nat.blt s.size 4294967281&&(Nat.beq a.size 2&&a.data.toList.all (λb=>Nat.blt b.toNat 128))with
  |false=>grind
  |true=>
   rw[k]at i;cases i;simp only[ZXf]at k;have⟨B,r,q⟩:=k;obtain⟨u,z,rfl,A,t⟩:=RN y;have m:u=.string s:=A;have o:z=.string a:=t;subst m o;rw[ZXs]at q;refine .inr<|.inl ⟨f,_,d _ _,(g s a w (ZXL B) (ZYQ r)<|λj b n=>ZXL<|q b<|ZXp n).mono ?_⟩
   rintro e w' ⟨rfl,n⟩;refine⟨_,rfl,RO c n ?_⟩;have e:Yc (λx=>a.data.toList.any (·==x)) s.data.toList 0=Go.Lib.indexAny s.data.toList a.data.toList:=by
    refine LY (F:=λl=>Go.Lib.indexAny l a.data.toList) (λl=>Go.Lib.indexAny_ge _ l) rfl (λb l=>?_) _
    grind [Go.Lib.indexAny]
   rw[e];rfl
 grind
end Go.AM
namespace Go.AM
open Go Go.Sort Go.Proofs
variable {P:Program} {E:Env} {T:Ty} {X:Xt} {w w':World} {h:Hp}
def bytesOf:AV->List UInt8
 | .str s=>s.data.toList
 |_=>[]
def D0{es:List AV}(h:es.all WB=true):es=(es.map bytesOf).map Qd:=by
 induction es with
 |nil=>rfl
 |cons a r b=>
  rw[ZYi,ZXf]at h;rw[ZXn,ZXn,<-b h.2];cases a<;>simp[WB]at h
  simp[Qd,bytesOf]
def RP(b:List<|List UInt8):flat (b.map Qd)=b.map Qd:=by
 induction b with
 |nil=>rfl
 |cons a r c=>rw[ZXn,VH,c];rfl
def RQ{b:List (List UInt8)}{us:List Value}:Rs T X w (b.map Qd) us↔us=b.map encStr:=by
 induction b generalizing us with
 |nil=>exact Iff.rfl
 |cons a r d=>
  constructor
  .rintro⟨v,e,rfl,h1,h2⟩;have c:v=.string ⟨a.toArray⟩:=h1
   grind
  .rintro rfl;exact⟨_,_,rfl,rfl,d.2 rfl⟩
def D1{r C B:Nat}{cs:Array Value}{el:TypeId}{a:List (List UInt8)}(c:w.heap[r]?=some (.cells cs el (0,0)))(f:cs.size=C*1)(e:B+a.length<=C)(d:ZA T X w 1 r (a.map Qd)<|B*1):
 Holds encStr w r B a.toArray:=by
 have⟨g,us,b,h1,i,h2,k⟩:=HZ d c f<|by grind
 rw[RP,RQ]at h2;intro j h;have l:cs[B+j]?=some (encStr a.toArray[j]!):=by
  have:cs.toList[B+j]?=some (encStr a[j]):=by
   grind
  grind
 grind [World.cell?,World.frozen?]
def EO(w:World)(r B:Nat)(d:Array<|List UInt8){cs:Array Value}{el:TypeId}(a:w.heap[r]?=some (.cells cs el (0,0))):
 (putRow encStr w r B d).heap[r]?=some (.cells (putCells encStr B d cs) el (0,0)):=by
 grind [putRow,mapBlock,onCells]
def EP(w:World)(r B:Nat)(d:Array<|List UInt8){x:Nat}(a:x≠r):(putRow encStr w r B d).heap[x]?=w.heap[x]?:=by
 simp[putRow,mapBlock,ZZG,Ne.symm a]
def EQ(d:Array<|List UInt8)(cs:Array Value){j B:Nat}(a:j<d.size)(b:B+j<cs.size):(putCells encStr B d cs)[B+j]?=some (encStr d[j]!):=by
 grind [putCells]
theorem ER(d:Array<|List UInt8)(cs:Array Value){B:Nat}:(putCells encStr B d cs).size=cs.size:=by simp[putCells]
def D2(m:M T X h w){b r C B:Nat}{cs:Array Value}{el:TypeId}{f tt:List (List UInt8)}(A:h[b]?=some (.row 1<|f.map Qd))(v:T b=some (.row 1 f.length (some r) C B))
 (E:w.heap[r]?=some (.cells cs el (0,0))) (G:cs.size=C*1) (t:B+f.length<=C) (y:tt.length=f.length) (n:Nat) (os:Array Obj):
 Step T w T (grow (putRow encStr (Go.Sort.ahead w n) r B tt.toArray) os)/\M T X (setH h b<|.row 1<|tt.map Qd) (grow (putRow encStr (Go.Sort.ahead w n) r B tt.toArray) os):=by
 have s:(Go.Sort.ahead w n).heap[r]?=some (.cells cs el (0,0)):=E;have i:=EO (Go.Sort.ahead w n) r B tt.toArray s;have d:=KC v;have⟨g,q⟩:=JV (w':=putRow encStr (Go.Sort.ahead w n) r B tt.toArray) (c:=.row 1 f.length (some r) C B) (c':=.row 1 f.length (some r) C B) (o:=.row 1<|tt.map Qd) m v rfl rfl (.refl _) (KD A) rfl rfl rfl (by simp) (λx p=>EP (Go.Sort.ahead w n) r B _ p)
  (λg=>by
   refine⟨rfl,by grind,Nat.one_pos,t,_,el,i,by grind [ER],?_⟩
   refine Wq (λe D=>?_) ?_
   .obtain⟨l,_,rfl⟩:=ZXI.1 D;rfl
   .rw[RP];refine Xs (RQ.2 rfl) (λj u F=>?_)
    have H:j<tt.length:=by
     grind
    have h1:=EQ (B:=B) tt.toArray cs (j:=j) (by grind)<|by omega
    grind [World.at,World.cell?])
 rw[d]at g q;have a:Go.RowKit.Below (putRow encStr (Go.Sort.ahead w n) r B tt.toArray).heap.size (putRow encStr (Go.Sort.ahead w n) r B tt.toArray) (grow (putRow encStr (Go.Sort.ahead w n) r B tt.toArray) os):={
  os:=rfl,tape:=rfl,output:=rfl,size:=by simp_all
  block:=λk z=>by
   show(_++os)[k]?=_
   rw[ZYX z]}
 exact⟨g.trans<|Ua a,Xr q (Ua a)<|λx p=>a.block x<|q.lt x p⟩
end Go.AM
namespace Go.AM
open Go Go.Sort Go.Proofs
variable {P:Program} {E:Env} {T:Ty} {X:Xt} {w w':World} {h:Hp}
def leB(x y:List UInt8):Bool:=decide (x<=y)
def ES(a b:List UInt8):GP (Qd a) (Qd b)=leB a b:=by
 show(!WW _ _)=_
 grind [WW,leB,bytesLess_eq]
def WC(x:List UInt8):List (List UInt8)->List (List UInt8)
 |[]=>[x]
 |y::r=>bif leB x y then x::y::r else y::WC x r
def WD:List (List UInt8)->List (List UInt8)
 |[]=>[]
 |x::r=>WC x<|WD r
def D3(x:List UInt8):∀l:List<|List UInt8,Vb (Qd x) (l.map Qd)=(WC x l).map Qd
 |[]=>rfl
 |y::r=>by
  rw[ZXn];unfold Vb WC;rw[ES];cases leB x y with
  |true=>rfl
  |false=>simp_all[D3]
def D4:∀l:List<|List UInt8,Yk (l.map Qd)=(WD l).map Qd
 |[]=>rfl
 |x::r=>by
  rw[ZXn];unfold Yk WD;rw[D4 r,D3]
def RR(x:List UInt8):∀l,(WC x l).Perm (x::l)
 |[]=>.refl _
 |y::r=>by
  unfold WC;cases leB x y with
  |true=>exact .refl _
  |false=>exact((RR x r).cons y).trans (.swap x y r)
def RS:∀l,(WD l).Perm l
 |[]=>.refl _
 |x::r=>(RR x<|WD r).trans ((RS r).cons x)
theorem D5(a b c:List UInt8)(h1:leB a b=true)(h2:leB b c=true):leB a c=true:=by grind [leB]
theorem D6(a b:List UInt8):(leB a b||leB b a)=true:=by
 grind [leB]
theorem ET(a b:List UInt8)(h1:leB a b=true)(h2:leB b a=true):a=b:=
 List.le_antisymm (of_decide_eq_true h1) (of_decide_eq_true h2)
def D7(x:List UInt8):∀l,l.Pairwise (λa b=>leB a b=true)->(WC x l).Pairwise (λa b=>leB a b=true)
 |[],_=>by simp[WC]
 |y::r,hp=>by
  have d:=hp;rw[ZY6]at hp;have⟨h1,h2⟩:=hp;unfold WC;cases e:leB x y with
  |true=>
   rw[cond_true,ZY6];refine⟨λz c=>?_,d⟩
   all_goals grind [D5]
  |false=>
   rw[cond_false,ZY6];refine⟨λz c=>?_,D7 x r h2⟩
   rcases ZXF.1 ((RR x r).mem_iff.1 c)with rfl|c
   all_goals grind [D6]
def D8:∀l,(WD l).Pairwise (λa b=>leB a b=true)
 |[]=>.nil
 |x::r=>D7 x _<|D8 r
def D9:∀(l m:List<|List UInt8),l.Perm m->l.Pairwise (λa b=>leB a b=true)->m.Pairwise (λa b=>leB a b=true)->l=m
 |[],m,hp,_,_=>by simp_all
 |a::r,[],hp,_,_=>by simp_all
 |a::r,b::s,hp,h1,h2=>by
  rw[ZY6]at h1 h2;have c:a=b:=by
   grind [List.mem_cons_self,ET]
  subst c;rw[D9 r s hp.cons_inv h1.2 h2.2]
def EU(l:List<|List UInt8):WD l=l.mergeSort leB:=
 D9 _ _ ((RS l).trans (List.mergeSort_perm l leB).symm) (D8 l) (List.pairwise_mergeSort D5 D6 l)
def RT:∀{h:Hp}{b:Nat}{o:AObj},h[b]?=some o->setH h b o=h
 |[],b,o,hb=>by grind
 |x::r,0,o,hb=>by
  simp at hb;subst hb;rfl
 |x::r,b+1,o,hb=>by
  simp[ZYn]at hb;rw[GN,RT hb]
def Da(m:M T X h w){b g:Nat}{ex:Bool}{es:List AV}{v:Value}(j:h[b]?=some (.row 1 es))(i:es.length=g)(d:es.all WB=true)(t:R T X w (.sl b g 0 g ex) v):
 (∃r C B cap cs el,T b=some (.row 1 es.length (some r) C B)/\v=.slice (some ⟨r,B,none⟩) g cap/\g<=cap/\B+cap<=C/\w.heap[r]?=some (.cells cs el (0,0))/\cs.size=C*1/\B+es.length<=C/\ZA T X w 1 r es (B*1))\/
 (es=[]/\∃p,v=.slice p 0 0):=by
 have⟨r,C,B,c,A,u,s⟩:=XV m j;have⟨_,q,J,G,y,H,a,E,F,l⟩:=t;rw[c]at a;cases a;have⟨cap,f,z,D,k⟩:=l i.symm;rcases k with⟨n,rfl,rfl⟩|⟨rfl,p,rfl,q8⟩
 .have⟨cs,el,x,o,e⟩:=s;exact .inl ⟨n,C,B,cap,cs,el,c,by rw[ZXN,ZYb],f,by omega,x,o,u,e⟩
 grind
def EV{f:Nat}(t:∀args w,(callFunc f args).run P w=.ok (.enter f args) w)
 (o:∀(i off cap:Nat)(a:List<|List UInt8)(w:World),Holds encStr w i off a.toArray->i<w.heap.size->a.length<4611686018427387904->Calls P f #[.slice (some ⟨i,off,none⟩) a.length cap] w λe w'=>
  e=.returned (.tuple #[])/\∃n os,w'=grow (putRow encStr (Go.Sort.ahead w n) i off (a.mergeSort λx y=>decide (x<=y)).toArray) os)
 (j:∀(p:Option Addr)(cap:Nat)(w:World),Calls P f #[.slice p 0 cap] w λe w'=>e=.returned (.tuple #[])/\w'=w):Qn P E f J7:=by
 intro args h v h' l T X w D _ c U;unfold J7 at l;split at l
 .rename_i b g off u ex;split at l
  .rename_i sz es A;cases H:sz==1&&(es.length==g&&(off==0&&(u==g&&(es.all WB&&Nat.ble es.length 1000000))))with
   |false=>grind
   |true=>
    rw[H]at l;cases l;simp only[ZXf,beq_iff_eq]at H;obtain⟨rfl,z,rfl,rfl,M,S⟩:=H;have q:=ZXL S;obtain⟨W,rfl,V⟩:=Uc U;refine .inr<|.inl ⟨f,_,t _ _,?_⟩;rcases Da c.m A z M V with⟨r,C,B,cap,cs,el,J,rfl,K,_,G,L,k,s⟩|⟨rfl,p,rfl⟩
    .have d:=D0 M;generalize es.map bytesOf=a at d;subst d;rw[ZXg]at J k z q;subst z;have O:=D1 G L k s;refine(o r B cap a w O (ZYd.1 G).1 (by omega)).mono ?_
     rintro e w' ⟨rfl,n,os,rfl⟩;have F:(a.mergeSort λx y=>decide (x<=y))=WD a:=(EU a).symm
     rw[F];have⟨Q,R⟩:=D2 (tt:=WD a) c.m A J G L k (RS a).length_eq n os;rw[D4];exact⟨_,rfl,T,Q,R,#[],rfl,rfl⟩
    .refine(j p 0 w).mono ?_;rintro e w' ⟨rfl,rfl⟩;refine⟨_,rfl,T,.refl _ _,?_,#[],rfl,rfl⟩;have N:setH h b (.row 1<|Yk [])=h:=RT A;rw[N];exact c.m
  grind
 grind
end Go.AM
namespace Go.AM
open Go Go.Sort Go.Proofs
variable {P:Program} {E:Env} {T:Ty} {X:Xt} {w w':World} {h:Hp}
def EW(a b:List UInt8):sameKey (Qd a) (Qd b)=(a==b):=rfl
def Xa:List UInt8->List (List UInt8)->List (List UInt8)
 |_,[]=>[]
 |p,b::r=>bif b==p then Xa b r else b::Xa b r
def Db:∀(a:List UInt8)(r:List<|List UInt8),Ys ((a::r).map Qd)=(a::Xa a r).map Qd
 |a,[]=>rfl
 |a,b::r=>by
  have c:=Db b r;rw[ZXn];unfold Ys;rw[c,ZXn];dsimp only;rw[EW,show Xa a (b::r)=bif b==a then Xa b r else b::Xa b r from rfl]
  grind
def Dc(x:List UInt8):∀(p:List UInt8)(l:List<|List UInt8),Xa p (l++[x])=Xa p l++(bif x==(p::l).getLast (by simp)then []else [x])
 |p,[]=>by
  grind [Xa]
 |p,b::r=>by
  rw[ZXl];have a:=Dc x b r;unfold Xa;have e:(p::b::r).getLast (by simp)=(b::r).getLast (by simp):=List.getLast_cons<|by simp
  rw[a,e];cases b==p<;>rfl
def Dd(a:List UInt8)(b:List<|List UInt8):∀m,m<=b.length->Go.Lib.compactUpTo (a::b).toArray (m+1)=a::Xa a (b.take m)
 |0,_=>by
  grind [Go.Lib.compactUpTo_succ,Go.Lib.compactUpTo,Go.Lib.keeps,Xa]
 |m+1,hm=>by
  rw[Go.Lib.compactUpTo_succ,Dd a b m<|by omega]
  have c:m<b.length:=by omega
  rw[ZYR c,Dc];have e:(a::b).toArray[m+1]! = b[m]:=by grind
  have d:Go.Lib.keeps (a::b).toArray (m+1) = !(b[m]==(a::b.take m).getLast (by simp)):=by
   grind [Go.Lib.keeps]
  rw[d,e,ZXl];cases b[m]==(a::b.take m).getLast (by simp)<;>rfl
def EX(b:List<|List UInt8):Ys (b.map Qd)=(Go.Lib.compact b).map Qd:=by
 cases b with
 |nil=>rfl
 |cons a r=>
  rw[Db];unfold Go.Lib.compact;rw[ZXw,Dd a r r.length<|ZXh _,ZXG]
def EY{f:Nat}(x:∀args w,(callFunc f args).run P w=.ok (.enter f args) w)
 (s:∀(d off cap:Nat)(i:List<|List UInt8)(w:World),Holds encStr w d off i.toArray->i.length<=9223372036854775807->i.length<=cap->Calls P f #[.slice (some ⟨d,off,none⟩) i.length cap] w λe w'=>
  e=.returned (.slice (some ⟨d,off,none⟩) (Go.Lib.compact i).length cap)/\∃q,w'=putRow encStr (Go.Sort.ahead w q) d off (Go.Lib.compact i++List.replicate (i.length-(Go.Lib.compact i).length) []).toArray)
 (j:∀(p:Option Addr)(cap:Nat)(w:World),Calls P f #[.slice p 0 cap] w λe w'=>e=.returned (.slice p 0 cap)/\w'=w):Qn P E f J8:=by
 intro args h v h' l T X w G _ c hr;unfold J8 at l;split at l
 .rename_i b g off A ex;split at l
  .rename_i sz es F;cases L:sz==1&&(es.length==g&&(off==0&&(A==g&&(es.all WB&&Nat.ble es.length 1000000))))with
   |false=>grind
   |true=>
    rw[L]at l;cases l;simp only[ZXf,beq_iff_eq]at L;obtain⟨rfl,z,rfl,rfl,R,c6⟩:=L;have t:=ZXL c6;obtain⟨v0,rfl,O⟩:=Uc hr;refine .inr<|.inl ⟨f,_,x _ _,?_⟩;rcases Da c.m F z R O with⟨r,C,B,cap,cs,el,H,rfl,y,ab,N,Q,k,u⟩|⟨rfl,p,rfl⟩
    .have a:=D0 R;generalize es.map bytesOf=ss at a;subst a;rw[ZXg]at H k z t;subst z;have W:=D1 N Q k u;refine(s r B cap ss w W (by omega) y).mono ?_
     rintro e w' ⟨rfl,n,rfl⟩;rw[EX,ZXg];have aa:(Go.Lib.compact ss).length<=ss.length:=by
      grind [Go.Lib.compact,Go.Lib.compactUpTo]
     have K:((Go.Lib.compact ss)++List.replicate (ss.length-(Go.Lib.compact ss).length) []).length=ss.length:=by grind
     have⟨Y,m1⟩:=D2 (tt:=(Go.Lib.compact ss)++List.replicate (ss.length-(Go.Lib.compact ss).length) []) c.m F H N Q k K n #[];have D:(Go.Lib.compact ss).map Qd++List.replicate (ss.length-(Go.Lib.compact ss).length) (Qd [])=((Go.Lib.compact ss)++List.replicate (ss.length-(Go.Lib.compact ss).length) []).map Qd:=by simp
     rw[D];refine⟨_,rfl,T,Y,m1,⟨_,_,_,rfl⟩,1,ss.length,some r,C,B,H,ZXh _,by omega,λ_=>⟨cap,by omega,by omega,λJ=>by grind,.inl ⟨r,rfl,by rw[ZXN,ZYb]⟩⟩⟩
    .refine(j p 0 w).mono ?_;rintro e w' ⟨rfl,rfl⟩;have o:=z;rw[ZXK]at o;subst o;have D:setH h b (.row 1<|Ys []++List.replicate (0-(Ys []).length) (Qd []))=h:=RT F;refine⟨_,rfl,T,.refl _ _,by rw[D];exact c.m,?_⟩
     have⟨U,M,g2,r2,S,B2,Z,q2,q3,V⟩:=O;refine⟨U,M,g2,r2,S,B2,Z,q2,q3,λJ=>?_⟩
     have⟨cap,k1,k2,k3,k4⟩:=V J;exact⟨cap,k1,k2,λJ=>by grind,k4⟩
  grind
 grind
def EZ{f:Nat}{el:TypeId}(p:∀args w,(callFunc f args).run P w=.ok (.enter f args) w)
 (k:∀(b off n c:Nat)(news:List Value)(w:World),news.length=n*1->n<=maxLen->n*16<=140737488355328->(∀j u,news[j]?=some u->w.cell? ⟨b,off+j,none⟩=some u)->(∀u∈news,u.oneCell'=true)->
  Calls P f #[.slice (some ⟨b,off,none⟩) n c] w λe w'=>∃v',e=.returned v'/\w'.ownsRow w.heap.size el 1 v' n news/\v'≠.slice none 0 0/\Go.RowKit.Below w.heap.size w w')
 (i:∀(n c:Nat)(w:World),Calls P f #[.slice none n c] w λe w'=>e=.returned (.slice none 0 0)/\w'=w)
 (d:∀(a:Addr)(c:Nat)(w:World),Calls P f #[.slice (some a) 0 c] w λe w'=>∃v',e=.returned v'/\w'.ownsRow w.heap.size el 1 v' 0 []/\v'≠.slice none 0 0/\Go.RowKit.Below w.heap.size w w'):Qn P E f J9:=by
 intro args h v h' g T X w s _ c L;unfold J9 at g;split at g
 .rename_i x;cases y:Q2 h x with
  |none=>grind
  |some es=>
   rw[y]at g;dsimp only at g;cases t:Qq h 1 x&&(es.all (fits 1)&&Nat.ble es.length 1000000)with
   |false=>grind
   |true=>
    rw[t]at g;cases g;simp only[ZXf]at t;have⟨H,J,F⟩:=t;have z:es.length<=1000000:=ZXL F;obtain⟨O,rfl,M⟩:=Uc L;obtain⟨ad,cap,rfl,A,l⟩:=G6 c.m M y H;refine .inr<|.inl ⟨f,_,p _ _,?_⟩;rcases l with rfl|⟨r,o,rfl,hrr⟩
    .cases ad with
     |none=>
      refine(i _ cap w).mono ?_;rintro e w' ⟨rfl,rfl⟩;exact⟨_,rfl,Ub (e:=el) (news:=[]) c (.refl _ _) Nat.one_pos (λ_ K=>by grind) rfl ⟨rfl,.inl ⟨rfl,rfl⟩⟩⟩
     |some a=>
      refine(d a cap w).mono ?_;rintro e w' ⟨v',rfl,h1,_,h2⟩;exact⟨v',rfl,Ub (news:=[]) c h2 Nat.one_pos (λ_ K=>by grind) rfl h1⟩
    .have⟨N,Q,B⟩:=Kx hrr;have⟨us,D,q⟩:=Kv N;have G:=Qr q;refine(k r o es.length cap us w (by omega) (by grind [maxLen]) (by omega) (λj u C=>D j u C)<|R8 J us q).mono ?_
     rintro e w' ⟨v',rfl,h1,_,h2⟩;exact⟨v',rfl,Ub c h2 Nat.one_pos B q h1⟩
 grind
def ZPq{f sz bytes:Nat}{el:TypeId}(s:0<sz)(z:bytes<=1000)(q:∀args w,(callFunc f args).run P w=.ok (.enter f args) w)
 (k:∀(b off n c:Nat)(news:List Value)(w:World),news.length=n*sz->n<=maxLen->n*bytes<=140737488355328->(∀j u,news[j]?=some u->w.cell? ⟨b,off+j,none⟩=some u)->(∀u∈news,u.oneCell'=true)->
  Calls P f #[.slice (some ⟨b,off,none⟩) n c] w λe w'=>∃v',e=.returned v'/\w'.ownsRow w.heap.size el sz v' n news/\v'≠.slice none 0 0/\Go.RowKit.Below w.heap.size w w')
 (i:∀(n c:Nat)(w:World),Calls P f #[.slice none n c] w λe w'=>e=.returned (.slice none 0 0)/\w'=w)
 (d:∀(a:Addr)(c:Nat)(w:World),Calls P f #[.slice (some a) 0 c] w λe w'=>∃v',e=.returned v'/\w'.ownsRow w.heap.size el sz v' 0 []/\v'≠.slice none 0 0/\Go.RowKit.Below w.heap.size w w'):Qn P E f (ZOi sz):=by
 intro args h v h' g T X w y _ c N;unfold ZOi at g;split at g
 .rename_i x;cases B:Q2 h x with
  |none=>grind
  |some es=>
   rw[B]at g;dsimp only at g;cases A:Qq h sz x&&(es.all (fits sz)&&Nat.ble es.length 1000000)with
   |false=>grind
   |true=>
    rw[A]at g;cases g;simp only[ZXf]at A;have⟨K,L,H⟩:=A;have l:es.length<=1000000:=ZXL H;obtain⟨R,rfl,O⟩:=Uc N;obtain⟨ad,cap,rfl,C,p⟩:=G6 c.m O B K;refine .inr<|.inl ⟨f,_,q _ _,?_⟩;rcases p with rfl|⟨r,o,rfl,hrr⟩
    .cases ad with
     |none=>
      refine(i _ cap w).mono ?_;rintro e w' ⟨rfl,rfl⟩;exact⟨_,rfl,Ub (e:=el) (news:=[]) c (.refl _ _) s (λ_ M=>by grind) rfl ⟨by simp,.inl ⟨rfl,rfl⟩⟩⟩
     |some a=>
      refine(d a cap w).mono ?_;rintro e w' ⟨v',rfl,h1,_,h2⟩;exact⟨v',rfl,Ub (news:=[]) c h2 s (λ_ M=>by grind) rfl h1⟩
    .have⟨Q,S,D⟩:=Kx hrr;have⟨us,G,t⟩:=Kv Q;have J:=Qr t;refine(k r o es.length cap us w (by omega) (by grind [maxLen]) (by have:es.length*bytes<=1000000*1000:=ZZo l z;omega) (λj u F=>G j u F)<|R8 L us t).mono ?_
     rintro e w' ⟨v',rfl,h1,_,h2⟩;exact⟨v',rfl,Ub c h2 s D t h1⟩
 grind
end Go.AM
namespace Go.AM
open Go Go.Sort Go.Proofs
variable {P:Program} {E:Env} {T:Ty} {X:Xt} {w w':World} {h:Hp}
def I0(x:UInt8)(k:Nat)(r:List UInt8):Go.Lib.splitK [x] 0 (k+1) (x::r)=[]::Go.Lib.splitK [x] 0 k r:=by
 simp_all[Go.Lib.index_one,Go.Lib.indexByte,Go.Lib.splitK]
def I1(x c:UInt8)(f:(c==x)=false):∀(k:Nat)(r:List UInt8),Go.Lib.splitK [x] 0 k (c::r)=(match Go.Lib.splitK [x] 0 k r with|w::ws=>(c::w)::ws|[]=>[[c]])
 |0,r=>rfl
 |k+1,r=>by
  have d:Go.Lib.index (c::r) [x]=if Go.Lib.index r [x]==-1 then -1 else Go.Lib.index r [x]+1:=by
   grind [Go.Lib.index_one,Go.Lib.indexByte]
  have a:-1<=Go.Lib.index r [x]:=by simp_all[Go.Lib.index_one,Go.Lib.indexByte_ge]
  unfold Go.Lib.splitK;rw[d];cases h1:Go.Lib.index r [x]==-1 with
  |true=>simp
  |false=>
   have b:Go.Lib.index r [x]≠-1:=by grind
   obtain⟨i,e⟩:∃i:Nat,Go.Lib.index r [x]=(i:Int):=⟨(Go.Lib.index r [x]).toNat,by omega⟩
   have g:(((i:Int)+1)==-1)=false:=by
    grind
   simp_all
def RU(x:UInt8):∀(l:List UInt8)(k:Nat),l.count x<=k->Go.Lib.splitK [x] 0 k l=Q4 x l
 |[],0,_=>rfl
 |[],k+1,_=>by
  grind [Go.Lib.splitK,Go.Lib.index_one,Go.Lib.indexByte,Q4]
 |c::r,k,hk=>by
  unfold Q4;cases d:c==x with
  |true=>
   have e:c=x:=by simpa using d
   subst e;rw[List.count_cons_self]at hk;obtain⟨b,rfl⟩:∃b,k=b+1:=⟨k-1,by omega⟩
   rw[I0,cond_true,RU c r b<|by omega]
  |false=>
   have a:x≠c:=λe=>by subst e;simp at d
   rw[List.count_cons_of_ne<|by simpa using a.symm]at hk
   rw[I1 x c d,cond_false,RU x r k hk];rfl
def De(c:UInt8):∀l:List UInt8,(Q4 c l).length<=l.length+1
 |[]=>by simp[Q4]
 |x::r=>by
  have:=De c r;unfold Q4
  grind
theorem Df(x:UInt8):∀l:List UInt8,(Q4 x l).length=l.count x+1
 |[]=>rfl
 |c::r=>by
  have a:=Df x r;unfold Q4
  grind
def I2{f:Nat}{el:TypeId}(b:∀args w,(callFunc f args).run P w=.ok (.enter f args) w)
 (a:∀(s:ByteArray)(x:UInt8)(w:World),s.size<4294967281->Calls P f #[.string s,.string ⟨#[x]⟩] w λe w'=>
  e=.returned (.slice (some ⟨w.heap.size,0,none⟩) (Go.Lib.countB s ⟨#[x]⟩+1)<|Go.Lib.countB s ⟨#[x]⟩+1)/\w'=w.alloc (.cells ((Go.Lib.splitB ⟨#[x]⟩ 0 (Go.Lib.countB s ⟨#[x]⟩) s).map Value.string).toArray el)):Qn P E f Ja:=by
 intro args h v h' g T X w k _ c F;unfold Ja at g;split at g
 .rename_i s j;split at g
  .rename_i x A;cases t:Nat.blt s.size 4294967281 with
   |false=>grind
   |true=>
    rw[t]at g;have q:s.size<4294967281:=ZXL t;obtain⟨u,z,rfl,G,B⟩:=RN F;have p:u=.string s:=G;have r:z=.string j:=B;subst p r;have n:j=⟨#[x]⟩:=by
     cases j with
     |mk d=>simp[<-A]
    subst n;have i:Go.Lib.countB s ⟨#[x]⟩=s.data.toList.count x:=by
     have:Go.Lib.countB s ⟨#[x]⟩=Go.Lib.count s.data.toList [x]:=rfl;rw[this,Go.Lib.count_one]
    have o:=Go.Lib.splitB_data ⟨#[x]⟩ 0 (Go.Lib.countB s ⟨#[x]⟩) s;have H:Go.Lib.splitK [x] 0 (Go.Lib.countB s ⟨#[x]⟩) s.data.toList=Q4 x s.data.toList:=RU x _ _<|by grind
    have m:(Go.Lib.splitB ⟨#[x]⟩ 0 (Go.Lib.countB s ⟨#[x]⟩) s).map Value.string=(Q4 x s.data.toList).map encStr:=by
     grind [List.map_congr_left]
    have K:Go.Lib.countB s ⟨#[x]⟩+1=(Q4 x s.data.toList).length:=by
     grind [Df]
    refine .inr<|.inl ⟨f,_,b _ _,(a s x w q).mono ?_⟩;rintro e w' ⟨rfl,rfl⟩;have C:(Q4 x s.data.toList).length<=4294967281:=by
     have:=De x s.data.toList;have J:s.data.toList.length=s.size:=ZXZ;omega
    have:=Ub (v':=.slice (some ⟨w.heap.size,0,none⟩) (Q4 x s.data.toList).length (Q4 x s.data.toList).length) (es:=(Q4 x s.data.toList).map Qd) (news:=(Q4 x s.data.toList).map encStr) (sz:=1) (e:=el) c (Go.RowKit.Below.alloc (.refl _ _) (ZXh _)<|.cells ((Q4 x s.data.toList).map encStr).toArray el) Nat.one_pos (λy D=>by obtain⟨l,_,rfl⟩:=ZXI.1 D;rfl) (by rw[RP];exact RQ.2 rfl)
     ⟨by simp,.inr ⟨w.heap.size,(Q4 x s.data.toList).length,_,by simp,ZXh _,Wo w _,by simp,by grind [maxLen],by simp,(by simp_all[ZXz])⟩⟩
    grind
  grind
 grind
end Go.AM
namespace Go.Proofs
open Go.Shelf Go.RowKit Go.Lib
variable {P:Program} {ρ:Ren}
set_option maxHeartbeats 1000000 in
def Z9R(L:Lays.n146 P ρ)(d:(P.info?<|ρ.t 9).map (λi=>(i.zero,i.size,i.bytes))=some (some<|.string ByteArray.empty,1,16))(s:ByteArray)(x:UInt8)(w:World)(k:s.size<4294967281):
 Calls P (ρ.f 146) #[.string s,.string ⟨#[x]⟩] w λe w'=>
  e=.returned (.slice (some ⟨w.heap.size,0,none⟩) (Lib.countB s ⟨#[x]⟩+1)<|Lib.countB s ⟨#[x]⟩+1)/\w'=w.alloc (.cells ((Lib.splitB ⟨#[x]⟩ 0 (Lib.countB s ⟨#[x]⟩) s).map Value.string).toArray<|ρ.t 9):=by
 have h1:1<=(⟨#[x]⟩:ByteArray).size:=Nat.le_refl _;have o:=Lib.countB_le ⟨#[x]⟩ h1 s.size s<|Nat.le_refl _;have a:=Lib.splitB_all ⟨#[x]⟩ h1 0 _ s rfl;have b:(Lib.countB s ⟨#[x]⟩:Int)=Lib.countByte s.data.toList x:=by
  have:Lib.countB s ⟨#[x]⟩=Lib.count s.data.toList [x]:=rfl;rw[this,Lib.count_one];rfl
 have c:=Any.strings_genSplit_core (n:=-1) (N:=Lib.countB s ⟨#[x]⟩+1) {L with} d s ⟨#[x]⟩ 0 w k h1 (Nat.zero_le _)
  (λy c A=>by
   have h2:Lib.indexB y ⟨#[x]⟩=Lib.indexByte y.data.toList x:=by
    have:Lib.indexB y ⟨#[x]⟩=Lib.index y.data.toList [x]:=rfl;rw[this,Lib.index_one]
   rw[h2];exact Any.strings_Index_one {L with} y x _)
  (by rw[b];exact Any.strings_Count_one {L with} s x w) (by decide) (by decide) (by rw[if_pos<|by decide];omega)
 rw[Nat.add_sub_cancel,a]at c;have j:Lib.cellsOf (Lib.splitB ⟨#[x]⟩ 0 (Lib.countB s ⟨#[x]⟩) s) (Lib.countB s ⟨#[x]⟩+1)=((Lib.splitB ⟨#[x]⟩ 0 (Lib.countB s ⟨#[x]⟩) s).map Value.string).toArray:=by rw[<-a];exact Lib.cellsOf_full _
 rw[j]at c;have C:=L.t3;have r:=L.t9;have p:=L.t31;have z:=L.a3;have D:=L.a9;have l:=L.a31;have u:=L.z3;have B:=L.v3;have q:=L.z9;have v:=L.v9;have h:=L.z31;have m:=L.v31;have g:∀args w,(callFunc (ρ.f 221) args).run P w=.ok (.enter (ρ.f 221) args) w:=enters_of L.f221 (by kernel_rfl) rfl
 go_enter L.f146,Body.n146_ntmps ρ
 go_wp2_with (go_at_fn (ρ.f 221);refine c.mono ?_;rintro e w' ⟨rfl,hw⟩;rw[hw])
 go_ret
 exact⟨rfl,rfl⟩
end Go.Proofs
namespace Go.Proofs
open Go.Shelf Go.RowKit Go.Lib
variable {P:Program} {ρ:Ren}
def I3(r:Int)(f:128<=r):(∃a b:UInt8,Utf8.encode r=⟨#[a,b]⟩/\128<=b.toNat)\/(∃a b c:UInt8,Utf8.encode r=⟨#[a,b,c]⟩)\/∃a b c d:UInt8,Utf8.encode r=⟨#[a,b,c,d]⟩:=by
 unfold Utf8.encode;have e:128<=(if Utf8.valid r=true then r.toNat else Utf8.runeError):=by
  split
  .omega
  .decide
 generalize(if Utf8.valid r=true then r.toNat else Utf8.runeError)=c at e
 dsimp only;split
 .omega
 .split
  .grind [UInt8.toNat_ofNat']
  .split
   all_goals grind
set_option maxHeartbeats 4000000 in
set_option maxRecDepth 1000000 in
def I4(L:Lays.n152 P ρ)(l:P.follows .mixedOrders=true)(m i:UInt8)(C:m.toNat<128)(h1:i.toNat<128)(r:Int)(z:128<=r)(k:r≠65533)(w:World):
 Calls P (ρ.f 152) #[.string ⟨#[m,i]⟩,.int .i32 r] w λe w'=>e=.returned (.int .i64<|-1)/\∃q,w'=w.drewN q:=by
 have U:=L.t3;have S:=L.a3;have N:=L.z3;have T:=L.v3;have D:=L.t4;have F:=L.a4;have E:=L.z4;have W:=L.v4;have J:=L.t5;have M:=L.a5;have G:=L.z5;have Q:=L.v5;have H:=L.t9;have X:=L.a9;have B:=L.z9;have O:=L.v9;have y:=L.t21;have p:=L.a21;have A:=L.z21;have u:=L.v21;have o:∀args w,(callFunc (ρ.f 137) args).run P w=.ok (.enter (ρ.f 137) args) w:=enters_of L.f137 (by kernel_rfl) rfl
 have n:∀args w,(callFunc (ρ.f 119) args).run P w=.ok (.enter (ρ.f 119) args) w:=enters_of L.f119 (by kernel_rfl) rfl
 have g:∀w,(convert (ρ.t 21) (ρ.t 9)<|.int .i32 r).run P w=.ok (.string<|Utf8.encode r) w:=λw=>run_convert_int_string w _ _ _ _ (by rw[L.t21];rfl) L.t9
 have R:decide (r<128)=false:=decide_eq_false<|by omega
 have V:(r==65533)=false:=beq_eq_false_iff_ne.2 k;cases j:Lib.validRune r with
 |false=>
  go_enter L.f152,Body.n152_ntmps ρ
  go_wp2_with (go_at_fn (ρ.f 119);refine(Any.utf8_ValidRune {L with} _ _).mono ?_;rintro e w' ⟨rfl,hw⟩;rw[hw,j])
  go_ret
  exact⟨rfl,0,(World.drewN_zero _).symm⟩
 |true=>
  rcases I3 r z with⟨a,b,h,K⟩|⟨a,b,c,h⟩|⟨a,b,c,d,h⟩
  .rw[h]at g;have s:((i.toNat:Int) != (b.toNat:Int))=true:=bne_iff_ne.2 (by omega)
   have v:∀w,(Instr.index (ρ.t 9) (.string ⟨#[m,i]⟩)<|.int .i64 1).run P w=.ok (.int .u8 i.toNat) w:=λw=>by rw[run_index_string w _ _ _ _ L.t9];rfl
   have x:∀w,(Instr.index (ρ.t 9) (.string ⟨#[a,b]⟩)<|.int .i64 1).run P w=.ok (.int .u8 b.toNat) w:=λw=>by rw[run_index_string w _ _ _ _ L.t9];rfl
   go_enter L.f152,Body.n152_ntmps ρ
   go_wp2_with (go_at_fn (ρ.f 119);refine(Any.utf8_ValidRune {L with} _ _).mono ?_;rintro e w' ⟨rfl,hw⟩;rw[hw,j])
   refine wp_scope_straight ?_
   go_wp2_with fail
   refine wp_loop_rounds 1 ?_;rw[rounds_succ]
   go_wp2_with fail
   refine wp_scope_straight ?_
   go_wp2_with fail
   go_region_o
   all_goals go_wp2_with fail
   all_goals (go_region_with_o (go_at_fn (ρ.f 137);refine(Any.strings_IndexByte {L with} _ _ _).mono ?_;rintro e w' ⟨rfl,hw⟩;rw[hw]))
   all_goals (go_wp2_with fail)
   all_goals (repeat (simp only[Exit.noGoto];go_wp2_with fail))
   all_goals (go_ret;exact⟨rfl,2,rfl⟩)
  .rw[h]at g
   go_enter L.f152,Body.n152_ntmps ρ
   go_wp2_with (go_at_fn (ρ.f 119);refine(Any.utf8_ValidRune {L with} _ _).mono ?_;rintro e w' ⟨rfl,hw⟩;rw[hw,j])
   refine wp_scope_straight ?_
   go_wp2_with fail
   refine wp_loop_rounds 1 ?_;rw[rounds_succ]
   go_wp2_with fail
   simp only[Exit.noGoto]
   go_wp2_with fail
   go_ret
   exact⟨rfl,0,(World.drewN_zero _).symm⟩
  .rw[h]at g
   go_enter L.f152,Body.n152_ntmps ρ
   go_wp2_with (go_at_fn (ρ.f 119);refine(Any.utf8_ValidRune {L with} _ _).mono ?_;rintro e w' ⟨rfl,hw⟩;rw[hw,j])
   refine wp_scope_straight ?_
   go_wp2_with fail
   refine wp_loop_rounds 1 ?_;rw[rounds_succ]
   go_wp2_with fail
   simp only[Exit.noGoto]
   go_wp2_with fail
   go_ret
   exact⟨rfl,0,(World.drewN_zero _).symm⟩
end Go.Proofs
namespace Go.Proofs
open Go.Shelf Go.RowKit Go.Lib
variable {P:Program} {ρ:Ren}
set_option maxHeartbeats 4000000 in
set_option maxRecDepth 1000000 in
def I5(L:Lays.n152 P ρ)(b a:UInt8)(d:b.toNat<128)(h1:a.toNat<128)(w:World):
 Calls P (ρ.f 152) #[.string ⟨#[b,a]⟩,.int .i32 65533] w λe w'=>e=.returned (.int .i64<|-1)/\∃c,w'=w.iter ⟨#[b,a]⟩ c:=by
 have D:=L.t3;have A:=L.a3;have v:=L.z3;have C:=L.v3;have m:=L.t4;have n:=L.a4;have o:=L.z4;have E:=L.v4;have s:=L.t5;have u:=L.a5;have q:=L.z5;have y:=L.v5;have r:=L.t9;have F:=L.a9;have k:=L.z9;have x:=L.v9;have i:=L.t21;have g:=L.a21;have j:=L.z21;have h:=L.v21;have B:∀ty,(Instr.next (.pointer<|some ⟨w.heap.size,0,none⟩) true ty).run P (w.iter ⟨#[b,a]⟩ 0)=.ok (.tuple #[.bool true,.int .i64 0,.int .i32 b.toNat]) (w.iter ⟨#[b,a]⟩ 1):=λty=>run_next_ascii (P:=P) w ⟨#[b,a]⟩ 0 ty Nat.zero_lt_two d
 have z:∀ty,(Instr.next (.pointer<|some ⟨w.heap.size,0,none⟩) true ty).run P (w.iter ⟨#[b,a]⟩ 1)=.ok (.tuple #[.bool true,.int .i64 1,.int .i32 a.toNat]) (w.iter ⟨#[b,a]⟩ 2):=λty=>run_next_ascii (P:=P) w ⟨#[b,a]⟩ 1 ty Nat.one_lt_two h1
 have l:=λty=>run_next_end (P:=P) w ⟨#[b,a]⟩ 2 ty<|Nat.lt_irrefl 2
 have p:((b.toNat:Int)==65533)=false:=beq_eq_false_iff_ne.2<|by omega
 have t:((a.toNat:Int)==65533)=false:=beq_eq_false_iff_ne.2<|by omega
 go_enter L.f152,Body.n152_ntmps ρ
 go_wp2_with fail
 refine wp_loop_rounds 3 ?_;rw[rounds_succ]
 go_wp2_with fail
 rw[rounds_succ]
 go_wp2_with fail
 rw[rounds_succ]
 go_wp2_with fail
 go_ret
 exact⟨rfl,_,rfl⟩
def I6(L:Lays.n152 P ρ)(a:P.follows .mixedOrders=true)(c d:UInt8)(g:c.toNat<128)(h1:d.toNat<128)(r:Int)(h:128<=r)(w:World):
 Calls P (ρ.f 152) #[.string ⟨#[c,d]⟩,.int .i32 r] w λe w'=>e=.returned (.int .i64<|-1)/\Below w.heap.size w w':=by
 by_cases b:r=65533
 .subst b;refine(I5 L c d g h1 w).mono ?_;rintro e w' ⟨rfl,pos,rfl⟩;exact⟨rfl,(Below.refl _ w).alloc (Nat.le_refl _) _⟩
 .refine(I4 L a c d g h1 r h b w).mono ?_;rintro e w' ⟨rfl,q,rfl⟩;exact⟨rfl,⟨rfl,rfl,rfl,Nat.le_refl _,λ_ _=>rfl⟩⟩
theorem Dg{s:ByteArray}{j:Nat}{b:UInt8}(h:s.data.toList[j]?=some b):s.get! j=b:=by
 have⟨a,e⟩:=List.getElem?_eq_some_iff.1 h;have c:j<s.size:=by exact a
 simp_all[ByteArray.get!]
def I7(s:ByteArray)(a:Nat)(h:a<s.size)(c:128<=(s.get! a).toNat):
 a+(Utf8.decode s a).2<=s.size/\∀j,a<=j->j<a+(Utf8.decode s a).2->128<=(s.get! j).toNat:=by
 have b:¬(s.get! a).toNat<128:=by omega
 simp[Utf8.decode,if_false]
 grind
def WE(w:World)(b:Nat)(o:Obj):World:={w with heap:=w.heap.setIfInBounds b o}
def Dh(w:World)(b:Nat)(s:ByteArray)(a:Nat)(ty:TypeId)(c:w.heap[b]?=some (.stringIter s a))(h:a<s.size):
 (Instr.next (.pointer<|some ⟨b,0,none⟩) true ty).run P w =
  .ok (.tuple #[.bool true,.int .i64 a,.int .i32 (Utf8.decode s a).1]) (WE w b<|.stringIter s<|a+(Utf8.decode s a).2):=by
 simp_all[Instr.next,getObj,setObj,Sem.run,goInt,WE]
def I8(w:World)(b:Nat)(s:ByteArray)(a:Nat)(ty:TypeId)(c:w.heap[b]?=some (.stringIter s a))(h:¬a<s.size):
 (Instr.next (.pointer<|some ⟨b,0,none⟩) true ty).run P w=.ok (.tuple #[.bool false]) w:=by
 simp[Instr.next,getObj,Sem.run,c,h]
def RV{w a:World}{o g:Obj}(b:Below w.heap.size w a)(d:a.heap[w.heap.size]?=some g){w':World}(h:Below (WE a w.heap.size o).heap.size (WE a w.heap.size o) w'):
 Below w.heap.size w w'/\w'.heap[w.heap.size]?=some o:=by
 have f:(WE a w.heap.size o).heap.size=a.heap.size:=by simp[WE]
 have c:Below w.heap.size w (WE a w.heap.size o):=⟨b.os,b.tape,b.output,by grind,λk e=>by
  show(a.heap.setIfInBounds w.heap.size o)[k]?=_
  rw[Array.getElem?_setIfInBounds_ne<|by omega]
  exact b.block k e⟩
 refine⟨c.trans<|h.mono<|by grind,?_⟩
 rw[h.block _<|by grind]
 show(a.heap.setIfInBounds w.heap.size o)[w.heap.size]?=_
 grind
end Go.Proofs
namespace Go.Proofs
open Go.Shelf Go.RowKit Go.Lib
variable {P:Program} {ρ:Ren}
def I9{s:ByteArray}{a:List UInt8}{i k:Nat}(e:∀b∈a,b.toNat<128)(h:Lib.NoAny s.data.toList a i)(f:∀j,i<=j->j<i+k->128<=(s.get! j).toNat):Lib.NoAny s.data.toList a (i+k):=by
 intro j b g d;by_cases c:j<i
 .exact h j b c d
 grind [Dg]
set_option maxHeartbeats 8000000 in
set_option maxRecDepth 1000000 in
def Ia(L:Lays.n153 P ρ)(mixed:P.follows .mixedOrders=true)(s:ByteArray)(c0 c1:UInt8)(h0:c0.toNat<128)(h1:c1.toNat<128)(w:World)(h8:s.size<=8):
 Calls P (ρ.f 153) #[.string s,.string ⟨#[c0,c1]⟩] w λe w'=>e=.returned (.int .i64<|Lib.indexAny s.data.toList [c0,c1])/\Below w.heap.size w w':=by
 have hcs:∀b∈[c0,c1],b.toNat<128:=by
  intro b hb;simp only[List.mem_cons,List.not_mem_nil,or_false]at hb;rcases hb with rfl|rfl
  .exact h0
  .exact h1
 have HC:Aside (∀b∈[c0,c1],b.toNat<128):=hcs;clear hcs;have h8z:decide ((8:Int)<(s.size:Int))=false:=decide_eq_false<|by omega
 have t3:=L.t3;have a3:=L.a3;have z3:=L.z3;have v3:=L.v3;have t4:=L.t4;have a4:=L.a4;have z4:=L.z4;have v4:=L.v4;have t5:=L.t5;have a5:=L.a5;have z5:=L.z5;have v5:=L.v5;have t9:=L.t9;have a9:=L.a9;have z9:=L.z9;have v9:=L.v9;have t21:=L.t21;have a21:=L.a21;have z21:=L.z21;have v21:=L.v21;have e152:∀args w,(callFunc (ρ.f 152) args).run P w=.ok (.enter (ρ.f 152) args) w:=enters_of L.f152 (by kernel_rfl) rfl
 have e226:∀args w,(callFunc (ρ.f 226) args).run P w=.ok (.enter (ρ.f 226) args) w:=enters_of L.f226 (by kernel_rfl) rfl
 go_enter L.f153,Body.n153_ntmps ρ
 go_wp2_with (go_at_fn (ρ.f 226);refine(Any.strings_shouldUseASCIISet {L with} _ _).mono ?_;rintro e w' ⟨rfl,hw⟩;rw[hw,h8z])
 go_loopg [9,10] s.size (λg _ _ wx=>∃i:Nat,i+g=s.size/\Below w.heap.size w wx/\wx.heap[w.heap.size]?=some (.stringIter s i)/\Lib.NoAny s.data.toList [c0,c1] i)
 case atStart=>exact⟨0,by omega,(Below.refl _ w).alloc (Nat.le_refl _) _,World.iter_heap w s 0,Lib.NoAny.zero _ _⟩
 case round=>
  have⟨i,hig,hbl,hit,hno⟩:=hrel;have HN:Aside (Lib.NoAny s.data.toList [c0,c1] i):=hno;have HB:Aside (Below w.heap.size w wr):=hbl;clear hno hbl;cases gk with
  |zero=>
   obtain rfl:i=s.size:=by omega
   have hnx:=λty=>I8 (P:=P) wr w.heap.size s s.size ty hit<|Nat.lt_irrefl _
   have HI:Aside (wr.heap[w.heap.size]?=some (Obj.stringIter s s.size)):=hit;clear hit
   go_wp2
   go_ret
   exact⟨by rw[Lib.indexAny_none<|by rw[<-Lib.size_eq];exact HN.out];rfl,HB.out⟩
  |succ g=>
   have hi:i<s.size:=by omega
   cases hx:decide ((s[i]'hi).toNat<128)with
   |true=>
    have hx128:(s[i]'hi).toNat<128:=of_decide_eq_true hx;clear hx;obtain⟨x,hx⟩:∃x:UInt8,s[i]'hi=x:=⟨_,rfl⟩;have hxl:s.data.toList[i]?=some x:=by rw[<-hx];exact Lib.data_getElem? s i hi
    have hdc:=decode_ascii s i hi hx128;have hnx:=λty=>Dh (P:=P) wr w.heap.size s i ty hit hi
    rw[hdc,hx]at hnx;rw[hx]at hx128;have Hx:Aside (s.data.toList[i]?=some x):=hxl;have HI:Aside (wr.heap[w.heap.size]?=some (Obj.stringIter s i)):=hit;clear hit hxl hx hdc;have hcon:=Lib.contains_iff_indexByte [c0,c1] x;have hback:((x.toNat:Int)).toNat.toUInt8=x:=by simp
    obtain⟨wz,hwz⟩:∃wz,WE wr w.heap.size (.stringIter s<|i+1)=wz:=⟨_,rfl⟩;rw[show((x.toNat,1):Nat×Nat).2=1 from rfl,show((x.toNat,1):Nat×Nat).1=x.toNat from rfl]at hnx
    rw[hwz]at hnx;cases hin:[c0,c1].contains x
    .rw[hin]at hcon;have hlt:¬((0:Int)<=Lib.indexByte [c0,c1] x):=of_decide_eq_false hcon.symm;clear hcon
     go_wp2_with (go_at_fn (ρ.f 152);refine(Any.strings_IndexRune_ascii {L with} _ _ _ (by omega)<|by omega).mono ?_;rintro e w' ⟨rfl,hw⟩;rw[hw,hback])
     go_roundg g
     case measure=>omega
     case rel=>
      have hz:=RV (o:=Obj.stringIter s<|i+1) HB.out HI.out<|Below.refl _ _;rw[hwz]at hz;exact⟨i+1,by omega,hz.1,hz.2,HN.out.succ Hx.out hin⟩
    .rw[hin]at hcon;have hge:(0:Int)<=Lib.indexByte [c0,c1] x:=of_decide_eq_true hcon.symm;clear hcon
     go_wp2_with (go_at_fn (ρ.f 152);refine(Any.strings_IndexRune_ascii {L with} _ _ _ (by omega)<|by omega).mono ?_;rintro e w' ⟨rfl,hw⟩;rw[hw,hback])
     go_ret
     have hz:=RV (o:=Obj.stringIter s<|i+1) HB.out HI.out<|Below.refl _ _;rw[hwz]at hz;exact⟨by rw[Lib.indexAny_hit HN.out Hx.out hin];rfl,hz.1⟩
   |false=>
    have hx128:128<=(s[i]'hi).toNat:=Nat.not_lt.1<|of_decide_eq_false hx;have hgx:s.get! i=s[i]'hi:=Dg<|Lib.data_getElem? s i hi;have hdb:=I7 s i hi<|by rw[hgx];exact hx128
    have hdh:=decode_high s i hi hx128;have hdl:=decode_le s i;have hnx:=λty=>Dh (P:=P) wr w.heap.size s i ty hit hi
    obtain⟨r,k,hd⟩:∃r k,Utf8.decode s i=(r,k):=⟨_,_,rfl⟩;rw[hd]at hdb hdh hdl hnx;dsimp only at hdb hdh hdl hnx;have⟨hr,hk⟩:=hdh;have⟨hik,hby⟩:=hdb;have HI:Aside (wr.heap[w.heap.size]?=some (Obj.stringIter s i)):=hit;have HY:Aside (∀j,i<=j->j<i+k->128<=(s.get! j).toNat):=hby
    clear hit hx hd hgx hx128 hby
    obtain⟨wz,hwz⟩:∃wz,WE wr w.heap.size (.stringIter s<|i+k)=wz:=⟨_,rfl⟩;rw[hwz]at hnx
    go_wp2_with (go_at_fn (ρ.f 152);refine(I6 {L with} mixed c0 c1 h0 h1 _ (by omega) _).mono ?_;rintro e w' ⟨rfl,hw⟩)
    go_roundg (s.size-(i+k))
    case measure=>omega
    case rel=>
     rw[<-hwz]at hw;have hz:=RV (o:=Obj.stringIter s<|i+k) HB.out HI.out hw;exact⟨i+k,by omega,hz.1,hz.2,I9 HC.out HN.out HY.out⟩
def two_bytes{c:ByteArray}(h:c.size=2):∃e d,c=⟨#[e,d]⟩:=by
 have⟨⟨l⟩⟩:=c
 match l,h with
 |[a,b],_=>grind
def Z9S(L:Lays.n153 P ρ)(d:P.follows .mixedOrders=true)(a:(P.info?<|ρ.t 116).map (λi=>(i.zero,i.size))=some (some<|.agg<|Array.replicate 256<|.bool false,256))
 (s c:ByteArray) (w:World) (m:s.size<4294967281) (h2:c.size=2) (g:∀(j:Nat)b,c.data.toList[j]?=some b->b.toNat<128):
 Calls P (ρ.f 153) #[.string s,.string c] w λe w'=>e=.returned (.int .i64<|Lib.indexAny s.data.toList c.data.toList)/\Below w.heap.size w w':=by
 by_cases l:s.size<=8
 .obtain⟨h,k,rfl⟩:=two_bytes h2;exact Ia L d s h k (g 0 h rfl) (g 1 k rfl) w l
 .refine(Any.strings_IndexAny_long L (zero_of_info a).1 (zero_of_info a).2 s c w (by omega) (by omega) m (by omega) g).mono λe w'⟨h1,h3⟩=>⟨h1,?_⟩
  rw[h3];exact((Below.refl _ _).alloc (Nat.le_refl _) _).alloc (by simp) _
end Go.Proofs
namespace Go.AM
open Go Go.Sort Go.Proofs
variable {P:Program} {E:Env} {T:Ty} {X:Xt} {w w':World} {h:Hp}
def Zy5:∀{xs b:List AV}{us:List Value},Rs T X w (xs++b) us->Rs T X w xs (us.take xs.length)/\Rs T X w b (us.drop xs.length)
 |[],b,us,h=>⟨by simp[Rs],by grind⟩
 |a::xs,b,us,h=>by
  obtain⟨v,e,rfl,h1,h2⟩:=h;have⟨d,c⟩:=Zy5 h2;exact⟨⟨v,_,rfl,h1,d⟩,c⟩
def Zy6{sz:Nat}:∀{es:List AV}{us:List Value}{i:Nat}{e:AV},Rs T X w (flat es) us->(∀e∈es,e.cells.length=sz)->es[i]?=some e->Rs T X w e.cells ((us.drop<|i*sz).take sz)
 |[],us,i,e,_,_,hi=>by grind
 |a::r,us,i,e,h,hs,hi=>by
  have⟨h1,h2⟩:=Zy5 h;have b:=hs a<|ZXV ..;rw[b]at h1 h2;cases i with
  |zero=>
   simp[Option.some.injEq]at hi;subst hi;simpa using h1
  |succ i=>
   have:=Zy6 h2 (λe c=>hs e<|ZY2 _ c) hi
   rw[ZYu]at this;rw[ZYz,Nat.add_comm];exact this
theorem ZwS{enc:Nat->List Value}{k:Nat}(b:∀x,(enc x).length=k):∀(l:List Nat)(i j:Nat),i<l.length->j<k->(l.flatMap enc)[i*k+j]?=(enc<|l[i]!)[j]?
 |[],i,j,h,_=>by grind
 |a::r,0,j,_,hj=>by
  grind
 |a::r,i+1,j,h,hj=>by
  rw[ZZp,ZYl (by rw[b,ZYz];omega),b]
  have c:(i+1)*k+j-k=i*k+j:=by rw[ZYz];omega
  rw[c,ZwS b r i j (by simpa using h) hj]
  simp
theorem ZwT{enc:Nat->List Value}{k:Nat}(b:∀x,(enc x).length=k):∀l:List Nat,(l.flatMap enc).length=l.length*k
 |[]=>by simp
 |a::r=>by rw[ZZp,ZXy,b,ZwT b r,ZXw,ZYz];omega
def Zy7{enc:Nat->List Value}{k:Nat}(b:0<k)(a:∀x,(enc x).length=k)(d:Array Nat):flatK enc k d=(d.toList.flatMap enc).toArray:=by
 refine ext_get! (by rw[size_flatK];simp only[ZZC];rw[ZwT a];rfl)<|λt c=>?_
 grind [size_flatK,get_flatK,Nat.div_lt_of_lt_mul,Nat.mul_comm,Nat.mod_lt,ZwS,Nat.div_add_mod]
def ZzI(w:World)(r o:Nat)(d:Array Value){cs:Array Value}{el:TypeId}(a:w.heap[r]?=some (.cells cs el (0,0))):
 (putRow id w r o d).heap[r]?=some (.cells (putCells id o d cs) el (0,0)):=by
 grind [putRow,mapBlock,onCells]
def Zy8(w:World)(r o:Nat)(d:Array Value){x:Nat}(a:x≠r):(putRow id w r o d).heap[x]?=w.heap[x]?:=by
 simp[putRow,mapBlock,ZZG,Ne.symm a]
theorem ZzJ(d:Array Value)(cs:Array Value){j o:Nat}(a:j<d.size)(b:o+j<cs.size):(putCells id o d cs)[o+j]?=some d[j]!:=by
 grind [putCells]
theorem ZzK(d:Array Value)(cs:Array Value){o:Nat}:(putCells id o d cs).size=cs.size:=by simp[putCells]
def Zy9(w:World)(os:Array Obj):Go.RowKit.Below w.heap.size w (grow w os):={
 os:=rfl,tape:=rfl,output:=rfl,size:=by simp_all
 block:=λk a=>by
  show(_++os)[k]?=_
  rw[ZYX a]}
def ZzL(m:M T X h w){b r C B sz:Nat}{cs:Array Value}{el:TypeId}{es es':List AV}{vs:List Value}(D:h[b]?=some (.row sz es))(z:T b=some (.row sz es.length (some r) C B))(A:0<sz)
 (G:w.heap[r]?=some (.cells cs el (0,0))) (K:cs.size=C*sz) (k:B+es.length<=C) (f:es'.length=es.length) (d:∀e∈es',e.cells.length=sz) (y:Rs T X w (flat es') vs) (n:Nat) (os:Array Obj):
 Step T w T (grow (putRow id (Go.Sort.ahead w n) r (B*sz) vs.toArray) os)/\M T X (setH h b<|.row sz es') (grow (putRow id (Go.Sort.ahead w n) r (B*sz) vs.toArray) os):=by
 have v:(Go.Sort.ahead w n).heap[r]?=some (.cells cs el (0,0)):=G;have q:=ZzI (Go.Sort.ahead w n) r (B*sz) vs.toArray v;have i:=KC z;have F:vs.length=es.length*sz:=by
  have h1:=Qr y;have h2:∀l:List AV,(∀e∈l,e.cells.length=sz)->(flat l).length=l.length*sz:=by
   intro l;induction l with
   |nil=>grind [flat]
   |cons a r J=>grind [VH]
  rw[<-h1,h2 es' d,f]
 have⟨p,t⟩:=JV (w':=putRow id (Go.Sort.ahead w n) r (B*sz) vs.toArray) (c:=.row sz es.length (some r) C B) (c':=.row sz es.length (some r) C B) (o:=.row sz es') m z rfl rfl (.refl _) (KD D) rfl rfl rfl (by simp) (λx s=>Zy8 (Go.Sort.ahead w n) r _ _ s)
  (λp=>by
   refine⟨rfl,f,A,k,_,el,q,by grind [ZzK],?_⟩
   refine Wq d ?_;refine Xs (Yb p _ _ y)<|λj u H=>?_
   have E:B*sz+j<cs.size:=by
    have:(B+es.length)*sz<=C*sz:=ZYk _ k
    grind
   grind [ZzJ,World.at,World.cell?])
 rw[i]at p t;have g:=Zy9 (putRow id (Go.Sort.ahead w n) r (B*sz) vs.toArray) os;exact⟨p.trans<|Ua g,Xr t (Ua g)<|λx s=>g.block x<|t.lt x s⟩
end Go.AM
namespace Go.AM
open Go Go.Sort Go.Proofs
variable {P:Program} {E:Env} {T:Ty} {X:Xt} {w w':World} {h:Hp}
def Zya:∀{l:List AV},Z4 l=true->∀{x},x∈l->clean x=true
 |[],_,x,hx=>by grind
 |a::r,h,x,hx=>by
  simp[Z4]at h;rcases ZXF.1 hx with rfl|hx
  .exact h.1
  .exact Zya h.2 hx
def ZzM{e:AV}(h:Zwl e=true):e=.agg e.cells:=by
 cases e<;>first|rfl|cases h
def ZzN(us:List Value)(n k:Nat)(c:0<k)(g:0<n)(f:us.length=n*k):(List.range n).flatMap (λi=>(us.drop<|min i (n-1)*k).take k)=us:=by
 have e:∀i,((us.drop<|min i (n-1)*k).take k).length=k:=λi=>by
  have h1:min i (n-1)+1<=n:=by omega
  have h2:=ZYk k h1
  grind
 apply ZYy;intro t;by_cases h:t<n*k
 .have h1:t/k<n:=Nat.div_lt_of_lt_mul (by grind)
  have h2:t%k<k:=ZYr _ c;have a:=ZwS e (List.range n) (t/k) (t%k) (by grind) h2
  have b:t/k*k+t%k=t:=by grind [Nat.div_add_mod]
  have d:(List.range n)[t/k]! = t/k:=by grind
  rw[b,d]at a;rw[a,ZYK h2,ZZH];have:min (t/k) (n-1)=t/k:=by omega
  rw[this,b]
 grind [ZwT,List.length_range]
def Zyb{E':Nat->AV}{enc:Nat->List Value}:∀L:List Nat,(∀i∈L,Rs T X w (E' i).cells<|enc i)->Rs T X w (flat<|L.map E') (L.flatMap enc)
 |[],_=>rfl
 |i::r,h=>by
  exact QR (h i<|ZXV ..)<|Zyb r<|λj a=>h j<|ZY2 _ a
def Zyc{enc:Nat->List Value}{k r o m:Nat}{d:Array Nat}{os:Array Obj}(x:Nat)(b:x<w.heap.size)(a:x≠r):(sortWorldK enc k w r o m d os).heap[x]?=w.heap[x]?:=by
 have h1:=(Zy9 (putRowK enc k (Go.Sort.ahead w m) r o d) os).block x (by show x<(putRow id (Go.Sort.ahead w m) r o _).heap.size;simp_all)
 exact h1.trans<|Zy8 (Go.Sort.ahead w m) r o (flatK enc k d) a
def Zyd{enc:Nat->List Value}{k r o m:Nat}{d:Array Nat}{os:Array Obj}:w.heap.size<=(sortWorldK enc k w r o m d os).heap.size:=size_sortWorldK_c enc k w r o m d os
set_option maxHeartbeats 1000000 in
def ZzO{f g sz:Nat}{kf:List AV->AV->Option (List Int)}{E0:Env}(h0:0<sz)(bp:@EnvOk dT P E0)(bj:∀k,E0.gl k=.bot)(al:E0.sum g=none)
 (U:∀args w,(callFunc f args).run P w=.ok (.enter f args) w)
 (bn:∀s x y kx ky,kf s x=some kx->kf s y=some ky->∃h',fnV E0 g ([x,y]++s) []=some (.int .i64<|cmpL kx ky,h'))
 (aq:∀(enc:Nat->List Value)(_:∀x,(enc x).length=sz)(_:∀x,∀v∈enc x,v.oneCell'=true)(cf:Nat->Nat->Int)(_:SWO<|ltOf cf)(cb:Array Value)(S off cap:Nat)(d:Array Nat)(w:World)
  (_:CmpLays P g cb enc sz cf S off d.size w) (_:HoldsK enc sz w S off d) (_:S<w.heap.size) (_:d.size<4611686018427387904),
  Calls P f #[.slice (some ⟨S,off,none⟩) d.size cap,.func (.func g) #[] cb] w λe w'=>e=.returned (.tuple #[])/\∃u n os,PermIn 0 d.size d u/\SortedIn (ltOf cf) 0 d.size u/\w'=sortWorldK enc sz w S off n u os)
 (H:∀(p:Option Addr)(cap:Nat)(fv:Value)(w:World),Calls P f #[.slice p 0 cap,fv] w λe w'=>e=.returned (.tuple #[])/\w'=w):Qn P E f (ZvW g sz kf):=by
 intro args h v h' A T X w bb _ c hr;unfold ZvW at A;split at A
 .cases A;obtain⟨v0,v1,rfl,O,af⟩:=RN hr;obtain⟨a,Y,cap,rfl,hl,_⟩:=O;have D:Y=0:=hl;subst D;refine .inr<|.inl ⟨f,_,U _ _,(H a cap v1 w).mono ?_⟩;rintro e w' ⟨rfl,rfl⟩;exact⟨_,rfl,T,.refl _ _,c.m,#[],rfl,rfl⟩
 .rename_i b gg off Y ex fn s;split at A
  .rename_i q es hb;cases F:es.isEmpty with
   |true=>
    rw[F,cond_true]at A;cases hz:(gg==0&&(off==0&&Y==0))with
    |false=>rw[hz]at A;cases A
    |true=>
    rw[hz]at A;cases A;simp only[ZXf,beq_iff_eq]at hz;obtain⟨rfl,rfl,rfl⟩:=hz;have bk:es=[]:=ZZa.1 F;subst bk;obtain⟨v0,v1,rfl,O,af⟩:=RN hr;have⟨r,C,B,hT,q0,hC,ac⟩:=XV c.m hb;have⟨_,bd,g2,r2,C2,B2,M,p1,p2,p3⟩:=O;rw[hT]at M;cases M;have⟨cap,p4,p5,p6,p7⟩:=p3 rfl;have:∃p c,v0=.slice p 0 c:=by
     rcases p7 with⟨r',_,rfl⟩|⟨rfl,p,rfl,_⟩
     .exact⟨_,_,rfl⟩
     .exact⟨_,_,rfl⟩
    obtain⟨p,c',rfl⟩:=this;refine .inr<|.inl ⟨f,_,U _ _,(H p c' v1 w).mono ?_⟩;rintro e w' ⟨rfl,rfl⟩;exact⟨_,rfl,T,.refl _ _,c.m,#[],rfl,rfl⟩
   |false=>
   rw[F,cond_false]at A;split at A
   .rename_i l ap;cases hc:(Nat.beq fn g&&(q==sz&&(es.length==gg&&(off==0&&(Y==gg&&(!false&&(Zi s&&(Z4 es&&(es.all Zwl&&(es.all (fits sz)&&(ZvJ l&&Nat.ble es.length 1000000)))))))))))with
    |false=>rw[hc]at A;cases A
    |true=>
    rw[hc]at A;cases A;simp only[ZXf,beq_iff_eq]at hc;obtain⟨c1,rfl,hg,rfl,rfl,c6,c7,c8,c9,bf,aj,bg⟩:=hc;have bl:fn=g:=ZYQ c1;subst bl;subst hg;have br:=ZXL bg;have ah:0<es.length:=by
     cases es with
     |nil=>cases F
     |cons a r=>simp
    obtain⟨v0,v1,rfl,O,af⟩:=RN hr;have⟨r,C,B,hT,q0,hC,ac⟩:=XV c.m hb;have⟨_,bd,g2,r2,C2,B2,M,p1,p2,p3⟩:=O;rw[hT]at M;cases M;have⟨cap,p4,p5,p6,p7⟩:=p3 rfl;rcases p7 with⟨r',rfl,rfl⟩|⟨rfl,p,rfl,q8⟩
    rotate_left
    .omega
    rw[ZYb];have⟨cs,el,k1,k2,k3⟩:=ac;have⟨bx,us,bt,u1,up,u2,u3⟩:=HZ k3 k1 k2 hC;obtain⟨fa,cb,rfl,az,bh⟩:=af;have ar:fa = #[]:=Array.toList_inj.1 az;subst ar;have⟨e1,e2⟩:=ZxY ap;have bv:l.length=es.length:=by rw[e1,ZXg]
    have V:∀e∈es,e.cells.length=q:=(Kx k3).2.2;obtain⟨enc,G⟩:∃enc:Nat->List Value,enc=λi=>(us.drop<|min i (es.length-1)*q).take q:=⟨_,rfl⟩
    obtain⟨E',hE⟩:∃E':Nat->AV,E'=λi=>(es[min i (es.length-1)]?).getD .bot:=⟨_,rfl⟩
    obtain⟨K,hK⟩:∃K:Nat->List Int,K=λi=>((l[min i (es.length-1)]?).map (·.1)).getD []:=⟨_,rfl⟩
    have aa:∀i,∃x,l[min i (es.length-1)]?=some x/\K i=x.1/\E' i=x.2/\es[min i (es.length-1)]?=some (E' i):=λi=>by
     have hi:min i (es.length-1)<l.length:=by omega
     refine⟨l[min i<|es.length-1],ZXj hi,?_,?_,?_⟩
     .rw[hK];simp only[ZXj hi];rfl
     .rw[hE];simp only;have:es[min i (es.length-1)]?=some (l[min i<|es.length-1]).2:=by
       have h9:∀k(hk:k<l.length),es[k]?=some (l[k]).2:=λk hk=>by
        rw[e1,ZY8,ZXj hk];rfl
       exact h9 _ hi
      rw[this];rfl
     .rw[hE];simp only;rw[ZXj<|by omega]
      rfl
    have W:∀i,kf s (E' i)=some (K i):=λi=>by
     have⟨x,h1,h2,h3,_⟩:=aa i;rw[h2,h3];exact e2 x<|ZXp h1
    have hk:∀x,(enc x).length=q:=λi=>by
     have h1:min i (es.length-1)+1<=es.length:=by omega
     have h2:=ZYk q h1;rw[ZYz]at h2;rw[G];simp only;rw[ZXX,List.length_drop];omega
    have h1:∀x,∀v∈enc x,v.oneCell'=true:=λx v hv=>by
     rw[G]at hv;exact R8 bf us u2 v<|ZZ8<|ZYI hv
    have ax:∀i,Rs T X w (E' i).cells (enc i):=λi=>by
     have⟨_,_,_,_,h4⟩:=aa i;rw[G];exact Zy6 u2 V h4
    have Q:∀i,E' i∈es:=λi=>by
     have⟨_,_,_,_,h4⟩:=aa i;exact ZXp h4
    have an:∀i,E' i=.agg (E' i).cells:=λi=>ZzM<|(ZXs.1 c9) _ (Q i)
    have ab:∀i,clean (E' i)=true:=λi=>Zya c8<|Q i
    have ag:∀i,R T X w (E' i) (.agg (enc i).toArray):=λi=>by
     rw[an i];exact⟨_,rfl,ax i⟩
    have hO:SWO (ltOf λi j=>cmpL (K i)<|K j):=by
     refine⟨λx=>?_,λx y z a b=>?_,λx y z a b=>?_⟩<;>simp only[ltOf,ZxW]at*
     .exact Zwm _
     .exact ZvZ _ _ _ a b
     .exact Zzw _ _ _ a b
    have ad:T.rng r':=⟨b,_,hT,rfl⟩;have ay:r'<w.heap.size:=(ZYd.1 k1).1;have Z:(Array.range es.length).size=es.length:=by simp
    have ak:CmpLays P fn cb enc q (λi j=>cmpL (K i)<|K j) r' (B*q) (Array.range es.length).size w:=by
     intro m os dk bw x y;have⟨bu,aw⟩:=bn s (E' x) (E' y) (K x) (K y) (W x)<|W y;refine Zzp bp bj al aw _ ⟨λr=>X r\/T.rng r,Chk P⟩ (λr hr=>?_) rfl _ ?_
     .exact ZYh (hr.elim (c.hX r)<|c.m.lt r) Zyd
     .have st:Stp T w T (sortWorldK enc q w r' (B*q) m dk os):=
       ⟨Zyd,λb c h=>⟨c,h,.refl c⟩,λb hb hr o=>at_eq<|Zyc b hb<|λe=>hr<|e▸ad,λb es c hb hr h=>(Zyc b hb<|λe=>hr<|e▸ad).trans h,λb h=>.inl h⟩
      have hl:(#[Value.agg (enc x).toArray,.agg (enc y).toArray]++cb).toList=.agg (enc x).toArray::.agg (enc y).toArray::cb.toList:=by simp
      rw[hl];refine XY (T:=T) (X:=X) (X2:=⟨λr=>X r\/T.rng r,Chk P⟩) (λr q1 q2(hx:X r\/T.rng r)=>hx.elim q2 q1) ([E' x,E' y]++s) _ ?_<|XT st _ _ ?_
      .simp only[ZXl,ZXo,Zi,KK _<|ab _,c7,ZY3]
      .exact⟨_,_,rfl,ag x,_,_,rfl,ag y,bh⟩
    have hH:HoldsK enc q w r' (B*q) (Array.range es.length):=by
     unfold HoldsK;rw[Zy7 h0 hk];have e5:(Array.range es.length).toList.flatMap enc=us:=by
      rw[ZZB,G];exact ZzN us es.length q h0 ah u3
     rw[e5];intro j hj;have N:j<us.length:=by simpa using hj
     have h4:cs[B*q+j]?=some (id us.toArray[j]!):=by
      have:cs.toList[B*q+j]?=some us[j]:=by
       rw[u1,ZYl (by omega),up,show B*q+j-B*q=j by omega,ZYw N,ZXj N]
      rw[ZZi]at this;rw[this];simp[N]
     constructor
     .simpa[World.cell?,k1]using h4
     .simp[World.frozen?,k1]
    refine .inr<|.inl ⟨f,_,U _ _,?_⟩;have J:=aq enc hk h1 _ hO cb r' (B*q) cap (Array.range es.length) w ak hH ay<|by omega
    rw[Z]at J;refine J.mono ?_;rintro e w' ⟨rfl,u,n,os,hp,hsd,rfl⟩;have⟨p8,_,p9⟩:=hp;have be:u.toList.length=es.length:=by rw[ZXZ,p8,Z]
    have ae:u.toList.Perm (List.range es.length):=by
     have a1:u.extract 0 es.length=u:=by
      have:es.length=u.size:=by rw[p8,Z]
      rw[this];simp
     have a2:(Array.range es.length).extract 0 es.length=Array.range es.length:=by
      conv=>lhs;rw[<-Z]
      simp
     rw[a1,a2,ZZB]at p9;exact p9
    obtain⟨l',D⟩:∃l':List<|List Int×AV,l'=u.toList.map (λi=>(K i,E' i)):=⟨_,rfl⟩
    have ba:(List.range es.length).map (λi=>(K i,E' i))=l:=by
     apply ZYy;intro i;rw[ZY8];by_cases hi:i<es.length
     .rw[List.getElem?_range hi];have⟨x,a1,a2,a3,_⟩:=aa i;have:min i (es.length-1)=i:=by omega
      rw[this]at a1;rw[a1];simp only[ZXR,a2,a3]
     .rw[ZYP (by simpa using hi),ZYP<|by omega]
      rfl
    have av:l'.Perm l:=by
     rw[D,<-ba];exact ae.map _
    have L:l'.Pairwise (λx y=>x.1≠y.1):=(av.pairwise_iff<|λ{a b}h=>Ne.symm h).2 (ZwH.1 aj)
    have bc:l'.Pairwise ltK:=by
     rw[ZZq]at L⊢;intro i j hi hj au;have hd:=L i j hi hj au;have N:j<es.length:=by rw[D,ZXg]at hj;omega
     have a1:=hsd i j (ZXi _) au N;simp only[ltOf,ZxW]at a1;have g1:∀t(ht:t<l'.length),l'[t].1=K u[t]!:=λt ht=>by
      have bm:t<u.size:=by rw[D,ZXg]at ht;simpa using ht
      subst D;simp[bm]
     unfold ltK;rw[g1 i hi,g1 j hj]at hd⊢;cases e3:lexB (K u[i]!) (K u[j]!)with
     |true=>rfl
     |false=>exact(hd<|Zwn _ _ e3 a1).elim
    have bq:l'=ZvN l:=Zzx (av.trans (ZwG l).symm) bc<|ZwI l aj;have am:(ZvN l).map (·.2)=u.toList.map E':=by
     rw[<-bq,D,ZYc];rfl
    have⟨st,m1⟩:=ZzL (es':=u.toList.map E') (vs:=u.toList.flatMap enc) c.m hb hT h0 k1 k2 hC (by rw[ZXg,be]) (λe he=>by
     obtain⟨i,_,rfl⟩:=ZXI.1 he;exact V _<|Q i) (Zyb _<|λi _=>ax i) n os
    have hw:sortWorldK enc q w r' (B*q) n u os=grow (putRow id (Go.Sort.ahead w n) r' (B*q) (u.toList.flatMap enc).toArray) os:=by
     unfold sortWorldK putRowK;rw[Zy7 h0 hk]
    rw[hw,am];exact⟨_,rfl,T,st,m1,#[],rfl,rfl⟩
   .cases A
  .cases A
 .cases A
end Go.AM
namespace Go.AM
open Go Go.Sort Go.Proofs
def ZEg(x y:List UInt8):Int:=bif decide (x<y)then -1 else bif decide (y<x)then 1 else 0
def ZFL(x y:List UInt8):ltOf ZEg x y=decide (x<y):=by
 unfold ltOf ZEg;cases decide (x<y)with
 |true=>rfl
 |false=>cases decide (y<x)<;>rfl
def ZGK:SWO (ltOf ZEg):=by
 refine⟨λx=>?_,λx y z a b=>?_,λx y z a b=>?_⟩<;>simp only[ZFL]at*
 .simp
 .exact decide_eq_true<|List.lt_trans (of_decide_eq_true a)<|of_decide_eq_true b
 .exact decide_eq_false (λh=>by
  have h1:y<=x:=of_decide_eq_false a;have h2:z<=y:=of_decide_eq_false b;exact(List.le_trans h2 h1) h)
end Go.AM
namespace Go.AM
open Go Go.Sort Go.Proofs
variable {P:Program} {E:Env} {T:Ty} {X:Xt} {w w':World} {h:Hp}
def ZFM{r o m:Nat}{d:Array (List UInt8)}{os:Array Obj}(x:Nat)(b:x<w.heap.size)(a:x≠r):(sortWorld encStr w r o m d os).heap[x]?=w.heap[x]?:=by
 have h1:=(Zy9 (putRow encStr (Go.Sort.ahead w m) r o d) os).block x (by simp_all)
 exact h1.trans<|EP (Go.Sort.ahead w m) r o d a
def ZFN{r o m:Nat}{d:Array (List UInt8)}{os:Array Obj}:w.heap.size<=(sortWorld encStr w r o m d os).heap.size:=by
 simp_all[sortWorld]
def ZGL{f g:Nat}{ck:List AV->Bool}{E0:Env}(al:@EnvOk dT P E0)(ag:∀k,E0.gl k=.bot)(S:E0.sum g=none)
 (F:∀args w,(callFunc f args).run P w=.ok (.enter f args) w)
 (ak:∀l x y,ck l=true->∃h',fnV E0 g ([Qd x,Qd y]++l) []=some (.int .i64<|ZEg x y,h'))
 (V:∀(enc:List UInt8->Value)(_:OneCell enc)(cf:List UInt8->List UInt8->Int)(_:SWO<|ltOf cf)(K:Array Value)(A off cap:Nat)(d:Array<|List UInt8)(w:World)
  (_:CmpLays1 P g K enc cf A off d.size w) (_:Holds enc w A off d) (_:A<w.heap.size) (_:d.size<4611686018427387904),
  Calls P f #[.slice (some ⟨A,off,none⟩) d.size cap,.func (.func g) #[] K] w λe w'=>e=.returned (.tuple #[])/\∃q n os,PermIn 0 d.size d q/\SortedIn (ltOf cf) 0 d.size q/\w'=sortWorld enc w A off n q os)
 (s:∀(p:Option Addr)(cap:Nat)(fv:Value)(w:World),Calls P f #[.slice p 0 cap,fv] w λe w'=>e=.returned (.tuple #[])/\w'=w):Qn P E f (ZEt g ck):=by
 intro args h v h' N T X w ad _ c D;unfold ZEt at N;split at N
 .cases N;obtain⟨v0,v1,rfl,af,aa⟩:=RN D;obtain⟨a,H,cap,rfl,hl,_⟩:=af;have ac:H=0:=hl;subst ac;refine .inr<|.inl ⟨f,_,F _ _,(s a cap v1 w).mono ?_⟩;rintro e w' ⟨rfl,rfl⟩;exact⟨_,rfl,T,.refl _ _,c.m,#[],rfl,rfl⟩
 .rename_i b gg off H ex fn l;split at N
  .rename_i sz es J;cases hc:Nat.beq fn g&&(sz==1&&(es.length==gg&&(off==0&&(H==gg&&(ck l&&(Z4 l&&(es.all WB&&Nat.ble es.length 1000000)))))))with
   |false=>grind
   |true=>
    rw[hc]at N;cases N;simp only[ZXf,beq_iff_eq]at hc;obtain⟨c0,rfl,hg,rfl,rfl,an,c7,c5,c6⟩:=hc;have ah:fn=g:=ZYQ c0;subst ah;have O:=ZXL c6;obtain⟨v0,v1,rfl,hv,aa⟩:=RN D;refine .inr<|.inl ⟨f,_,F _ _,?_⟩;rcases Da c.m J hg c5 hv with⟨r,C,B,cap,cs,el,hT,rfl,ap,_,hh,hC,L,U⟩|⟨rfl,p,rfl⟩
    .have z:=D0 c5;generalize es.map bytesOf=ss at z;subst z;rw[ZXg]at hT L hg O;subst hg;have hH:=D1 hh hC L U;have G:T.rng r:=⟨b,_,hT,rfl⟩;have Z:r<w.heap.size:=(ZYd.1 hh).1;obtain⟨fa,K,rfl,ab,ae⟩:=aa;have W:fa = #[]:=Array.toList_inj.1 ab;subst W;have Q:CmpLays1 P fn K encStr ZEg r B ss.toArray.size w:=by
      intro m os dk ar x y;have⟨aq,Y⟩:=ak l x y an;refine Zzp al ag S Y _ ⟨λr=>X r\/T.rng r,Chk P⟩ (λr D=>?_) rfl _ ?_
      .exact ZYh (D.elim (c.hX r)<|c.m.lt r) ZFN
      .have st:Stp T w T (sortWorld encStr w r B m dk os):=
        ⟨ZFN,λb c h=>⟨c,h,.refl c⟩,λb J D o=>at_eq<|ZFM b J<|λe=>D<|e▸G,λb es c J D h=>(ZFM b J<|λe=>D<|e▸G).trans h,λb h=>.inl h⟩
       have hl:(#[encStr x,encStr y]++K).toList=encStr x::encStr y::K.toList:=by simp
       rw[hl];refine XY (T:=T) (X:=X) (X2:=⟨λr=>X r\/T.rng r,Chk P⟩) (λr q1 q2(hx:X r\/T.rng r)=>hx.elim q2 q1) ([Qd x,Qd y]++l) _ (XW _ ?_)<|XT st _ _ ?_
       .simp only[ZXl,ZXo,Z4,c7,ZXC];rfl
       .exact⟨_,_,rfl,rfl,_,_,rfl,rfl,ae⟩
     have R:ss.toArray.size=ss.length:=by simp
     have u:=V encStr (λ_=>rfl) ZEg ZGK K r B cap ss.toArray w Q hH Z<|by grind
     rw[R]at u;refine u.mono ?_;rintro e w' ⟨rfl,q,n,os,hp,hsd,rfl⟩;have⟨p8,_,p9⟩:=hp;have au:q.size=ss.length:=by rw[p8,R]
     have M:q.toList.Perm ss:=by
      have a1:q.extract 0 ss.length=q:=by grind
      grind
     have am:q.toList.Pairwise (λa b=>leB a b=true):=by
      rw[ZZq];intro i j hi hj aj;rw[ZXZ]at hi hj;have a1:=hsd i j (ZXi _) aj<|by omega
      simp only[ZFL]at a1;have g1:∀t(ht:t<q.size),q.toList[t]'(by grind)=q[t]!:=λt ht=>by grind
      rw[g1 i hi,g1 j hj];exact decide_eq_true<|of_decide_eq_false a1
     have hd:q=(WD ss).toArray:=by
      have:=D9 _ _ (M.trans (RS ss).symm) am<|D8 ss;rw[<-this]
     have⟨st,m1⟩:=D2 (tt:=WD ss) c.m J hT hh hC L (RS ss).length_eq n os;rw[D4];have hw:sortWorld encStr w r B n q os=grow (putRow encStr (Go.Sort.ahead w n) r B (WD ss).toArray) os:=by rw[hd];rfl
     rw[hw];exact⟨_,rfl,T,st,m1,#[],rfl,rfl⟩
    .refine(s p 0 v1 w).mono ?_;rintro e w' ⟨rfl,rfl⟩;refine⟨_,rfl,T,.refl _ _,?_,#[],rfl,rfl⟩;have e1:setH h b (.row 1<|Yk [])=h:=RT J;rw[e1];exact c.m
  grind
 grind
end Go.AM
namespace Go.AM
open Go
variable {P:Program} {E:Env} {T:Ty} {X:Xt} {w w':World} {h:Hp}
def Zox:List Int->List Int
 |[]=>[]
 |x::r=>ins x<|Zox r
where ins (x:Int):List Int->List Int
 |[]=>[x]
 |y::r=>bif decide (x<=y)then x::y::r else y::ins x r
def Zpk(x:Int):∀l,(Zox.ins x l).Perm (x::l)
 |[]=>.refl _
 |y::r=>by
  unfold Zox.ins;cases decide (x<=y)with
  |true=>exact .refl _
  |false=>exact((Zpk x r).cons y).trans (.swap x y r)
def Zp3:∀l,(Zox l).Perm l
 |[]=>.refl _
 |x::r=>(Zpk x _).trans ((Zp3 r).cons x)
def Zps(x:Int):∀l,l.Pairwise (λa b=>leI a b=true)->(Zox.ins x l).Pairwise (λa b=>leI a b=true)
 |[],_=>by simp[Zox.ins]
 |y::r,hp=>by
  rw[ZY6]at hp;unfold Zox.ins;cases c:decide (x<=y)with
  |true=>
   rw[cond_true,ZY6];refine⟨λb d=>?_,ZY6.2 hp⟩
   grind
  |false=>
   rw[cond_false,ZY6];refine⟨λb d=>?_,Zps x r hp.2⟩
   rcases ZXF.1 ((Zpk x r).mem_iff.1 d)with rfl|d
   all_goals grind
def Zpt:∀l,(Zox l).Pairwise (λa b=>leI a b=true)
 |[]=>.nil
 |x::r=>Zps x _<|Zpt r
def Zq5(l:List Int):l.mergeSort (λx y=>decide (x<=y))=Zox l:=by
 have d:∀a b c:Int,leI a b=true->leI b c=true->leI a c=true:=λa b c h1 h2=>by grind
 have e:∀a b:Int,(leI a b||leI b a)=true:=λa b=>by grind
 refine List.Perm.eq_of_pairwise (le:=λa b=>leI a b=true) (λa b _ _ h1 h2=>?_) (List.pairwise_mergeSort d e l) (Zpt l)<|(List.mergeSort_perm l leI).trans (Zp3 l).symm
 grind
def Zpu(x:Int):∀l:List Int,Vb (.int .i64 x) (l.map λn=>AV.int .i64 n)=(Zox.ins x l).map λn=>AV.int .i64 n
 |[]=>rfl
 |y::r=>by
  simp[Vb,Zox.ins,GP,Zpu x r];cases decide (x<=y)<;>rfl
def Zpl:∀l:List Int,Yk (l.map λn=>AV.int .i64 n)=(Zox l).map λn=>AV.int .i64 n
 |[]=>rfl
 |x::r=>by
  simp[Yk,Zox,Zpl r,Zpu]
def Zpv{H:Type}(x:Lit×DataW H):∀l:List<|Lit×DataW H,(DataW.insert x l).Perm (x::l)
 |[]=>.refl _
 |y::r=>by
  unfold DataW.insert;split
  .exact .refl _
  .exact((Zpv x r).cons y).trans (.swap x y r)
def Zpm{H:Type}:∀l:List<|Lit×DataW H,(l.foldr DataW.insert []).Perm l
 |[]=>.refl _
 |x::r=>(Zpv x _).trans ((Zpm r).cons x)
def Zpw:∀{d:List AV},d.all Zp2=true->∃c:List Int,d=c.map (λn=>AV.int .i64 n)/\∀z∈c,-9223372036854775808<=z/\z<=9223372036854775807
 |[],_=>⟨[],rfl,λz b=>by grind⟩
 |k::r,hk=>by
  rw[ZYi,ZXf]at hk;have⟨c,h1,h2⟩:=Zpw hk.2;have a:=hk.1;unfold Zp2 at a;split at a
  .rename_i n;rw[ZXf,decide_eq_true_eq,decide_eq_true_eq]at a;refine⟨n::c,by rw[h1];rfl,λz b=>?_⟩
   rcases ZXF.1 b with rfl|b
   .exact a
   .exact h2 z b
  .cases a
def Zpx:∀{b:List Int}{vs:List Value},Rs T X w (b.map λn=>AV.int .i64 n) vs->vs=b.map encZ
 |[],vs,hv=>hv
 |z::r,vs,hv=>by
  obtain⟨v,c,rfl,h1,h2⟩:=hv;have a:v=.int .i64 z:=h1;rw[a,Zpx h2];rfl
theorem Zpy:∀(a:List Int),Rs T X w (a.map λn=>AV.int .i64 n) (a.map encZ)
 |[]=>rfl
 |z::r=>⟨_,_,rfl,rfl,Zpy r⟩
theorem Zpz:∀(a:List Int),flat (a.map λn=>AV.int .i64 n)=a.map λn=>AV.int .i64 n
 |[]=>rfl
 |z::r=>by
  have:=Zpz r;unfold flat at this⊢;rw[ZXn,ZZp,this];rfl
def Zq6{f kt kk:Nat}(hk:P.underlying kt=some (.int .i64))(L:∀args w,(callFunc f args).run P w=.ok (.enter f args) w)
 (K:∀(Bm o b nn:Nat)(O:DataW Unit)(R:Value->Option (DataW Unit×List MemPlace))(w:World),Bm<w.heap.size->w.cell? ⟨Bm,o,none⟩=some (.map<|some b)->w.ownsMap P kt R b nn O->Maps.size O<=maxLen->Maps.size O*8<=140737488355328->
  Calls P f #[.func (.func kk) #[] #[.pointer<|some ⟨Bm,o,none⟩]] w λe w'=>∃(v:Value)(t:List Int),e=.returned v/\t.Perm (intKeys O)/\
   w'.ownsRow w.heap.size kt 1 v t.length ((t.mergeSort<|λx y=>decide (x<=y)).map encZ)/\(v=.slice none 0 0↔t=[])/\Go.RowKit.Below w.heap.size w w'):Qn P E f (ZoZ kk):=by
 intro args h v h' C T X w Q _ c hr;unfold ZoZ at C;split at C
 .rename_i g k;split at C
  .rename_i b W;split at C
   .rename_i ks vs ac;cases Y:Nat.beq g kk&&(ks.all Zp2&&Nat.ble ks.length 1000000)with
    |false=>grind
    |true=>
     rw[Y]at C;cases C;simp only[ZXf]at Y;have⟨hg,F,i⟩:=Y;have i:=ZXL i;obtain rfl:=ZYQ hg;obtain⟨a,rfl,ar⟩:=Zpw F;obtain⟨v0,rfl,hv⟩:=Uc hr;obtain⟨f0,c0,rfl,af,V⟩:=hv;have J:f0.toList=[]:=af;have ad:f0 = #[]:=by rw[<-ZZF (xs:=f0),J]
     subst ad;obtain⟨v1,rfl,an⟩:=Uc V;have⟨r1,C1,B1,ap,q0,hC,d⟩:=XV c.m W;have⟨_,au,g2,r2,C2,B2,G,q1,q2⟩:=an;rw[ap]at G;cases G;obtain⟨r',rfl,_,rfl⟩:=q2 rfl;have⟨cs,el,k1,k2,k3⟩:=d;have⟨_,⟨v2,ag,ak⟩,_⟩:=k3;obtain⟨rm,al,rfl⟩:=ak;have⟨ax,es,j,l,q,B,az,A,aa,_⟩:=JS c.m ac;rw[al]at q;cases q;have r:=Zpx aa;have s:(es.toList.map (·.key)).Perm (a.map encZ):=by rw[<-r];exact(A.map _).symm
     have aq:a.Nodup:=by
      grind
     have Z:(es.toList.map (·.key)).Nodup:=by
      grind
     have av:es.size=a.length:=by
      have:=s.length_eq
      grind
     rw[ZXg]at i;have am:∀x∈es.toList,∃z,z∈a/\x.key=encZ z:=λx D=>by
      have:=s.mem_iff.1<|ZXI.2 ⟨x,D,rfl⟩
      grind
     let R:Value->Option (DataW Unit×List MemPlace):=λ_=>some (.lit<|.bool true,[])
     have N:∀x∈es.toList,∀z,z∈a->x.key=encZ z->WideElems.rd P kt R x=some (.int .i64 z,.lit<|.bool true):=λx D z hz ba=>by
      have aw:keyOf P kt x.key=some (.int .i64 z):=by
       simp_all[Lit.wf,IntKind.min,IntKind.bits,IntKind.signed,keyOf,mapKey]
      grind [WideElems.rd]
     have ay:(1000000:Nat)<=maxLen:=by decide
     have H:WideElems.Fit P kt R es j:=⟨by omega,⟨B.2.1,B.2.2,Z⟩,λx D=>by
      grind⟩
     have M:w.ownsMap P kt R rm es.size (.map<|(es.toList.map<|WideElems.rg P kt R).foldr DataW.insert []):=⟨es,j,B.1,H,ZXh _,rfl⟩;have ab:(intKeys<|.map<|(es.toList.map<|WideElems.rg P kt R).foldr DataW.insert []).Perm a:=by
      have h1:(intKeys<|.map<|(es.toList.map<|WideElems.rg P kt R).foldr DataW.insert []).Perm ((es.toList.map<|WideElems.rg P kt R).map λp=>intOf p.1):=(Zpm _).map _
      refine h1.trans ?_;have h2:(es.toList.map<|WideElems.rg P kt R).map (λp=>intOf p.1)=(es.toList.map (·.key)).map (λv=>match v with| .int _ n=>n|_=>0):=by
       rw[ZYc,ZYc];refine ZYL λx D=>?_
       have⟨z,hz,e⟩:=am x D;show intOf (WideElems.rg P kt R x).1=_
       unfold WideElems.rg;rw[N x D z hz e];show z=(match x.key with| .int _ n=>n|_=>0)
       rw[e]
      rw[h2];refine(s.map _).trans ?_;rw[ZYc];have:a.map ((λv=>match v with| .int _ n=>n|_=>0) ∘ encZ)=a:=by
       simp_all[ZYL]
      rw[this]
     have S:Maps.size (.map ((es.toList.map<|WideElems.rg P kt R).foldr DataW.insert []):DataW Unit)=a.length:=by
      show((es.toList.map<|WideElems.rg P kt R).foldr DataW.insert []).length=_
      rw[(Zpm _).length_eq]
      grind
     refine .inr<|.inl ⟨f,_,L _ _,?_⟩;have u:w.cell? ⟨r',(B1+0)*1+0,none⟩=some (.map<|some rm):=ag;have ah:r'<w.heap.size:=(ZYd.1 k1).1;refine(K r' ((B1+0)*1+0) rm es.size _ R w ah u M (by grind)<|by grind).mono ?_
     rintro e w' ⟨v,t,rfl,hS,d,hnil,hb⟩;refine⟨_,rfl,?_⟩;have ae:t.mergeSort (λx y=>decide (x<=y))=Zox a:=by
      rw[<-Zq5 a]
      grind [mergeSort_of_perm_i]
     rw[ae]at d;have U:t.length=a.length:=(hS.trans ab).length_eq;have aj:(Zox a).length=a.length:=(Zp3 a).length_eq;rw[ZXg,Zpl];have:=Ub (es:=(Zox a).map λn=>AV.int .i64 n) (sz:=1) (news:=(Zox a).map encZ) c hb (by decide) (λy hy=>by
      obtain⟨z,_,rfl⟩:=ZXI.1 hy;rfl) (by grind [Zpz,Zpy]) (by
      rw[ZXg,aj,<-U];exact d)
     grind
   grind
  grind
 grind
end Go.AM
namespace Go.AM
open Go Go.Proofs
variable {P:Program} {E:Env} {T:Ty} {X:Xt} {w w':World} {h:Hp}
def ZRQ:∀{es:List AV}{a:List ByteArray},ZPJ es=some a->es=a.map .str
 |[],a,h=>by cases h;rfl
 | .str s::r,a,h=>by
  have⟨t,h1,h2⟩:=ZXt.1 h;subst h2;rw[ZXn,ZRQ h1]
 | .bot::_,_,h| .bool _::_,_,h| .int ..::_,_,h| .nilp::_,_,h| .nilsl::_,_,h| .nilmap::_,_,h| .nilfn::_,_,h| .nilif::_,_,h| .agg _::_,_,h| .tup _::_,_,h| .iptr ..::_,_,h| .isl ..::_,_,h| .imap ..::_,_,h| .ifc ..::_,_,h| .clo ..::_,_,h| .ptr ..::_,_,h| .sl ..::_,_,h| .mp _::_,_,h| .it _::_,_,h| .yld _::_,_,h=>by simp[ZPJ]at h
def ZTK(b:List ByteArray):flat (b.map .str)=b.map .str:=by
 induction b with
 |nil=>rfl
 |cons a r c=>grind [flat,AV.cells]
def ZRR:∀{b:List ByteArray}{us:List Value},Rs T X w (b.map .str) us->us=b.map .string
 |[],us,h=>h
 |s::r,us,h=>by
  obtain⟨v,c,rfl,h1,h2⟩:=h;have a:v=.string s:=h1;rw[a,ZRR h2];rfl
def ZTL(c:Ctx E T X h w){x:AV}{i:Value}(y:R T X w x i){es:List AV}(p:Q2 h x=some es)(n:Qq h 1 x=true)(q:es.isEmpty=false){a:List ByteArray}(l:ZPJ es=some a):
 ∃r o cap,i=.slice (some ⟨r,o,none⟩) a.length cap/\a.length<=cap/\r<w.heap.size/\∀j s,a[j]?=some s->w.cell? ⟨r,o+j,none⟩=some (.string s):=by
 obtain⟨ad,cap,rfl,d,b⟩:=G6 c.m y p n;have f:es≠[]:=by grind
 obtain⟨r,o,rfl,g⟩:=b.resolve_left f;have⟨z,D,A⟩:=Kx g;have⟨us,u,k⟩:=Kv z;have e:=ZRQ l;subst e;rw[ZTK]at k;have C:=ZRR k;rw[ZXg];rw[ZXg]at d;have v:∀j s,a[j]?=some s->w.cell? ⟨r,o+j,none⟩=some (.string s):=λj s F=>u j _<|by grind
 cases a with
 |nil=>grind
 |cons s t=>
  have B:=v 0 s rfl
  grind [World.cell?]
def ZTM{f:Nat}(g:∀args w,(callFunc f args).run P w=.ok (.enter f args) w)
 (i:∀(r o cap:Nat)(b:List ByteArray)(a:ByteArray)(w:World),(∀j s,b[j]?=some s->w.cell? ⟨r,o+j,none⟩=some (.string s))->r<w.heap.size->b.length<=140737488355328->b.length<=cap->(Lib.join (b.map (·.data.toList)) a.data.toList).length<=140737488355328->
  Calls P f #[.slice (some ⟨r,o,none⟩) b.length cap,.string a] w λe w'=>e=.returned (.string ⟨(Lib.join (b.map (·.data.toList)) a.data.toList).toArray⟩)/\Go.RowKit.Below w.heap.size w w'):Qn P E f ZPm:=by
 intro args h v h' d T X w p _ c u;unfold ZPm at d;split at d
 .rename_i x a;split at d
  .rename_i es t;cases l:Qq h 1 x&&!es.isEmpty with
   |false=>grind
   |true=>
    rw[l,cond_true]at d;split at d
    .rename_i b m;cases k:Nat.ble (Lib.join (b.map (·.data.toList)) a.data.toList).length 140737488355328&&Nat.ble b.length 140737488355328 with
     |false=>grind
     |true=>
      rw[k]at d;cases d;simp only[ZXf]at l k;obtain⟨B,y,rfl,z,q⟩:=RN u;have n:y=.string a:=q;subst n;obtain⟨r,o,cap,rfl,h1,h2,A⟩:=ZTL c z t l.1 (by grind) m
      refine .inr<|.inl ⟨f,_,g _ _,(i r o cap b a w A h2 (ZXL k.2) h1<|ZXL k.1).mono ?_⟩;rintro e w' ⟨rfl,hb⟩;exact⟨_,rfl,RO c hb rfl⟩
    grind
  grind
 grind
def ZTN{Q:World->Prop}{f:Nat}(a:∀args w,(callFunc f args).run P w=.ok (.enter f args) w)(o:∀T X w,GlR E T X w->Q w)
 (b:∀(n:Int)(w:World),-9223372036854775808<=n->n<=9223372036854775807->Q w->Calls P f #[.int .i64 n] w λe w'=>e=.returned (.string ⟨(Lib.itoa n).toArray⟩)/\Go.RowKit.Below w.heap.size w w'):Qn P E f ZPl:=by
 intro args h v h' d T X w i _ c l;unfold ZPl at d;split at d
 .rename_i n;split at d
  .rename_i j;cases d;obtain⟨k,rfl,m⟩:=Uc l;have g:k=.int .i64 n:=m;subst g;refine .inr<|.inl ⟨f,_,a _ _,(b n w j.1 j.2<|o T X w c.gl).mono ?_⟩;rintro e w' ⟨rfl,hb⟩;exact⟨_,rfl,RO c hb rfl⟩
  grind
 grind
def ZTO{f:Nat}(a:∀args w,(callFunc f args).run P w=.ok (.enter f args) w)
 (g:∀(s cs:ByteArray)(w:World),s.size<=9223372036854775807->cs.size<4294967281->(∀(j:Nat)b,cs.data.toList[j]?=some b->b.toNat<128)->Calls P f #[.string s,.string cs] w λe w'=>e=.returned (.string ⟨(Lib.trimS s.data.toList cs.data.toList).toArray⟩)/\Go.RowKit.Below w.heap.size w w'):Qn P E f ZPn:=by
 intro args h v h' i T X w m _ c p;unfold ZPn at i;split at i
 .rename_i s cs;cases d:Nat.ble s.size 9223372036854775807&&(Nat.blt cs.size 4294967281&&cs.data.toList.all (λb=>Nat.blt b.toNat 128))with
  |false=>grind
  |true=>
   rw[d]at i;cases i;simp only[ZXf]at d;obtain⟨o,q,rfl,r,n⟩:=RN p;have k:o=.string s:=r;have l:q=.string cs:=n;subst k l;refine .inr<|.inl ⟨f,_,a _ _,(g s cs w (ZXL d.1) (ZXL d.2.1)<|λj b t=>ZXL<|ZXs.1 d.2.2 b<|ZXp t).mono ?_⟩
   rintro e w' ⟨rfl,hb⟩;exact⟨_,rfl,RO c hb rfl⟩
 grind
def ZTP{Q:World->Prop}{f:Nat}(a:∀args w,(callFunc f args).run P w=.ok (.enter f args) w)(t:∀T X w,GlR E T X w->Q w)
 (i:∀(s:ByteArray)(n:Int)(w:World),s.size<=18->Go.Lib.atoi s.data.toList=some n->Calls P f #[.string s] w λe w'=>e=.returned (.tuple #[.int .i64 n,.nilIface])/\Go.RowKit.Below w.heap.size w w')
 (k:∀(s:ByteArray)(n:Int)(w:World),s.size<=281474976710656->Go.Lib.atoiAll s.data.toList=.ok n->Calls P f #[.string s] w λe w'=>e=.returned (.tuple #[.int .i64 n,.nilIface])/\Go.RowKit.Below w.heap.size w w')
 (o:∀(s:ByteArray)(w:World),s.size<=281474976710656->Go.Lib.atoiAll s.data.toList=Go.Lib.NumEnd.syntax->Q w->Calls P f #[.string s] w λe w'=>∃x,e=.returned (.tuple #[.int .i64 0,x])/\Go.RowKit.Below w.heap.size w w')
 (p:∀(s:ByteArray)(w:World),s.size<=281474976710656->Go.Lib.atoiAll s.data.toList=.range->Q w->Calls P f #[.string s] w λe w'=>∃x,e=.returned (.tuple #[.int .i64<|Go.Lib.atoiSat s.data.toList,x])/\Go.RowKit.Below w.heap.size w w'):Qn P E f ZPo:=by
 intro args h v h' g T X w b j c r;unfold ZPo at g;split at g
 .rename_i s;cases u:s.data.toList.all W6&&(!s.data.toList.isEmpty&&Nat.ble s.size 18)with
  |true=>
   refine EM a i [.str s] h v h' ?_ T X w b j c r;show(bif s.data.toList.all W6&&(!s.data.toList.isEmpty&&Nat.ble s.size 18)then _ else none)=_
   grind
  |false=>
   rw[u,cond_false]at g;cases q:Nat.ble s.size 281474976710656 with
   |false=>grind
   |true=>
    rw[q,cond_true]at g;have d:=ZXL q;cases g;obtain⟨y,rfl,z⟩:=Uc r;have l:y=.string s:=z;subst l;cases m:Go.Lib.atoiAll s.data.toList with
    |ok n=>
     refine .inr<|.inl ⟨f,_,a _ _,(k s n w d m).mono ?_⟩;rintro e w' ⟨rfl,hb⟩;exact⟨_,rfl,RO c hb ⟨_,rfl,_,_,rfl,rfl,_,_,rfl,rfl,rfl⟩⟩
    |range=>
     refine .inr<|.inl ⟨f,_,a _ _,(p s w d m<|t T X w c.gl).mono ?_⟩;rintro e w' ⟨x,rfl,hb⟩;exact⟨_,rfl,RO c hb ⟨_,rfl,_,_,rfl,rfl,_,_,rfl,trivial,rfl⟩⟩
    |_=>
     refine .inr<|.inl ⟨f,_,a _ _,(o s w d m<|t T X w c.gl).mono ?_⟩;rintro e w' ⟨x,rfl,hb⟩;exact⟨_,rfl,RO c hb ⟨_,rfl,_,_,rfl,rfl,_,_,rfl,trivial,rfl⟩⟩
 grind
end Go.AM
namespace Go.Proofs
open Go.RowKit Go.Maps Go.Sort Go.Shelf
variable {P:Program} {ρ:Ren}
set_option maxRecDepth 100000 in
set_option maxHeartbeats 1000000 in
def ZTQ(L:SlLaysZI.n10 P ρ){H:Type}(F:Fence)(n:Nat)(h10:F.fn<|ρ.f 10)(hro:F.round=none)(hn:1<=n)(l Bm o b nn:Nat)(D0:DataW H){R:Value->Option (DataW H×List MemPlace)}(J:List Int->World->Prop)
 (hY:∀pre x W,J pre W->pre.length<Maps.size D0->YieldAt F (n-1) P l #[encZ x] W λe W'=>e=.returned (.bool true)/\J (pre++[x]) W'/\KeepsWalks W W')
 (W:World) (hJ:AbidesFrom W.heap.size J) (hm:W.cell? ⟨Bm,o,none⟩=some (.map<|some b)) (hown:W.ownsMap P (ρ.t 26) R b nn D0) (h0:J [] W):
 CallsIn F n P (ρ.f 10) #[.func (.yield l) #[] #[],.pointer<|some ⟨Bm,o,none⟩] W λe W'=>(∃v,e=.returned v)/\∃ss:List Int,ss.Perm (intKeys D0)/\J ss W':=by
 have mixed:=L.mixed;have t0:=L.t0;have a0:=L.a0;have z0:=L.z0;have v0:=L.v0;have t4:=L.t4;have a4:=L.a4;have z4:=L.z4;have v4:=L.v4;have t23:=L.t23;have a23:=L.a23;have z23:=L.z23;have v23:=L.v23;have t26:=L.t26;have a26:=L.a26;have z26:=L.z26;have v26:=L.v26;have t33:=L.t33;have a33:=L.a33;have z33:=L.z33;have v33:=L.v33;have u0:=run_underlying L.t0;have u4:=run_underlying L.t4;have u23:=run_underlying L.t23;have u26:=run_underlying L.t26;have u33:=run_underlying L.t33;have⟨_,_,ZGv⟩:=L.f10;refine callsIn_of_wp ZGv rfl h10 ?_ hro;simp only[SlBodyZ.n10_ntmps ρ,List.size_toArray,List.length_cons,List.length_nil,Nat.reduceAdd,Nat.reduceSub,Array.replicate_succ,Array.replicate_zero,List.push_toArray,List.append_toArray,List.nil_append,List.cons_append]
 gi_wp2_with (first
  |(gi_at_range;refine wpListIn_range_own _ rfl _ (ρ.t 23) rfl (ρ.t 26) (ρ.t 3) (int_keyed L.t26) L.t23 _ b nn _ rfl hown ?_;intro w0 hrg0 hg0 hs0)
  |gi_in)
 go_frame
 gi_loopw [3] (λ_ wr=>∃(left:Lit->Bool)(cnt:Nat)(ss:List Int),wr.ranges P (ρ.t 26) R b W.heap.size nn D0 left cnt/\ss.length+cnt<=Maps.size D0/\CollectedI D0 left ss/\J ss wr)
  (λ_ wr=>wr.rangeLeft b W.heap.size)
 case atStart=>
  exact⟨_,_,[],hrg0,by simp,CollectedI.start D0,hJ [] W w0 none h0 hg0<|λr e=>by cases e⟩
 case round=>
  have⟨left,cnt,ss,hrg,hcs,hC,hJs⟩:=hrel
  gi_wp2_with (first
   |(gi_at_next;refine wpListIn_next_ranges _ rfl _ rfl (ρ.t 26) (int_keyed L.t26) R encZ id (λkey kl hk=>by have⟨x,hx,_⟩:=Maps.keyOf_i64 L.t26 hk;exact⟨x,hx⟩) (λv _ _=>⟨v,rfl⟩) b W.heap.size nn _ _ _ rfl hrg ?_ ?_)
   |gi_in)
  .intro hc0 hl0
   gi_wp2
   go_end0
   exact⟨⟨_,rfl⟩,ss,hC.perm hown (int_keyed L.t26) L.t26 hl0,hJs⟩
  .intro x c kl yd yp w2 cnt2 hkey hlk hv hat hrg2 hlt hg2 hs2 hen;obtain⟨x',ex,rfl,_⟩:=Maps.keyOf_i64 L.t26 hkey;obtain rfl:x=x':=encZ_inj ex;have hJ2:J ss w2:=hJ ss wr w2 (some W.heap.size) hJs hg2 (λr e=>by cases e;exact⟨Nat.le_refl _,hrg.iter_walk⟩)
   have⟨fn,tmps,assign,body,hy,hR⟩:=hY ss x w2 hJ2<|by omega
   clear hs2
   gi_wp2
   refine hR.mono ?_;rintro e W3 ⟨rfl,hJ3,hk3⟩
   gi_wp2
   have hrg3:=hrg2.of_walks hk3
   go_roundw
   case rel=>exact⟨_,cnt2,ss++[x],hrg3,by simp;omega,hC.step hlk hat,hJ3⟩
   case measure=>rw[hrg3.left_eq,hrg.left_eq];exact hlt
def ZTR(L:SlLaysZI.n10 P ρ){H:Type}(F:Fence)(n:Nat)(h:F.fn<|ρ.f 10)(j:F.round=none)(s:1<=n)(g o b i:Nat)(e:DataW H){R:Value->Option (DataW H×List MemPlace)}(w:World)(m:g<w.heap.size)
 (y:w.cell? ⟨g,o,none⟩=some (.map<|some b)) (a:w.ownsMap P (ρ.t 26) R b i e):
 SeqGives F n P (ρ.f 10) #[.pointer<|some ⟨g,o,none⟩] encZ (λz=>z.Perm<|intKeys e) (Maps.size e) w:=λl J W q C B r=>by
 have c:W.ownsMap P (ρ.t 26) R b i e:=by
  have k:=a.lt;have⟨es,d,v,A,u,x⟩:=a;exact⟨es,d,(q.block b k).trans v,A,u,x⟩
 exact ZTQ {L with} F n h j s l g o b i e J B W C ((q.cell (p:=⟨g,o,none⟩) m).trans y) c r
end Go.Proofs
namespace Go.Proofs
open Go.Shelf Go.RowKit Go.Lib
variable {P:Program} {ρ:Ren}
set_option maxHeartbeats 2000000 in
set_option maxRecDepth 100000 in
def ZXe(L:SlLaysE0.n41 P ρ)(l:TypeInfo)(z:Value)(b bytes:Nat)(G:P.info? (ρ.t 23)=some l)(r:l.zero=some z)(s:l.size=b)(m:l.bytes=bytes)(p:z.cells.size=b)(v:0<b)
 (B:∀w,(Go.sizeOf<|ρ.t 23).run P w=.ok b w) (a:Addr) (c:Nat) (w:World):
 Calls P (ρ.f 41) #[.slice (some a) 0 c] w λe w'=>∃v',e=.returned v'/\w'.ownsRow w.heap.size (ρ.t 23) b v' 0 []/\v'≠.slice none 0 0/\Below w.heap.size w w':=by
 have q:=L.mixed;have K:=L.t4;have N:=L.a4;have M:=L.z4;have Q:=L.v4;have h:=L.t22;have D:=L.a22;have A:=L.z22;have H:=L.v22;have E:∀(w:World)(a:Option Addr)(n c o c':Nat),(binOp .eql (ρ.t 22) (.slice a n c)<|.slice none o c').run P w=.ok (.bool a.isNone) w:=λw a n c o c'=>Lib.run_eql_slice_nil w _ _ a n c o c' L.t22
 have F:∀w,Sem.run P (underlying<|ρ.t 22) w=.ok (TypeDesc.slice<|ρ.t 23) w:=run_underlying h;have⟨_,_,x⟩:=L.f41
 go_enter x,SlBodyN.n41_ntmps ρ
 go_wp2_with (at_builtin;refine wpList_append_own _ rfl _ _ (ρ.t 22) rfl w.heap.size (ρ.t 23) l z b bytes h G r s m p v _ _ _ rfl (World.ownsRow_made w #[] 0 (Nat.le_refl _) (Nat.zero_le _) (by simp)) a 0 c [] rfl ?qc1 ?qc2 ?qc3 ?qc4 ?qc5 ?qc6 ?_)
 case qc1=>simp
 case qc2=>
  intro j u J;simp at J
 case qc3=>
  intro u C;cases C
 case qc4=>simp
 case qc5=>simp
 case qc6=>simp
 intro v' O i d g
 go_wp2
 go_ret
 refine⟨v',rfl,by simpa using i,?_,?_⟩
 .exact g
 .exact((Below.refl _ w).alloc (Nat.le_refl _) _).grown d (by simp) (by intro k y;simp[Value.ownBlock]at y;omega)
end Go.Proofs
namespace Go.AM
open Go Go.Sort Go.Proofs
variable {P:Program} {E:Env} {T:Ty} {X:Xt} {w w':World} {h:Hp}
abbrev Zvm:Int->Value:=Value.int .i64
def zV(n:Int):AV:=.int .i64 n
def Zye:AV->Int
 | .int _ n=>n
 |_=>0
def ZzP{es:List AV}(h:es.all ZvX=true):es=(es.map Zye).map zV:=by
 induction es with
 |nil=>rfl
 |cons a r b=>
  rw[ZYi,ZXf]at h;rw[ZXn,ZXn,<-b h.2];have h1:=h.1;unfold ZvX at h1;split at h1
  .rfl
  grind
def Zyf(b:List Int):flat (b.map zV)=b.map zV:=by
 induction b with
 |nil=>rfl
 |cons a r c=>rw[ZXn,VH,c];rfl
def Zyg{b:List Int}{us:List Value}:Rs T X w (b.map zV) us↔us=b.map Zvm:=by
 induction b generalizing us with
 |nil=>exact Iff.rfl
 |cons a r d=>
  constructor
  .rintro⟨v,e,rfl,h1,h2⟩;have c:v=.int .i64 a:=h1
   grind
  .rintro rfl;exact⟨_,_,rfl,rfl,d.2 rfl⟩
def ZzQ{r C B:Nat}{cs:Array Value}{el:TypeId}{a:List Int}(c:w.heap[r]?=some (.cells cs el (0,0)))(f:cs.size=C*1)(e:B+a.length<=C)(d:ZA T X w 1 r (a.map zV)<|B*1):
 Holds Zvm w r B a.toArray:=by
 have⟨g,us,b,h1,i,h2,k⟩:=HZ d c f<|by grind
 rw[Zyf,Zyg]at h2;intro j h;have l:cs[B+j]?=some (Zvm a.toArray[j]!):=by
  have:cs.toList[B+j]?=some (Zvm a[j]):=by
   grind
  grind
 grind [World.cell?,World.frozen?]
def ZzR(w:World)(r B:Nat)(d:Array Int){cs:Array Value}{el:TypeId}(a:w.heap[r]?=some (.cells cs el (0,0))):
 (putRow Zvm w r B d).heap[r]?=some (.cells (putCells Zvm B d cs) el (0,0)):=by
 grind [putRow,mapBlock,onCells]
def ZzS(w:World)(r B:Nat)(d:Array Int){x:Nat}(a:x≠r):(putRow Zvm w r B d).heap[x]?=w.heap[x]?:=by
 simp[putRow,mapBlock,ZZG,Ne.symm a]
def ZzT(d:Array Int)(cs:Array Value){j B:Nat}(a:j<d.size)(b:B+j<cs.size):(putCells Zvm B d cs)[B+j]?=some (Zvm d[j]!):=by
 grind [putCells]
theorem ZzU(d:Array Int)(cs:Array Value){B:Nat}:(putCells Zvm B d cs).size=cs.size:=by simp[putCells]
def ZzV(m:M T X h w){b r C B:Nat}{cs:Array Value}{el:TypeId}{f tt:List Int}(A:h[b]?=some (.row 1<|f.map zV))(v:T b=some (.row 1 f.length (some r) C B))
 (E:w.heap[r]?=some (.cells cs el (0,0))) (G:cs.size=C*1) (t:B+f.length<=C) (y:tt.length=f.length) (n:Nat) (os:Array Obj):
 Step T w T (grow (putRow Zvm (Go.Sort.ahead w n) r B tt.toArray) os)/\M T X (setH h b<|.row 1<|tt.map zV) (grow (putRow Zvm (Go.Sort.ahead w n) r B tt.toArray) os):=by
 have s:(Go.Sort.ahead w n).heap[r]?=some (.cells cs el (0,0)):=E;have i:=ZzR (Go.Sort.ahead w n) r B tt.toArray s;have d:=KC v;have⟨g,q⟩:=JV (w':=putRow Zvm (Go.Sort.ahead w n) r B tt.toArray) (c:=.row 1 f.length (some r) C B) (c':=.row 1 f.length (some r) C B) (o:=.row 1<|tt.map zV) m v rfl rfl (.refl _) (KD A) rfl rfl rfl (by simp) (λx p=>ZzS (Go.Sort.ahead w n) r B _ p)
  (λg=>by
   refine⟨rfl,by grind,Nat.one_pos,t,_,el,i,by grind [ZzU],?_⟩
   refine Wq (λe D=>?_) ?_
   .obtain⟨l,_,rfl⟩:=ZXI.1 D;rfl
   .rw[Zyf];refine Xs (Zyg.2 rfl) (λj u F=>?_)
    have H:j<tt.length:=by
     grind
    have h1:=ZzT (B:=B) tt.toArray cs (j:=j) (by grind)<|by omega
    grind [World.at,World.cell?])
 rw[d]at g q;have a:Go.RowKit.Below (putRow Zvm (Go.Sort.ahead w n) r B tt.toArray).heap.size (putRow Zvm (Go.Sort.ahead w n) r B tt.toArray) (grow (putRow Zvm (Go.Sort.ahead w n) r B tt.toArray) os):={
  os:=rfl,tape:=rfl,output:=rfl,size:=by simp_all
  block:=λk z=>by
   show(_++os)[k]?=_
   rw[ZYX z]}
 exact⟨g.trans<|Ua a,Xr q (Ua a)<|λx p=>a.block x<|q.lt x p⟩
def ZzW(m:M T X h w){b g:Nat}{ex:Bool}{es:List AV}{v:Value}(j:h[b]?=some (.row 1 es))(i:es.length=g)(d:es.all ZvX=true)(t:R T X w (.sl b g 0 g ex) v):
 (∃r C B cap cs el,T b=some (.row 1 es.length (some r) C B)/\v=.slice (some ⟨r,B,none⟩) g cap/\g<=cap/\B+cap<=C/\w.heap[r]?=some (.cells cs el (0,0))/\cs.size=C*1/\B+es.length<=C/\ZA T X w 1 r es (B*1))\/
 (es=[]/\∃p,v=.slice p 0 0):=by
 have⟨r,C,B,c,A,u,s⟩:=XV m j;have⟨_,q,J,G,y,H,a,E,F,l⟩:=t;rw[c]at a;cases a;have⟨cap,f,z,D,k⟩:=l i.symm;rcases k with⟨n,rfl,rfl⟩|⟨rfl,p,rfl,q8⟩
 .have⟨cs,el,x,o,e⟩:=s;exact .inl ⟨n,C,B,cap,cs,el,c,by rw[ZXN,ZYb],f,by omega,x,o,u,e⟩
 grind
def ZzX(a b:Int):sameKey (zV a) (zV b)=(a==b):=rfl
def ZvA:Int->List Int->List Int
 |_,[]=>[]
 |p,b::r=>bif b==p then ZvA b r else b::ZvA b r
def Zyh:∀(a:Int)(r:List Int),Ys ((a::r).map zV)=(a::ZvA a r).map zV
 |a,[]=>rfl
 |a,b::r=>by
  have c:=Zyh b r;rw[ZXn];unfold Ys;rw[c,ZXn];dsimp only;rw[ZzX,show ZvA a (b::r)=bif b==a then ZvA b r else b::ZvA b r from rfl]
  grind
def Zyi(x:Int):∀(p:Int)(l:List Int),ZvA p (l++[x])=ZvA p l++(bif x==(p::l).getLast (by simp)then []else [x])
 |p,[]=>by
  grind [ZvA]
 |p,b::r=>by
  rw[ZXl];have a:=Zyi x b r;unfold ZvA;have e:(p::b::r).getLast (by simp)=(b::r).getLast (by simp):=List.getLast_cons<|by simp
  rw[a,e];cases b==p<;>rfl
def Zyj(a:Int)(b:List Int):∀m,m<=b.length->Go.Lib.compactUpTo (a::b).toArray (m+1)=a::ZvA a (b.take m)
 |0,_=>by
  grind [Go.Lib.compactUpTo_succ,Go.Lib.compactUpTo,Go.Lib.keeps,ZvA]
 |m+1,hm=>by
  rw[Go.Lib.compactUpTo_succ,Zyj a b m<|by omega]
  have c:m<b.length:=by omega
  rw[ZYR c,Zyi];have e:(a::b).toArray[m+1]! = b[m]:=by grind
  have d:Go.Lib.keeps (a::b).toArray (m+1) = !(b[m]==(a::b.take m).getLast (by simp)):=by
   grind [Go.Lib.keeps]
  rw[d,e,ZXl];cases b[m]==(a::b.take m).getLast (by simp)<;>rfl
def ZzY(b:List Int):Ys (b.map zV)=(Go.Lib.compact b).map zV:=by
 cases b with
 |nil=>rfl
 |cons a r=>
  rw[Zyh];unfold Go.Lib.compact;rw[ZXw,Zyj a r r.length<|ZXh _,ZXG]
def ZzZ{f:Nat}(x:∀args w,(callFunc f args).run P w=.ok (.enter f args) w)
 (s:∀(d off cap:Nat)(i:List Int)(w:World),Holds Zvm w d off i.toArray->i.length<=9223372036854775807->i.length<=cap->Calls P f #[.slice (some ⟨d,off,none⟩) i.length cap] w λe w'=>
  e=.returned (.slice (some ⟨d,off,none⟩) (Go.Lib.compact i).length cap)/\∃q,w'=putRow Zvm (Go.Sort.ahead w q) d off (Go.Lib.compact i++List.replicate (i.length-(Go.Lib.compact i).length) 0).toArray)
 (j:∀(p:Option Addr)(cap:Nat)(w:World),Calls P f #[.slice p 0 cap] w λe w'=>e=.returned (.slice p 0 cap)/\w'=w):Qn P E f ZvY:=by
 intro args h v h' l T X w G _ c hr;unfold ZvY at l;split at l
 .rename_i b g off A ex;split at l
  .rename_i sz es F;cases L:sz==1&&(es.length==g&&(off==0&&(A==g&&(es.all ZvX&&Nat.ble es.length 1000000))))with
   |false=>grind
   |true=>
    rw[L]at l;cases l;simp only[ZXf,beq_iff_eq]at L;obtain⟨rfl,z,rfl,rfl,R,c6⟩:=L;have t:=ZXL c6;obtain⟨v0,rfl,O⟩:=Uc hr;refine .inr<|.inl ⟨f,_,x _ _,?_⟩;rcases ZzW c.m F z R O with⟨r,C,B,cap,cs,el,H,rfl,y,ab,N,Q,k,u⟩|⟨rfl,p,rfl⟩
    .have a:=ZzP R;generalize es.map Zye=ss at a;subst a;rw[ZXg]at H k z t;subst z;have W:=ZzQ N Q k u;refine(s r B cap ss w W (by omega) y).mono ?_
     rintro e w' ⟨rfl,n,rfl⟩;rw[ZzY,ZXg];have aa:(Go.Lib.compact ss).length<=ss.length:=by
      grind [Go.Lib.compact,Go.Lib.compactUpTo]
     have K:((Go.Lib.compact ss)++List.replicate (ss.length-(Go.Lib.compact ss).length) 0).length=ss.length:=by grind
     have⟨Y,m1⟩:=ZzV (tt:=(Go.Lib.compact ss)++List.replicate (ss.length-(Go.Lib.compact ss).length) 0) c.m F H N Q k K n #[];have D:(Go.Lib.compact ss).map zV++List.replicate (ss.length-(Go.Lib.compact ss).length) (.int .i64 0)=((Go.Lib.compact ss)++List.replicate (ss.length-(Go.Lib.compact ss).length) 0).map zV:=by rw[ZXx,List.map_replicate];rfl
     rw[D];refine⟨_,rfl,T,Y,m1,⟨_,_,_,rfl⟩,1,ss.length,some r,C,B,H,ZXh _,by omega,λ_=>⟨cap,by omega,by omega,λJ=>by grind,.inl ⟨r,rfl,by rw[ZXN,ZYb]⟩⟩⟩
    .refine(j p 0 w).mono ?_;rintro e w' ⟨rfl,rfl⟩;have o:=z;rw[ZXK]at o;subst o;have D:setH h b (.row 1<|Ys []++List.replicate (0-(Ys []).length) (.int .i64 0))=h:=RT F;refine⟨_,rfl,T,.refl _ _,by rw[D];exact c.m,?_⟩
     have⟨U,M,g2,r2,S,B2,Z,q2,q3,V⟩:=O;refine⟨U,M,g2,r2,S,B2,Z,q2,q3,λJ=>?_⟩
     have⟨cap,k1,k2,k3,k4⟩:=V J;exact⟨cap,k1,k2,λJ=>by grind,k4⟩
  grind
 grind
end Go.AM
namespace Go.AM
open Go Go.Sort Go.Lib
variable {P:Program} {E:Env} {T:Ty} {X:Xt} {w w':World} {h:Hp}
def ZP6(args:List AV)(h:Hp):Option (AV×Hp):=match args with
 |[.sl b g off len _]=>match h[b]? with
  |some (.row sz es)=>bif sz==1&&(es.length==g&&(off==0&&(len==g&&(es.all ZvX&&Nat.ble es.length 1000000))))then some (.tup [],setH h b<|.row 1<|Yk es)else none
  |_=>none
 |_=>none
def ZRS{f:Nat}(t:∀args w,(callFunc f args).run P w=.ok (.enter f args) w)
 (o:∀(i off cap:Nat)(a:List Int)(w:World),Holds Zvm w i off a.toArray->i<w.heap.size->a.length<4611686018427387904->Calls P f #[.slice (some ⟨i,off,none⟩) a.length cap] w λe w'=>
  e=.returned (.tuple #[])/\∃n os,w'=grow (putRow Zvm (Go.Sort.ahead w n) i off (a.mergeSort λx y=>decide (x<=y)).toArray) os)
 (j:∀(p:Option Addr)(cap:Nat)(w:World),Calls P f #[.slice p 0 cap] w λe w'=>e=.returned (.tuple #[])/\w'=w):Qn P E f ZP6:=by
 intro args h v h' l T X w D _ c U;unfold ZP6 at l;split at l
 .rename_i b g off u ex;split at l
  .rename_i sz es A;cases G:sz==1&&(es.length==g&&(off==0&&(u==g&&(es.all ZvX&&Nat.ble es.length 1000000))))with
   |false=>grind
   |true=>
    rw[G]at l;cases l;simp only[ZXf,beq_iff_eq]at G;obtain⟨rfl,z,rfl,rfl,L,R⟩:=G;have q:=ZXL R;obtain⟨W,rfl,V⟩:=Uc U;refine .inr<|.inl ⟨f,_,t _ _,?_⟩;rcases ZzW c.m A z L V with⟨r,C,B,cap,cs,el,H,rfl,J,_,F,K,k,s⟩|⟨rfl,p,rfl⟩
    .have d:=ZzP L;generalize es.map Zye=a at d;subst d;rw[ZXg]at H k z q;subst z;have N:=ZzQ F K k s;refine(o r B cap a w N (ZYd.1 F).1 (by omega)).mono ?_
     rintro e w' ⟨rfl,n,os,rfl⟩;rw[Zq5];have⟨O,Q⟩:=ZzV (tt:=Zox a) c.m A H F K k (Zp3 a).length_eq n os;have S:Yk (a.map zV)=(Zox a).map zV:=Zpl a;rw[S];exact⟨_,rfl,T,O,Q,#[],rfl,rfl⟩
    .refine(j p 0 w).mono ?_;rintro e w' ⟨rfl,rfl⟩;refine⟨_,rfl,T,.refl _ _,?_,#[],rfl,rfl⟩;have M:setH h b (.row 1<|Yk [])=h:=RT A;rw[M];exact c.m
  grind
 grind
def ZTS{f:Nat}(a:∀args w,(callFunc f args).run P w=.ok (.enter f args) w)
 (b:∀(s:ByteArray)(c:Nat)(w:World),c<=9223372036854775807->s.size*c<=140737488355328->Calls P f #[.string s,.int .i64 c] w λe w'=>e=.returned (.string ⟨(Lib.repeatL s.data.toList c).toArray⟩)/\Go.RowKit.Below w.heap.size w w'):Qn P E f ZPp:=by
 intro args h v h' d T X w k _ c q;unfold ZPp at d;split at d
 .rename_i s n;cases g:decide (0<=n)&&(decide (n<=9223372036854775807)&&Nat.ble (s.size*n.toNat) 140737488355328)with
  |false=>grind
  |true=>
   rw[g]at d;cases d;simp only[ZXf,decide_eq_true_eq]at g;have⟨x,u,o⟩:=g;obtain⟨p,r,rfl,t,l⟩:=RN q;have i:p=.string s:=t;have j:r=.int .i64 n:=l;subst i j;obtain⟨m,rfl⟩:∃m:Nat,n=m:=⟨n.toNat,by omega⟩
   refine .inr<|.inl ⟨f,_,a _ _,(b s m w (by omega)<|ZXL o).mono ?_⟩
   rintro e w' ⟨rfl,hb⟩;exact⟨_,rfl,RO c hb rfl⟩
 grind
end Go.AM
