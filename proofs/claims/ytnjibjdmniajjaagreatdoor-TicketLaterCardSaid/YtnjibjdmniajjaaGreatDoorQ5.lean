/- The contracts of the library functions that the program calls, as summaries of the abstract machine. No condition. -/
import Derived.Test.YtnjibjdmniajjaaGreatDoorQ3
import Derived.Shelf.SlicesE.Clone
import Derived.Lib.Bytealg
import Derived.Lib.Atoi
import Derived.Lib.IndexAny
import Derived.Sort.Row
import Derived.Sort.Grow
import Derived.Sort.EncStr
import Derived.Sort.Walk0
import Derived.Lib.SlicesCompact
import Derived.Lib.Split
import Derived.Lib.SplitLaws
import Derived.Lib.IndexBytes
import Derived.Shelf.Strings.Split
import Derived.Shelf.Strings.IndexAnyAll
import Derived.Shelf.Small.Utf8
import Derived.Laws.RangeAny
import Derived.Laws.Runes
import Derived.Scope
import Derived.Shelf.RegionOpenPlain
import Derived.Deep.Draws
import Derived.Shelf.GgSortFunc.InsertionK
import Derived.Shelf.SlSortCmp.InsertionK
import Derived.Shelf.SlSortCmp.Whole1
import Derived.Shelf.SlIterI.Nil
set_option linter.unusedVariables false
set_option linter.defProp false
set_option linter.unusedSimpArgs false
set_option linter.unusedSectionVars false
open Nat (reduceAdd reduceSub reduceMul reduceLT reduceLeDiff)
namespace Go.AM
open Go
variable {P:Program} {E:Env} {T:Ty} {X:Xt} {w w':World} {h:Hp}
def Ua(a:Go.RowKit.Below w.heap.size w w'):Step T w T w' where
 os:=a.os
 tape:=a.tape
 output:=a.output
 size:=a.size
 le _ c hc:=⟨c,hc,.refl c⟩
 keep b hl _:=a.block b hl
 rng _ hr:=.inl hr
 drawn hd:=hd.elim
def LV(h:Hp)(o:AObj):setH h h.length o=h++[o]:=by
 induction h with
 |nil=>rfl
 |cons x r a=>simp only[ZSG,GN,a];rfl
def Ub(c:Ctx E T X h w)(k:Go.RowKit.Below w.heap.size w w'){es:List AV}{sz:Nat}{e:TypeId}{news:List Value}{v':Value}(G:0<sz)(n:∀y∈es,y.cells.length=sz)(O:Rs T X w (flat es) news)
 (t:w'.ownsRow w.heap.size e sz v' es.length news):Yq T X w (h++[.row sz es]) (.sl h.length es.length 0 es.length false) v' w':=by
 have m:=c.m;have F:T h.length=none:=JR m<|.inl<|by simp
 have p:Step T w T w':=Ua k;have N:M T X h w':=Xr m p<|λr q=>k.block r<|m.lt r q
 have⟨H,o⟩:=t;rcases o with⟨rfl,P⟩|⟨g,cap,cur,rfl,hg,hrow,hncap,hmax,hcur,htake⟩
 .have L:es=[]:=ZUs.1 P;subst L;have d:Step T w' (upd T h.length<|.row sz 0 none 0 0) w':={
   os:=rfl,tape:=rfl,output:=rfl,size:=ZSr _
   le:=λb c' l=>by
    by_cases i:b=h.length
    .subst i;rw[F]at l;cases l
    .exact⟨c',by rw[upd_ne _ _ i];exact l,.refl c'⟩
   keep:=λ_ _ _=>rfl
   rng:=λr⟨b,c',a,f⟩=>by
    by_cases i:b=h.length
    .subst i;rw[upd_same]at a;cases a;cases f
    .rw[upd_ne _ _ i]at a;exact .inl ⟨b,c',a,f⟩
   drawn:=λz=>z.elim}
  refine⟨upd T h.length<|.row sz 0 none 0 0,p.trans d,?_,?_⟩
  .rw[<-LV];refine WZ N h.length _ _ (ZSr _) d (λ_ _ _ _ _ _=>rfl) (λr q=>by cases q) ?_
   exact⟨rfl,rfl,G,ZSr _,rfl⟩
  .exact⟨⟨_,_,_,rfl⟩,sz,0,none,0,0,upd_same _ _ _,ZSr _,ZSr _,λ_=>⟨0,ZSr _,ZSr _,λB=>by simp at B,.inr ⟨rfl,none,rfl,λ_=>rfl⟩⟩⟩
 .have x:g<w'.heap.size:=(ZTi.1 hrow).1;have d:Step T w (upd T h.length<|.row sz es.length (some g) cap 0) w':={
   os:=k.os,tape:=k.tape,output:=k.output,size:=k.size
   le:=λb c' l=>by
    by_cases i:b=h.length
    .subst i;rw[F]at l;cases l
    .exact⟨c',by rw[upd_ne _ _ i];exact l,.refl c'⟩
   keep:=λb H _=>k.block b H
   rng:=λr⟨b,c',a,f⟩=>by
    by_cases i:b=h.length
    .subst i;rw[upd_same]at a;cases a;cases f;exact .inr hg
    .rw[upd_ne _ _ i]at a;exact .inl ⟨b,c',a,f⟩
   drawn:=λz=>z.elim}
  have s:=Yb d _ _ O;have C:∀(j:Nat)(u:Value),news[j]?=some u->World.at w' g (0+j)=some u:=λj u v=>by
   have Q:j<news.length:=(ZSA.1 v).1;rw[ZSE];have f:cur[j]?=some u:=by
    rw[<-htake]at v;rw[ZTK<|by omega]at v
    simpa using v
   simp only[World.at,World.cell?,hrow];have K:cur[j]?=some u:=f;simpa using K
  refine⟨upd T h.length<|.row sz es.length (some g) cap 0,d,?_,?_⟩
  .rw[<-LV];refine WZ m h.length _ _ (ZSr _) d (λA c' D _ a f=>k.block D<|m.lt D ⟨A,c',a,f⟩) (λr q=>?_) ?_
   .cases q;exact⟨x,λJ=>by have:=c.hX _ J;omega,λA c' _ a f=>by have:=m.lt g ⟨A,c',a,f⟩;omega⟩
   .exact⟨rfl,rfl,G,by rw[ZSE];exact hncap,cur,e,hrow,hcur,Wq n<|Xs s<|by simpa using C⟩
  .exact⟨⟨_,_,_,rfl⟩,sz,es.length,some g,cap,0,upd_same _ _ _,ZSr _,by omega,λ_=>⟨cap,hncap,by omega,λB=>by simp at B,.inl ⟨g,rfl,by rw[ZU8]⟩⟩⟩
def Uc{x:AV}{a:Array Value}(g:Rs T X w [x] a.toList):∃v,a = #[v]/\R T X w x v:=by
 have⟨v,e,f,c,d⟩:=g;have b:e=[]:=d;subst b;exact⟨v,by rw[<-ZV4 (xs:=a),f],c⟩
def RN{x y:AV}{a:Array Value}(i:Rs T X w [x,y] a.toList):∃v u,a = #[v,u]/\R T X w x v/\R T X w y u:=by
 have⟨v,j,h,c,u,d,e,f,g⟩:=i;have b:d=[]:=g;subst b e;exact⟨v,u,by rw[<-ZV4 (xs:=a),h],c,f⟩
end Go.AM
namespace Go.AM
open Go
variable {P:Program} {E:Env} {T:Ty} {X:Xt} {w w':World} {h:Hp}
def RO(c:Ctx E T X h w)(a:Go.RowKit.Below w.heap.size w w'){v:AV}{rv:Value}(b:R T X w' v rv):Yq T X w h v rv w':=
 ⟨T,Ua a,Xr c.m (Ua a)<|λr d=>a.block r<|c.m.lt r d,b⟩
def LX{p:UInt8->Bool}{F:List UInt8->Int}(a:∀l,-1<=F l)(d:F []=-1)(e:∀b l,F (b::l)=if p b=true then 0 else if F l==-1 then -1 else F l+1):
 ∀(l:List UInt8)(i:Int),Yc p l i=if F l==-1 then -1 else F l+i
 |[],i=>by simp[Yc,d]
 |b::l,i=>by
  unfold Yc;rw[e];cases j:p b with
  |true=>simp
  |false=>
   rw[cond_false,LX a d e l<|i+1];by_cases c:F l=-1
   .simp[c]
   .have h:(F l==-1)=false:=by simpa using c
    simp only[h,ZSH,if_false];by_cases f:F l+1=-1
    .have:=a l;omega
    .have g:(F l+1==-1)=false:=by simpa using f
     simp only[g,ZSH,if_false];omega
def LY{p:UInt8->Bool}{F:List UInt8->Int}(a:∀l,-1<=F l)(d:F []=-1)(e:∀b l,F (b::l)=if p b=true then 0 else if F l==-1 then -1 else F l+1)(l:List UInt8):Yc p l 0=F l:=by
 rw[LX a d e];by_cases c:F l=-1
 .simp[c]
 .have f:(F l==-1)=false:=by simpa using c
  simp[f]
def EK{f:Nat}(j:∀a w,(callFunc f a).run P w=.ok (.enter f a) w)
 (g:∀(s:ByteArray)(c:Int)(w:World),Calls P f #[.string s,.int .u8 c] w λe w'=>e=.returned (.int .i64<|Go.Lib.indexByte s.data.toList c.toNat.toUInt8)/\w'=w):Qn P E f U9:=by
 intro a h v h' d T X w m _ c B;unfold U9 at d;split at d
 .rename_i s n;cases i:decide (0<=n)&&decide (n<256)with
  |false=>rw[i]at d;cases d
  |true=>
   rw[i]at d;cases d;simp only[ZSq]at i;have C:=of_decide_eq_true i.1;have D:=of_decide_eq_true i.2;obtain⟨y,t,rfl,A,u⟩:=RN B;have o:y=.string s:=A;have q:t=.int .u8 n:=u;subst o q;refine .inr<|.inl ⟨f,_,j _ _,(g s n w).mono ?_⟩;rintro e w' ⟨rfl,rfl⟩;refine⟨_,rfl,RO c (.refl _ _) ?_⟩;have e:Yc (λx=>(x.toNat:Int)==n) s.data.toList 0=Go.Lib.indexByte s.data.toList n.toNat.toUInt8:=by
    refine LY (F:=λl=>Go.Lib.indexByte l n.toNat.toUInt8) (λl=>Go.Lib.indexByte_ge l _) rfl (λb l=>?_) _
    have:(b==n.toNat.toUInt8)=((b.toNat:Int)==n):=by
     have k:(n.toNat.toUInt8).toNat=n.toNat:=by
      rw[UInt8.toNat_ofNat'];omega
     cases r:b==n.toNat.toUInt8 with
     |true=>
      have:b=n.toNat.toUInt8:=by simpa using r
      have z:(b.toNat:Int)=n:=by rw[this,k];omega
      rw[z];simp
     |false=>
      have p:b≠n.toNat.toUInt8:=by simpa using r
      have:(b.toNat:Int)≠n:=λe=>p<|UInt8.toNat_inj.1<|by rw[k];omega
      simpa using this
    simp only[Go.Lib.indexByte,this]
   rw[e];rfl
 .cases d
end Go.AM
namespace Go.AM
open Go
variable {P:Program} {E:Env} {T:Ty} {X:Xt} {w w':World} {h:Hp}
def LZ:∀(l:List UInt8)(a:Nat),l.all W6=true->∃m,Go.Lib.decFrom a l=some m/\(m:Int)=J4 l a
 |[],a,_=>⟨a,rfl,rfl⟩
 |b::r,a,h=>by
  rw[ZTE,ZSq]at h;have⟨c,d⟩:=h;simp only[W6,ZSq,decide_eq_true_eq]at c;have⟨m,e,f⟩:=LZ r (a*10+(b.toNat-48)) d;refine⟨m,?_,?_⟩
  .unfold Go.Lib.decFrom Go.Lib.digitVal;rw[if_pos c];exact e
  .rw[f];unfold J4;rw[ZTe];congr 1;have:=c.1;omega
def EL{l:List UInt8}(c:l≠[])(h:l.all W6=true):Go.Lib.atoi l=some (J4 l 0):=by
 cases l with
 |nil=>exact(c rfl).elim
 |cons b r=>
  have⟨m,i,d⟩:=LZ (b::r) 0 h;rw[ZTE,ZSq]at h;have a:=h.1;simp only[W6,ZSq,decide_eq_true_eq]at a;unfold Go.Lib.atoi;have f:(b==45)=false:=by
   have:b≠45:=λe=>by subst e;exact absurd a.1<|by decide
   simpa using this
  have g:(b==43)=false:=by
   have:b≠43:=λe=>by subst e;exact absurd a.1<|by decide
   simpa using this
  simp only[f,g,ZSH,if_false,Go.Lib.decNat,ZV5];rw[i];show some (m:Int)=_
  rw[d];rfl
def EM{f:Nat}(g:∀a w,(callFunc f a).run P w=.ok (.enter f a) w)
 (d:∀(s:ByteArray)(n:Int)(w:World),s.size<=18->Go.Lib.atoi s.data.toList=some n->Calls P f #[.string s] w λe w'=>e=.returned (.tuple #[.int .i64 n,.nilIface])/\Go.RowKit.Below w.heap.size w w'):Qn P E f J5:=by
 intro a h v h' b T X w j _ c q;unfold J5 at b;split at b
 .rename_i s;cases i:s.data.toList.all W6&&(!s.data.toList.isEmpty&&Nat.ble s.size 18)with
  |false=>rw[i]at b;cases b
  |true=>
   rw[i]at b;cases b;simp only[ZSq]at i;have⟨r,l,m⟩:=i;obtain⟨o,rfl,p⟩:=Uc q;have k:o=.string s:=p;subst k;refine .inr<|.inl ⟨f,_,g _ _,(d s (J4 s.data.toList 0) w (ZT0 m)<|EL (by intro e;rw[e]at l;simp at l) r).mono ?_⟩
   rintro e w' ⟨rfl,hb⟩;exact⟨_,rfl,RO c hb ⟨_,rfl,_,_,rfl,rfl,_,_,rfl,rfl,rfl⟩⟩
 .cases b
def EN{f:Nat}(k:∀a w,(callFunc f a).run P w=.ok (.enter f a) w)
 (i:∀(s c:ByteArray)(w:World),s.size<4294967281->c.size=2->(∀(j:Nat)b,c.data.toList[j]?=some b->b.toNat<128)->Calls P f #[.string s,.string c] w λe w'=>e=.returned (.int .i64<|Go.Lib.indexAny s.data.toList c.data.toList)/\Go.RowKit.Below w.heap.size w w'):Qn P E f J6:=by
 intro a h v h' g T X w n _ c B;unfold J6 at g;split at g
 .rename_i s d;cases m:Nat.blt s.size 4294967281&&(Nat.beq d.size 2&&d.data.toList.all (λb=>Nat.blt b.toNat 128))with
  |false=>rw[m]at g;cases g
  |true=>
   rw[m]at g;cases g;simp only[ZSq]at m;have⟨C,z,r⟩:=m;obtain⟨y,t,rfl,A,u⟩:=RN B;have o:y=.string s:=A;have q:t=.string d:=u;subst o q;rw[ZSw]at r;refine .inr<|.inl ⟨f,_,k _ _,(i s d w (ZT0 C) (ZUc z)<|λj b p=>ZT0<|r b<|ZSy p).mono ?_⟩
   rintro e w' ⟨rfl,p⟩;refine⟨_,rfl,RO c p ?_⟩;have e:Yc (λx=>d.data.toList.any (·==x)) s.data.toList 0=Go.Lib.indexAny s.data.toList d.data.toList:=by
    refine LY (F:=λl=>Go.Lib.indexAny l d.data.toList) (λl=>Go.Lib.indexAny_ge _ l) rfl (λb l=>?_) _
    have:d.data.toList.contains b=d.data.toList.any (·==b):=by
     rw[List.contains_eq_any_beq];congr 1
     funext x
     exact Bool.beq_comm
    simp only[Go.Lib.indexAny,this]
   rw[e];rfl
 .cases g
end Go.AM
namespace Go.AM
open Go Go.Sort Go.Proofs
variable {P:Program} {E:Env} {T:Ty} {X:Xt} {w w':World} {h:Hp}
def bytesOf:AV->List UInt8
 | .str s=>s.data.toList
 |_=>[]
def D0{es:List AV}(h:es.all WB=true):es=(es.map bytesOf).map Qd:=by
 induction es with
 |nil=>rfl
 |cons a r b=>
  rw[ZTE,ZSq]at h;rw[ZSx,ZSx,<-b h.2];cases a<;>simp[WB]at h
  simp[Qd,bytesOf]
def RP(b:List<|List UInt8):flat (b.map Qd)=b.map Qd:=by
 induction b with
 |nil=>rfl
 |cons a r c=>rw[ZSx,VH,c];rfl
def RQ{b:List (List UInt8)}{us:List Value}:Rs T X w (b.map Qd) us↔us=b.map encStr:=by
 induction b generalizing us with
 |nil=>exact Iff.rfl
 |cons a r d=>
  constructor
  .rintro⟨v,g,rfl,f,e⟩;have c:v=.string ⟨a.toArray⟩:=f;rw[c,d.1 e];rfl
  .rintro rfl;exact⟨_,_,rfl,rfl,d.2 rfl⟩
def D1{r C B:Nat}{cs:Array Value}{l:TypeId}{b:List (List UInt8)}(d:w.heap[r]?=some (.cells cs l (0,0)))(g:cs.size=C*1)(c:B+b.length<=C)(n:ZA T X w 1 r (b.map Qd)<|B*1):
 Holds encStr w r B b.toArray:=by
 have⟨h,us,f,k,m,e,p⟩:=HZ n d g<|by simpa using c
 rw[RP,RQ]at e;subst e;intro j o;have a:j<b.length:=by simpa using o
 have i:cs[B+j]?=some (encStr b.toArray[j]!):=by
  have:cs.toList[B+j]?=some (encStr b[j]):=by
   rw[k,ZTd (by omega),m,show B+j-B*1=j by omega,ZT2<|by simpa using a]
   simp[a]
  rw[ZTV]at this;rw[this];simp[a]
 constructor
 .simpa[World.cell?,d]using i
 .simp[World.frozen?,d]
def EO(w:World)(r B:Nat)(d:Array<|List UInt8){cs:Array Value}{a:TypeId}(b:w.heap[r]?=some (.cells cs a (0,0))):
 (putRow encStr w r B d).heap[r]?=some (.cells (putCells encStr B d cs) a (0,0)):=by
 simp[putRow,mapBlock,ZUo,b,onCells]
def EP(w:World)(r B:Nat)(d:Array<|List UInt8){x:Nat}(a:x≠r):(putRow encStr w r B d).heap[x]?=w.heap[x]?:=by
 simp[putRow,mapBlock,ZUo,Ne.symm a]
def EQ(d:Array<|List UInt8)(cs:Array Value){j B:Nat}(a:j<d.size)(b:B+j<cs.size):(putCells encStr B d cs)[B+j]?=some (encStr d[j]!):=by
 simp[putCells,Array.getElem?_mapIdx,b,a]
def ER(d:Array<|List UInt8)(cs:Array Value){B:Nat}:(putCells encStr B d cs).size=cs.size:=by simp[putCells]
def D2(m:M T X h w){b r C B:Nat}{cs:Array Value}{A:TypeId}{f tt:List (List UInt8)}(E:h[b]?=some (.row 1<|f.map Qd))(D:T b=some (.row 1 f.length (some r) C B))
 (L:w.heap[r]?=some (.cells cs A (0,0))) (H:cs.size=C*1) (z:B+f.length<=C) (g:tt.length=f.length) (n:Nat) (os:Array Obj):
 Step T w T (grow (putRow encStr (Go.Sort.ahead w n) r B tt.toArray) os)/\M T X (setH h b<|.row 1<|tt.map Qd) (grow (putRow encStr (Go.Sort.ahead w n) r B tt.toArray) os):=by
 have v:(Go.Sort.ahead w n).heap[r]?=some (.cells cs A (0,0)):=L;have i:=EO (Go.Sort.ahead w n) r B tt.toArray v;have a:=KC D;have⟨s,q⟩:=JV (w':=putRow encStr (Go.Sort.ahead w n) r B tt.toArray) (c:=.row 1 f.length (some r) C B) (c':=.row 1 f.length (some r) C B) (o:=.row 1<|tt.map Qd) m D rfl rfl (.refl _) (KD E) rfl rfl rfl (by simp) (λx p=>EP (Go.Sort.ahead w n) r B _ p)
  (λs=>by
   refine⟨rfl,by simp[g],Nat.one_pos,z,_,A,i,by rw[ER];exact H,?_⟩
   refine Wq (λe G=>?_) ?_
   .obtain⟨l,_,rfl⟩:=ZSM.1 G;rfl
   .rw[RP];refine Xs (RQ.2 rfl) (λj u t=>?_)
    have y:j<tt.length:=by
     have:=(ZSA.1 t).1;simpa using this
    rw[ZTg];have J:=EQ (B:=B) tt.toArray cs (j:=j) (by simpa using y)<|by omega
    have F:u=encStr tt.toArray[j]!:=by
     rw[ZT7,ZSu y]at t;have:=Option.some.inj t;rw[<-this];simp[y]
    rw[F];simpa[World.at,World.cell?,i]using J)
 rw[a]at s q;have d:Go.RowKit.Below (putRow encStr (Go.Sort.ahead w n) r B tt.toArray).heap.size (putRow encStr (Go.Sort.ahead w n) r B tt.toArray) (grow (putRow encStr (Go.Sort.ahead w n) r B tt.toArray) os):={
  os:=rfl,tape:=rfl,output:=rfl,size:=by simp[grow]
  block:=λk K=>by
   show(_++os)[k]?=_
   rw[ZUt K]}
 exact⟨s.trans<|Ua d,Xr q (Ua d)<|λx p=>d.block x<|q.lt x p⟩
end Go.AM
namespace Go.AM
open Go Go.Sort Go.Proofs
variable {P:Program} {E:Env} {T:Ty} {X:Xt} {w w':World} {h:Hp}
def leB(x y:List UInt8):Bool:=decide (x<=y)
def ES(a b:List UInt8):GP (Qd a) (Qd b)=leB a b:=by
 show(!WW _ _)=_
 unfold WW leB;have g:(⟨b.toArray⟩:ByteArray).data.toList=b:=by simp
 have f:(⟨a.toArray⟩:ByteArray).data.toList=a:=by simp
 rw[g,f,bytesLess_eq];by_cases c:b<a
 .have e:¬a<=b:=λd=>d c
  simp[c,e]
 .have e:a<=b:=c;simp[c,e]
def WC(x:List UInt8):List (List UInt8)->List (List UInt8)
 |[]=>[x]
 |y::r=>bif leB x y then x::y::r else y::WC x r
def WD:List (List UInt8)->List (List UInt8)
 |[]=>[]
 |x::r=>WC x<|WD r
def D3(x:List UInt8):∀l:List<|List UInt8,Vb (Qd x) (l.map Qd)=(WC x l).map Qd
 |[]=>rfl
 |y::r=>by
  rw[ZSx];unfold Vb WC;rw[ES];cases leB x y with
  |true=>rfl
  |false=>simp only[cond_false,D3 x r,ZSx]
def D4:∀l:List<|List UInt8,Yk (l.map Qd)=(WD l).map Qd
 |[]=>rfl
 |x::r=>by
  rw[ZSx];unfold Yk WD;rw[D4 r,D3]
def RR(x:List UInt8):∀l,(WC x l).Perm (x::l)
 |[]=>.refl _
 |y::r=>by
  unfold WC;cases leB x y with
  |true=>exact .refl _
  |false=>exact((RR x r).cons y).trans (.swap x y r)
def RS:∀l,(WD l).Perm l
 |[]=>.refl _
 |x::r=>(RR x<|WD r).trans ((RS r).cons x)
def D5(a b c:List UInt8)(d:leB a b=true)(e:leB b c=true):leB a c=true:=by
 unfold leB at*;exact decide_eq_true<|List.le_trans (of_decide_eq_true d)<|of_decide_eq_true e
def D6(a b:List UInt8):(leB a b||leB b a)=true:=by
 unfold leB;rcases List.le_total a b with h|h
 .simp[h]
 .simp[h]
def ET(a b:List UInt8)(c:leB a b=true)(d:leB b a=true):a=b:=
 List.le_antisymm (of_decide_eq_true c) (of_decide_eq_true d)
def D7(x:List UInt8):∀l,l.Pairwise (λa b=>leB a b=true)->(WC x l).Pairwise (λa b=>leB a b=true)
 |[],_=>by simp[WC]
 |y::r,hp=>by
  have d:=hp;rw[ZTr]at hp;have⟨f,g⟩:=hp;unfold WC;cases e:leB x y with
  |true=>
   rw[cond_true,ZTr];refine⟨λz c=>?_,d⟩
   rcases ZST.1 c with rfl|c
   .exact e
   .exact D5 _ _ _ e<|f z c
  |false=>
   rw[cond_false,ZTr];refine⟨λz c=>?_,D7 x r g⟩
   rcases ZST.1 ((RR x r).mem_iff.1 c)with rfl|c
   .have:=D6 z y;rw[e]at this;simpa using this
   .exact f z c
def D8:∀l,(WD l).Pairwise (λa b=>leB a b=true)
 |[]=>.nil
 |x::r=>D7 x _<|D8 r
def D9:∀(l m:List<|List UInt8),l.Perm m->l.Pairwise (λa b=>leB a b=true)->m.Pairwise (λa b=>leB a b=true)->l=m
 |[],m,hp,_,_=>by have:=hp.length_eq;exact(ZUs.1 this.symm).symm
 |a::r,[],hp,_,_=>by have:=hp.length_eq;simp at this
 |a::r,b::s,hp,h1,h2=>by
  rw[ZTr]at h1 h2;have c:a=b:=by
   rcases ZST.1 (hp.mem_iff.1<|ZSV ..)with e|e
   .exact e
   rcases ZST.1 (hp.symm.mem_iff.1<|ZSV ..)with e2|e2
   .exact e2.symm
   exact ET _ _ (h1.1 b e2)<|h2.1 a e
  subst c;rw[D9 r s hp.cons_inv h1.2 h2.2]
def EU(l:List<|List UInt8):WD l=l.mergeSort leB:=
 D9 _ _ ((RS l).trans (List.mergeSort_perm l leB).symm) (D8 l) (List.pairwise_mergeSort D5 D6 l)
def RT:∀{h:Hp}{b:Nat}{o:AObj},h[b]?=some o->setH h b o=h
 |[],b,o,hb=>by simp at hb
 |x::r,0,o,hb=>by
  simp at hb;subst hb;rfl
 |x::r,b+1,o,hb=>by
  simp only[ZTp]at hb;rw[GN,RT hb]
def Da(m:M T X h w){b g:Nat}{ex:Bool}{es:List AV}{v:Value}(f:h[b]?=some (.row 1 es))(s:es.length=g)(e:es.all WB=true)(u:R T X w (.sl b g 0 g ex) v):
 (∃r C B cap cs c,T b=some (.row 1 es.length (some r) C B)/\v=.slice (some ⟨r,B,none⟩) g cap/\g<=cap/\B+cap<=C/\w.heap[r]?=some (.cells cs c (0,0))/\cs.size=C*1/\B+es.length<=C/\ZA T X w 1 r es (B*1))\/
 (es=[]/\∃p,v=.slice p 0 0):=by
 have⟨r,C,B,d,E,l,j⟩:=XV m f;have⟨_,o,D,J,G,H,a,F,A,q⟩:=u;rw[d]at a;cases a;have⟨cap,k,z,K,x⟩:=q s.symm;rcases x with⟨i,rfl,rfl⟩|⟨rfl,p,rfl,q8⟩
 .have⟨cs,c,y,n,t⟩:=j;exact .inl ⟨i,C,B,cap,cs,c,d,by rw[ZTg,ZTc],k,by omega,y,n,l,t⟩
 .have:es=[]:=ZUs.1 (by omega)
  exact .inr ⟨this,p,rfl⟩
def EV{f:Nat}(s:∀d w,(callFunc f d).run P w=.ok (.enter f d) w)
 (u:∀(k off cap:Nat)(i:List<|List UInt8)(w:World),Holds encStr w k off i.toArray->k<w.heap.size->i.length<4611686018427387904->Calls P f #[.slice (some ⟨k,off,none⟩) i.length cap] w λe w'=>
  e=.returned (.tuple #[])/\∃n os,w'=grow (putRow encStr (Go.Sort.ahead w n) k off (i.mergeSort λx y=>decide (x<=y)).toArray) os)
 (o:∀(p:Option Addr)(cap:Nat)(w:World),Calls P f #[.slice p 0 cap] w λe w'=>e=.returned (.tuple #[])/\w'=w):Qn P E f J7:=by
 intro d h v h' j T X w G _ c R;unfold J7 at j;split at j
 .rename_i b g off D ex;split at j
  .rename_i sz es A;cases z:sz==1&&(es.length==g&&(off==0&&(D==g&&(es.all WB&&Nat.ble es.length 1000000))))with
   |false=>rw[z]at j;cases j
   |true=>
    rw[z]at j;cases j;simp only[ZSq,beq_iff_eq]at z;obtain⟨rfl,H,rfl,rfl,N,V⟩:=z;have t:=ZT0 V;obtain⟨Y,rfl,U⟩:=Uc R;refine .inr<|.inl ⟨f,_,s _ _,?_⟩;rcases Da c.m A H N U with⟨r,C,B,cap,cs,Z,K,rfl,M,_,J,L,l,q⟩|⟨rfl,p,rfl⟩
    .have a:=D0 N;generalize es.map bytesOf=i at a;subst a;rw[ZSs]at K l H t;subst H;have S:=D1 J L l q;refine(u r B cap i w S (ZTi.1 J).1 (by omega)).mono ?_
     rintro e w' ⟨rfl,n,os,rfl⟩;have F:(i.mergeSort λx y=>decide (x<=y))=WD i:=(EU i).symm
     rw[F];have⟨Q,O⟩:=D2 (tt:=WD i) c.m A K J L l (RS i).length_eq n os;rw[D4];exact⟨_,rfl,T,Q,O,#[],rfl,rfl⟩
    .refine(o p 0 w).mono ?_;rintro e w' ⟨rfl,rfl⟩;refine⟨_,rfl,T,.refl _ _,?_,#[],rfl,rfl⟩;have W:setH h b (.row 1<|Yk [])=h:=RT A;rw[W];exact c.m
  .cases j
 .cases j
end Go.AM
namespace Go.AM
open Go Go.Sort Go.Proofs
variable {P:Program} {E:Env} {T:Ty} {X:Xt} {w w':World} {h:Hp}
def EW(a b:List UInt8):sameKey (Qd a) (Qd b)=(a==b):=by
 show Z3 _ _=_
 unfold Z3;simp
def Xa:List UInt8->List (List UInt8)->List (List UInt8)
 |_,[]=>[]
 |p,b::r=>bif b==p then Xa b r else b::Xa b r
def Db:∀(a:List UInt8)(r:List<|List UInt8),Ys ((a::r).map Qd)=(a::Xa a r).map Qd
 |a,[]=>rfl
 |a,b::r=>by
  have f:=Db b r;rw[ZSx]at f⊢;rw[ZSx];unfold Ys;rw[f,ZSx];dsimp only;rw[EW,show Xa a (b::r)=bif b==a then Xa b r else b::Xa b r from rfl]
  cases c:a==b with
  |true=>
   have e:a=b:=by simpa using c
   subst e;have d:(a==a)=true:=by simp
   rw[d];rfl
  |false=>
   have d:(b==a)=false:=by
    have:a≠b:=by simpa using c
    simpa using this.symm
   rw[d];rfl
def Dc(x:List UInt8):∀(p:List UInt8)(l:List<|List UInt8),Xa p (l++[x])=Xa p l++(bif x==(p::l).getLast (by simp)then []else [x])
 |p,[]=>by
  simp only[ZSz,Xa,List.getLast_singleton]
 |p,b::r=>by
  rw[ZSv];have a:=Dc x b r;unfold Xa;have e:(p::b::r).getLast (by simp)=(b::r).getLast (by simp):=List.getLast_cons<|by simp
  rw[a,e];cases b==p<;>rfl
def Dd(a:List UInt8)(b:List<|List UInt8):∀m,m<=b.length->Go.Lib.compactUpTo (a::b).toArray (m+1)=a::Xa a (b.take m)
 |0,_=>by
  rw[Go.Lib.compactUpTo_succ];simp[Go.Lib.compactUpTo,Go.Lib.keeps,Xa]
 |m+1,hm=>by
  rw[Go.Lib.compactUpTo_succ,Dd a b m<|by omega]
  have e:m<b.length:=by omega
  rw[ZUK e,Dc];have f:(a::b).toArray[m+1]! = b[m]:=by simp[e]
  have g:(a::b).toArray[m+1-1]! =(a::b.take m).getLast (by simp):=by
   cases m with
   |zero=>simp
   |succ k=>
    have c:k<b.length:=by omega
    have i:a::b.take (k+1)=(a::b.take k)++[b[k]]:=by
     rw[ZUK c];rfl
    have h:(a::b.take (k+1)).getLast (by simp)=((a::b.take k)++[b[k]]).getLast (by simp):=by congr 1
    rw[h,List.getLast_concat];simp[c]
  have c:Go.Lib.keeps (a::b).toArray (m+1) = !(b[m]==(a::b.take m).getLast (by simp)):=by
   unfold Go.Lib.keeps;rw[f,g];by_cases d:b[m]=(a::b.take m).getLast (by simp)
   .simp[d]
   .simp[d]
  rw[c,f,ZSv];cases b[m]==(a::b.take m).getLast (by simp)<;>rfl
def EX(b:List<|List UInt8):Ys (b.map Qd)=(Go.Lib.compact b).map Qd:=by
 cases b with
 |nil=>rfl
 |cons a r=>
  rw[Db];unfold Go.Lib.compact;rw[ZSG,Dd a r r.length<|ZSr _,ZSZ]
def EY{f:Nat}(x:∀d w,(callFunc f d).run P w=.ok (.enter f d) w)
 (A:∀(j off cap:Nat)(k:List<|List UInt8)(w:World),Holds encStr w j off k.toArray->k.length<=9223372036854775807->k.length<=cap->Calls P f #[.slice (some ⟨j,off,none⟩) k.length cap] w λe w'=>
  e=.returned (.slice (some ⟨j,off,none⟩) (Go.Lib.compact k).length cap)/\∃q,w'=putRow encStr (Go.Sort.ahead w q) j off (Go.Lib.compact k++List.replicate (k.length-(Go.Lib.compact k).length) []).toArray)
 (o:∀(p:Option Addr)(cap:Nat)(w:World),Calls P f #[.slice p 0 cap] w λe w'=>e=.returned (.slice p 0 cap)/\w'=w):Qn P E f J8:=by
 intro d h v h' i T X w K _ c Y;unfold J8 at i;split at i
 .rename_i b g off J ex;split at i
  .rename_i sz es G;cases D:sz==1&&(es.length==g&&(off==0&&(J==g&&(es.all WB&&Nat.ble es.length 1000000))))with
   |false=>rw[D]at i;cases i
   |true=>
    rw[D]at i;cases i;simp only[ZSq,beq_iff_eq]at D;obtain⟨rfl,F,rfl,rfl,U,c6⟩:=D;have z:=ZT0 c6;obtain⟨v0,rfl,S⟩:=Uc Y;refine .inr<|.inl ⟨f,_,x _ _,?_⟩;rcases Da c.m G F U S with⟨r,C,B,cap,cs,el,H,rfl,y,aa,V,R,l,u⟩|⟨rfl,p,rfl⟩
    .have a:=D0 U;generalize es.map bytesOf=ss at a;subst a;rw[ZSs]at H l F z;subst F;have hH:=D1 V R l u;refine(A r B cap ss w hH (by omega) y).mono ?_
     rintro e w' ⟨rfl,n,rfl⟩;rw[EX,ZSs];have ab:(Go.Lib.compact ss).length<=ss.length:=by
      unfold Go.Lib.compact Go.Lib.compactUpTo;rw[ZSs];exact ZTa (ZTS _ _)<|by simp
     have M:((Go.Lib.compact ss)++List.replicate (ss.length-(Go.Lib.compact ss).length) []).length=ss.length:=by simp;omega
     have⟨Q,O⟩:=D2 (tt:=(Go.Lib.compact ss)++List.replicate (ss.length-(Go.Lib.compact ss).length) []) c.m G H V R l M n #[];rw[Go.Sort.grow_empty]at Q O;have N:(Go.Lib.compact ss).map Qd++List.replicate (ss.length-(Go.Lib.compact ss).length) (Qd [])=((Go.Lib.compact ss)++List.replicate (ss.length-(Go.Lib.compact ss).length) []).map Qd:=by simp
     rw[N];refine⟨_,rfl,T,Q,O,⟨_,_,_,rfl⟩,1,ss.length,some r,C,B,H,ZSr _,by omega,λ_=>⟨cap,by omega,by omega,λs=>by simp at s,.inl ⟨r,rfl,by rw[ZTg,ZTc]⟩⟩⟩
    .refine(o p 0 w).mono ?_;rintro e w' ⟨rfl,rfl⟩;have t:=F;rw[ZT1]at t;subst t;have N:setH h b (.row 1<|Ys []++List.replicate (0-(Ys []).length) (Qd []))=h:=RT G;refine⟨_,rfl,T,.refl _ _,by rw[N];exact c.m,?_⟩
     have⟨q0,L,Z,r2,C2,B2,q1,W,q3,q4⟩:=S;refine⟨q0,L,Z,r2,C2,B2,q1,W,q3,λs=>?_⟩
     have⟨cap,k1,k2,k3,k4⟩:=q4 s;exact⟨cap,k1,k2,λs=>by simp at s,k4⟩
  .cases i
 .cases i
def EZ{f:Nat}{A:TypeId}(l:∀d w,(callFunc f d).run P w=.ok (.enter f d) w)
 (p:∀(b off n c:Nat)(news:List Value)(w:World),news.length=n*1->n<=maxLen->n*16<=140737488355328->(∀j u,news[j]?=some u->w.cell? ⟨b,off+j,none⟩=some u)->(∀u∈news,u.oneCell'=true)->
  Calls P f #[.slice (some ⟨b,off,none⟩) n c] w λe w'=>∃v',e=.returned v'/\w'.ownsRow w.heap.size A 1 v' n news/\v'≠.slice none 0 0/\Go.RowKit.Below w.heap.size w w')
 (q:∀(n c:Nat)(w:World),Calls P f #[.slice none n c] w λe w'=>e=.returned (.slice none 0 0)/\w'=w)
 (i:∀(a:Addr)(c:Nat)(w:World),Calls P f #[.slice (some a) 0 c] w λe w'=>∃v',e=.returned v'/\w'.ownsRow w.heap.size A 1 v' 0 []/\v'≠.slice none 0 0/\Go.RowKit.Below w.heap.size w w'):Qn P E f J9:=by
 intro d h v h' g T X w y _ c F;unfold J9 at g;split at g
 .rename_i x;cases t:Q2 h x with
  |none=>rw[t]at g;cases g
  |some es=>
   rw[t]at g;dsimp only at g;cases s:Qq h 1 x&&(es.all (fits 1)&&Nat.ble es.length 1000000)with
   |false=>rw[s]at g;cases g
   |true=>
    rw[s]at g;cases g;simp only[ZSq]at s;have⟨Q,O,L⟩:=s;have D:es.length<=1000000:=ZT0 L;obtain⟨S,rfl,J⟩:=Uc F;obtain⟨ad,cap,rfl,C,k⟩:=G6 c.m J t Q;refine .inr<|.inl ⟨f,_,l _ _,?_⟩;rcases k with rfl|⟨r,o,rfl,hrr⟩
    .cases ad with
     |none=>
      refine(q _ cap w).mono ?_;rintro e w' ⟨rfl,rfl⟩;exact⟨_,rfl,Ub (e:=A) (news:=[]) c (.refl _ _) Nat.one_pos (λ_ z=>by cases z) rfl ⟨rfl,.inl ⟨rfl,rfl⟩⟩⟩
     |some a=>
      refine(i a cap w).mono ?_;rintro e w' ⟨v',rfl,h1,_,h2⟩;exact⟨v',rfl,Ub (news:=[]) c h2 Nat.one_pos (λ_ z=>by cases z) rfl h1⟩
    .have⟨N,R,K⟩:=Kx hrr;have⟨us,G,B⟩:=Kv N;have M:=Qr B;refine(p r o es.length cap us w (by omega) (by unfold maxLen;omega) (by omega) (λj u H=>G j u H)<|R8 O us B).mono ?_
     rintro e w' ⟨v',rfl,h1,_,h2⟩;exact⟨v',rfl,Ub c h2 Nat.one_pos K B h1⟩
 .cases g
def ZOv{f sz bytes:Nat}{D:TypeId}(A:0<sz)(y:bytes<=1000)(l:∀d w,(callFunc f d).run P w=.ok (.enter f d) w)
 (q:∀(b off n c:Nat)(news:List Value)(w:World),news.length=n*sz->n<=maxLen->n*bytes<=140737488355328->(∀j u,news[j]?=some u->w.cell? ⟨b,off+j,none⟩=some u)->(∀u∈news,u.oneCell'=true)->
  Calls P f #[.slice (some ⟨b,off,none⟩) n c] w λe w'=>∃v',e=.returned v'/\w'.ownsRow w.heap.size D sz v' n news/\v'≠.slice none 0 0/\Go.RowKit.Below w.heap.size w w')
 (s:∀(n c:Nat)(w:World),Calls P f #[.slice none n c] w λe w'=>e=.returned (.slice none 0 0)/\w'=w)
 (i:∀(a:Addr)(c:Nat)(w:World),Calls P f #[.slice (some a) 0 c] w λe w'=>∃v',e=.returned v'/\w'.ownsRow w.heap.size D sz v' 0 []/\v'≠.slice none 0 0/\Go.RowKit.Below w.heap.size w w'):Qn P E f (ZO3 sz):=by
 intro d h v h' g T X w B _ c H;unfold ZO3 at g;split at g
 .rename_i x;cases z:Q2 h x with
  |none=>rw[z]at g;cases g
  |some es=>
   rw[z]at g;dsimp only at g;cases t:Qq h sz x&&(es.all (fits sz)&&Nat.ble es.length 1000000)with
   |false=>rw[t]at g;cases g
   |true=>
    rw[t]at g;cases g;simp only[ZSq]at t;have⟨S,R,N⟩:=t;have p:es.length<=1000000:=ZT0 N;obtain⟨V,rfl,L⟩:=Uc H;obtain⟨ad,cap,rfl,G,k⟩:=G6 c.m L z S;refine .inr<|.inl ⟨f,_,l _ _,?_⟩;rcases k with rfl|⟨r,o,rfl,hrr⟩
    .cases ad with
     |none=>
      refine(s _ cap w).mono ?_;rintro e w' ⟨rfl,rfl⟩;exact⟨_,rfl,Ub (e:=D) (news:=[]) c (.refl _ _) A (λ_ C=>by cases C) rfl ⟨by simp,.inl ⟨rfl,rfl⟩⟩⟩
     |some a=>
      refine(i a cap w).mono ?_;rintro e w' ⟨v',rfl,h1,_,h2⟩;exact⟨v',rfl,Ub (news:=[]) c h2 A (λ_ C=>by cases C) rfl h1⟩
    .have⟨Q,U,M⟩:=Kx hrr;have⟨us,J,F⟩:=Kv Q;have O:=Qr F;refine(q r o es.length cap us w (by omega) (by unfold maxLen;omega) (by have:es.length*bytes<=1000000*1000:=Nat.mul_le_mul p y;omega) (λj u K=>J j u K)<|R8 R us F).mono ?_
     rintro e w' ⟨v',rfl,h1,_,h2⟩;exact⟨v',rfl,Ub c h2 A M F h1⟩
 .cases g
end Go.AM
namespace Go.AM
open Go Go.Sort Go.Proofs
variable {P:Program} {E:Env} {T:Ty} {X:Xt} {w w':World} {h:Hp}
def I0(x:UInt8)(k:Nat)(r:List UInt8):Go.Lib.splitK [x] 0 (k+1) (x::r)=[]::Go.Lib.splitK [x] 0 k r:=by
 have a:Go.Lib.index (x::r) [x]=0:=by rw[Go.Lib.index_one];simp[Go.Lib.indexByte]
 conv=>lhs;unfold Go.Lib.splitK
 rw[a];simp
def I1(x c:UInt8)(j:(c==x)=false):∀(k:Nat)(r:List UInt8),Go.Lib.splitK [x] 0 k (c::r)=(match Go.Lib.splitK [x] 0 k r with|w::ws=>(c::w)::ws|[]=>[[c]])
 |0,r=>rfl
 |k+1,r=>by
  have e:Go.Lib.index (c::r) [x]=if Go.Lib.index r [x]==-1 then -1 else Go.Lib.index r [x]+1:=by
   rw[Go.Lib.index_one,Go.Lib.index_one]
   conv=>lhs;unfold Go.Lib.indexByte
   rw[j];simp
  have f:-1<=Go.Lib.index r [x]:=by rw[Go.Lib.index_one];exact Go.Lib.indexByte_ge _ _
  unfold Go.Lib.splitK;rw[e];cases h:Go.Lib.index r [x]==-1 with
  |true=>simp
  |false=>
   have d:Go.Lib.index r [x]≠-1:=by simpa using h
   obtain⟨i,a⟩:∃i:Nat,Go.Lib.index r [x]=(i:Int):=⟨(Go.Lib.index r [x]).toNat,by omega⟩
   rw[a];have l:(((i:Int)+1)==-1)=false:=by
    have:((i:Int)+1)≠-1:=by omega
    simpa using this
   have g:((i:Int)+1).toNat=i+1:=by omega
   have b:((i:Int)).toNat=i:=rfl;simp only[ZSH,if_false,l,g,b,ZTc,ZTT,ZUp,List.drop_succ_cons]
def RU(x:UInt8):∀(l:List UInt8)(k:Nat),l.count x<=k->Go.Lib.splitK [x] 0 k l=Q4 x l
 |[],0,_=>rfl
 |[],k+1,_=>by
  unfold Go.Lib.splitK;rw[Go.Lib.index_one];simp[Go.Lib.indexByte,Q4]
 |c::r,k,hk=>by
  unfold Q4;cases d:c==x with
  |true=>
   have e:c=x:=by simpa using d
   subst e;rw[List.count_cons_self]at hk;obtain⟨a,rfl⟩:∃a,k=a+1:=⟨k-1,by omega⟩
   rw[I0,cond_true,RU c r a<|by omega]
  |false=>
   have b:x≠c:=λe=>by subst e;simp at d
   rw[List.count_cons_of_ne<|by simpa using b.symm]at hk
   rw[I1 x c d,cond_false,RU x r k hk];rfl
def De(c:UInt8):∀l:List UInt8,(Q4 c l).length<=l.length+1
 |[]=>by simp[Q4]
 |x::r=>by
  have:=De c r;unfold Q4;cases x==c with
  |true=>simp;omega
  |false=>
   simp only[cond_false];cases h:Q4 c r with
   |nil=>simp
   |cons w a=>rw[h]at this;simp at this⊢;omega
def Df(x:UInt8):∀l:List UInt8,(Q4 x l).length=l.count x+1
 |[]=>rfl
 |c::r=>by
  have a:=Df x r;unfold Q4;cases d:c==x with
  |true=>
   have e:c=x:=by simpa using d
   subst e;rw[List.count_cons_self,cond_true,ZSG,a]
  |false=>
   have b:x≠c:=λe=>by subst e;simp at d
   rw[List.count_cons_of_ne (by simpa using b.symm),cond_false]
   cases h:Q4 x r with
   |nil=>rw[h]at a;simp at a
   |cons w f=>rw[h]at a;simpa using a
def I2{f:Nat}{A:TypeId}(m:∀g w,(callFunc f g).run P w=.ok (.enter f g) w)
 (n:∀(s:ByteArray)(x:UInt8)(w:World),s.size<4294967281->Calls P f #[.string s,.string ⟨#[x]⟩] w λe w'=>
  e=.returned (.slice (some ⟨w.heap.size,0,none⟩) (Go.Lib.countB s ⟨#[x]⟩+1)<|Go.Lib.countB s ⟨#[x]⟩+1)/\w'=w.alloc (.cells ((Go.Lib.splitB ⟨#[x]⟩ 0 (Go.Lib.countB s ⟨#[x]⟩) s).map Value.string).toArray A)):Qn P E f Ja:=by
 intro g h v h' i T X w u _ c F;unfold Ja at i;split at i
 .rename_i s z;split at i
  .rename_i x B;cases p:Nat.blt s.size 4294967281 with
   |false=>rw[p]at i;cases i
   |true=>
    rw[p]at i;cases i;have r:s.size<4294967281:=ZT0 p;obtain⟨J,G,rfl,L,H⟩:=RN F;have q:J=.string s:=L;have t:G=.string z:=H;subst q t;have o:z=⟨#[x]⟩:=by
     cases z with
     |mk d=>simp at B;simp[<-B]
    subst o;have a:Go.Lib.countB s ⟨#[x]⟩=s.data.toList.count x:=by
     have:Go.Lib.countB s ⟨#[x]⟩=Go.Lib.count s.data.toList [x]:=rfl;rw[this,Go.Lib.count_one]
    have k:=Go.Lib.splitB_data ⟨#[x]⟩ 0 (Go.Lib.countB s ⟨#[x]⟩) s;have M:Go.Lib.splitK [x] 0 (Go.Lib.countB s ⟨#[x]⟩) s.data.toList=Q4 x s.data.toList:=RU x _ _<|by rw[a];exact ZSr _
    have j:(Go.Lib.splitB ⟨#[x]⟩ 0 (Go.Lib.countB s ⟨#[x]⟩) s).map Value.string=(Q4 x s.data.toList).map encStr:=by
     rw[<-M];have C:(Go.Lib.splitB ⟨#[x]⟩ 0 (Go.Lib.countB s ⟨#[x]⟩) s).map (λb=>b.data.toList)=Go.Lib.splitK [x] 0 (Go.Lib.countB s ⟨#[x]⟩) s.data.toList:=k
     rw[<-C,ZTm];apply ZTZ;intro b _;show Value.string b=Value.string ⟨b.data.toList.toArray⟩
     simp
    have D:Go.Lib.countB s ⟨#[x]⟩+1=(Q4 x s.data.toList).length:=by
     rw[a];exact(Df x _).symm
    refine .inr<|.inl ⟨f,_,m _ _,(n s x w r).mono ?_⟩;rintro e w' ⟨rfl,rfl⟩;rw[D,j];have K:(Q4 x s.data.toList).length<=4294967281:=by
     have:=De x s.data.toList;have O:s.data.toList.length=s.size:=ZTb;omega
    refine⟨_,rfl,?_⟩;have:=Ub (v':=.slice (some ⟨w.heap.size,0,none⟩) (Q4 x s.data.toList).length (Q4 x s.data.toList).length) (es:=(Q4 x s.data.toList).map Qd) (news:=(Q4 x s.data.toList).map encStr) (sz:=1) (e:=A) c (Go.RowKit.Below.alloc (.refl _ _) (ZSr _)<|.cells ((Q4 x s.data.toList).map encStr).toArray A) Nat.one_pos (λy N=>by obtain⟨l,_,rfl⟩:=ZSM.1 N;rfl) (by rw[RP];exact RQ.2 rfl)
     ⟨by simp,.inr ⟨w.heap.size,(Q4 x s.data.toList).length,_,by simp,ZSr _,Wo w _,by simp,by unfold maxLen;omega,by simp,(by simp only[ZSs,ZTg];exact ZSR<|by simp)⟩⟩
    simpa using this
  .cases i
 .cases i
end Go.AM
namespace Go.Proofs
open Go.Shelf Go.RowKit Go.Lib
variable {P:Program} {ρ:Ren}
set_option maxHeartbeats 1000000 in
def Z9R(L:Lays.n146 P ρ)(g:(P.info?<|ρ.t 9).map (λi=>(i.zero,i.size,i.bytes))=some (some<|.string ByteArray.empty,1,16))(s:ByteArray)(x:UInt8)(w:World)(r:s.size<4294967281):
 Calls P (ρ.f 146) #[.string s,.string ⟨#[x]⟩] w λe w'=>
  e=.returned (.slice (some ⟨w.heap.size,0,none⟩) (Lib.countB s ⟨#[x]⟩+1)<|Lib.countB s ⟨#[x]⟩+1)/\w'=w.alloc (.cells ((Lib.splitB ⟨#[x]⟩ 0 (Lib.countB s ⟨#[x]⟩) s).map Value.string).toArray<|ρ.t 9):=by
 have h:1<=(⟨#[x]⟩:ByteArray).size:=Nat.le_refl _;have q:=Lib.countB_le ⟨#[x]⟩ h s.size s<|Nat.le_refl _;have a:=Lib.splitB_all ⟨#[x]⟩ h 0 _ s rfl;have d:(Lib.countB s ⟨#[x]⟩:Int)=Lib.countByte s.data.toList x:=by
  have:Lib.countB s ⟨#[x]⟩=Lib.count s.data.toList [x]:=rfl;rw[this,Lib.count_one];rfl
 have c:=Any.strings_genSplit_core (n:=-1) (N:=Lib.countB s ⟨#[x]⟩+1) {L with} g s ⟨#[x]⟩ 0 w r h (Nat.zero_le _)
  (λy c E=>by
   have k:Lib.indexB y ⟨#[x]⟩=Lib.indexByte y.data.toList x:=by
    have:Lib.indexB y ⟨#[x]⟩=Lib.index y.data.toList [x]:=rfl;rw[this,Lib.index_one]
   rw[k];exact Any.strings_Index_one {L with} y x _)
  (by rw[d];exact Any.strings_Count_one {L with} s x w) (by decide) (by decide) (by rw[if_pos<|by decide];omega)
 rw[Nat.add_sub_cancel,a]at c;have m:Lib.cellsOf (Lib.splitB ⟨#[x]⟩ 0 (Lib.countB s ⟨#[x]⟩) s) (Lib.countB s ⟨#[x]⟩+1)=((Lib.splitB ⟨#[x]⟩ 0 (Lib.countB s ⟨#[x]⟩) s).map Value.string).toArray:=by rw[<-a];exact Lib.cellsOf_full _
 rw[m]at c;have C:=L.t3;have B:=L.t9;have u:=L.t31;have G:=L.a3;have A:=L.a9;have l:=L.a31;have D:=L.z3;have F:=L.v3;have v:=L.z9;have z:=L.v9;have p:=L.z31;have o:=L.v31;have j:∀b w,(callFunc (ρ.f 221) b).run P w=.ok (.enter (ρ.f 221) b) w:=enters_of L.f221 (by kernel_rfl) rfl
 go_enter L.f146,Body.n146_ntmps ρ
 go_wp2_with (go_at_fn (ρ.f 221);refine c.mono ?_;rintro e w' ⟨rfl,hw⟩;rw[hw])
 go_ret
 exact⟨rfl,rfl⟩
end Go.Proofs
namespace Go.Proofs
open Go.Shelf Go.RowKit Go.Lib
variable {P:Program} {ρ:Ren}
def I3(r:Int)(f:128<=r):(∃a b:UInt8,Utf8.encode r=⟨#[a,b]⟩/\128<=b.toNat)\/(∃a b c:UInt8,Utf8.encode r=⟨#[a,b,c]⟩)\/∃a b c d:UInt8,Utf8.encode r=⟨#[a,b,c,d]⟩:=by
 unfold Utf8.encode;have e:128<=(if Utf8.valid r=true then r.toNat else Utf8.runeError):=by
  split
  .omega
  .decide
 generalize(if Utf8.valid r=true then r.toNat else Utf8.runeError)=c at e
 dsimp only;split
 .omega
 .split
  .refine .inl ⟨_,_,rfl,?_⟩;rw[UInt8.toNat_ofNat'];omega
  .split
   .exact .inr<|.inl ⟨_,_,_,rfl⟩
   .exact .inr<|.inr ⟨_,_,_,_,rfl⟩
set_option maxHeartbeats 4000000 in
set_option maxRecDepth 1000000 in
def I4(L:Lays.n152 P ρ)(m:P.follows .mixedOrders=true)(l j:UInt8)(K:l.toNat<128)(S:j.toNat<128)(r:Int)(x:128<=r)(n:r≠65533)(w:World):
 Calls P (ρ.f 152) #[.string ⟨#[l,j]⟩,.int .i32 r] w λe w'=>e=.returned (.int .i64<|-1)/\∃q,w'=w.drewN q:=by
 have U:=L.t3;have Z:=L.a3;have V:=L.z3;have X:=L.v3;have C:=L.t4;have F:=L.a4;have H:=L.z4;have W:=L.v4;have Q:=L.t5;have T:=L.a5;have E:=L.z5;have J:=L.v5;have R:=L.t9;have O:=L.a9;have G:=L.z9;have M:=L.v9;have u:=L.t21;have s:=L.a21;have y:=L.z21;have v:=L.v21;have p:∀g w,(callFunc (ρ.f 137) g).run P w=.ok (.enter (ρ.f 137) g) w:=enters_of L.f137 (by kernel_rfl) rfl
 have o:∀g w,(callFunc (ρ.f 119) g).run P w=.ok (.enter (ρ.f 119) g) w:=enters_of L.f119 (by kernel_rfl) rfl
 have h:∀w,(convert (ρ.t 21) (ρ.t 9)<|.int .i32 r).run P w=.ok (.string<|Utf8.encode r) w:=λw=>run_convert_int_string w _ _ _ _ (by rw[L.t21];rfl) L.t9
 have Y:decide (r<128)=false:=decide_eq_false<|by omega
 have N:(r==65533)=false:=beq_eq_false_iff_ne.2 n;cases k:Lib.validRune r with
 |false=>
  go_enter L.f152,Body.n152_ntmps ρ
  go_wp2_with (go_at_fn (ρ.f 119);refine(Any.utf8_ValidRune {L with} _ _).mono ?_;rintro e w' ⟨rfl,hw⟩;rw[hw,k])
  go_ret
  exact⟨rfl,0,(World.drewN_zero _).symm⟩
 |true=>
  rcases I3 r x with⟨a,b,i,D⟩|⟨a,b,c,i⟩|⟨a,b,c,d,i⟩
  .rw[i]at h;have B:((j.toNat:Int) != (b.toNat:Int))=true:=bne_iff_ne.2 (by omega)
   have z:∀w,(Instr.index (ρ.t 9) (.string ⟨#[l,j]⟩)<|.int .i64 1).run P w=.ok (.int .u8 j.toNat) w:=λw=>by rw[run_index_string w _ _ _ _ L.t9];rfl
   have A:∀w,(Instr.index (ρ.t 9) (.string ⟨#[a,b]⟩)<|.int .i64 1).run P w=.ok (.int .u8 b.toNat) w:=λw=>by rw[run_index_string w _ _ _ _ L.t9];rfl
   go_enter L.f152,Body.n152_ntmps ρ
   go_wp2_with (go_at_fn (ρ.f 119);refine(Any.utf8_ValidRune {L with} _ _).mono ?_;rintro e w' ⟨rfl,hw⟩;rw[hw,k])
   refine wp_scope_straight ?_
   go_wp2_with fail
   refine wp_loop_rounds 1 ?_;rw[rounds_succ]
   go_wp2_with fail
   refine wp_scope_straight ?_
   go_wp2_with fail
   go_region_o
   all_goals go_wp2_with fail
   all_goals (go_region_with_o (go_at_fn (ρ.f 137);refine(Any.strings_IndexByte {L with} _ _ _).mono ?_;rintro e w' ⟨rfl,hw⟩;rw[hw]))
   all_goals (go_wp2_with fail)
   all_goals (repeat (simp only[Exit.noGoto];go_wp2_with fail))
   all_goals (go_ret;exact⟨rfl,2,rfl⟩)
  .rw[i]at h
   go_enter L.f152,Body.n152_ntmps ρ
   go_wp2_with (go_at_fn (ρ.f 119);refine(Any.utf8_ValidRune {L with} _ _).mono ?_;rintro e w' ⟨rfl,hw⟩;rw[hw,k])
   refine wp_scope_straight ?_
   go_wp2_with fail
   refine wp_loop_rounds 1 ?_;rw[rounds_succ]
   go_wp2_with fail
   simp only[Exit.noGoto]
   go_wp2_with fail
   go_ret
   exact⟨rfl,0,(World.drewN_zero _).symm⟩
  .rw[i]at h
   go_enter L.f152,Body.n152_ntmps ρ
   go_wp2_with (go_at_fn (ρ.f 119);refine(Any.utf8_ValidRune {L with} _ _).mono ?_;rintro e w' ⟨rfl,hw⟩;rw[hw,k])
   refine wp_scope_straight ?_
   go_wp2_with fail
   refine wp_loop_rounds 1 ?_;rw[rounds_succ]
   go_wp2_with fail
   simp only[Exit.noGoto]
   go_wp2_with fail
   go_ret
   exact⟨rfl,0,(World.drewN_zero _).symm⟩
end Go.Proofs
namespace Go.Proofs
open Go.Shelf Go.RowKit Go.Lib
variable {P:Program} {ρ:Ren}
set_option maxHeartbeats 4000000 in
set_option maxRecDepth 1000000 in
def I5(L:Lays.n152 P ρ)(a b:UInt8)(j:a.toNat<128)(k:b.toNat<128)(w:World):
 Calls P (ρ.f 152) #[.string ⟨#[a,b]⟩,.int .i32 65533] w λe w'=>e=.returned (.int .i64<|-1)/\∃c,w'=w.iter ⟨#[a,b]⟩ c:=by
 have z:=L.t3;have E:=L.a3;have A:=L.z3;have C:=L.v3;have l:=L.t4;have o:=L.a4;have q:=L.z4;have B:=L.v4;have v:=L.t5;have y:=L.a5;have n:=L.z5;have r:=L.v5;have x:=L.t9;have u:=L.a9;have p:=L.z9;have t:=L.v9;have g:=L.t21;have d:=L.a21;have i:=L.z21;have h:=L.v21;have n0:∀ty,(Instr.next (.pointer<|some ⟨w.heap.size,0,none⟩) true ty).run P (w.iter ⟨#[a,b]⟩ 0)=.ok (.tuple #[.bool true,.int .i64 0,.int .i32 a.toNat]) (w.iter ⟨#[a,b]⟩ 1):=λty=>run_next_ascii (P:=P) w ⟨#[a,b]⟩ 0 ty Nat.zero_lt_two j
 have F:∀ty,(Instr.next (.pointer<|some ⟨w.heap.size,0,none⟩) true ty).run P (w.iter ⟨#[a,b]⟩ 1)=.ok (.tuple #[.bool true,.int .i64 1,.int .i32 b.toNat]) (w.iter ⟨#[a,b]⟩ 2):=λty=>run_next_ascii (P:=P) w ⟨#[a,b]⟩ 1 ty Nat.one_lt_two k
 have s:=λty=>run_next_end (P:=P) w ⟨#[a,b]⟩ 2 ty<|Nat.lt_irrefl 2
 have m:((a.toNat:Int)==65533)=false:=beq_eq_false_iff_ne.2<|by omega
 have D:((b.toNat:Int)==65533)=false:=beq_eq_false_iff_ne.2<|by omega
 go_enter L.f152,Body.n152_ntmps ρ
 go_wp2_with fail
 refine wp_loop_rounds 3 ?_;rw[rounds_succ]
 go_wp2_with fail
 rw[rounds_succ]
 go_wp2_with fail
 rw[rounds_succ]
 go_wp2_with fail
 go_ret
 exact⟨rfl,_,rfl⟩
def I6(L:Lays.n152 P ρ)(a:P.follows .mixedOrders=true)(c d:UInt8)(g:c.toNat<128)(h:d.toNat<128)(r:Int)(i:128<=r)(w:World):
 Calls P (ρ.f 152) #[.string ⟨#[c,d]⟩,.int .i32 r] w λe w'=>e=.returned (.int .i64<|-1)/\Below w.heap.size w w':=by
 by_cases b:r=65533
 .subst b;refine(I5 L c d g h w).mono ?_;rintro e w' ⟨rfl,pos,rfl⟩;exact⟨rfl,(Below.refl _ w).alloc (Nat.le_refl _) _⟩
 .refine(I4 L a c d g h r i b w).mono ?_;rintro e w' ⟨rfl,q,rfl⟩;exact⟨rfl,⟨rfl,rfl,rfl,Nat.le_refl _,λ_ _=>rfl⟩⟩
def Dg{s:ByteArray}{j:Nat}{b:UInt8}(h:s.data.toList[j]?=some b):s.get! j=b:=by
 have⟨c,e⟩:=List.getElem?_eq_some_iff.1 h;have a:j<s.size:=by rw[Array.length_toList]at c;exact c
 simp only[ByteArray.get!];rw[getElem!_pos s.data j a];exact e
def I7(s:ByteArray)(a:Nat)(h:a<s.size)(f:128<=(s.get! a).toNat):
 a+(Utf8.decode s a).2<=s.size/\∀j,a<=j->j<a+(Utf8.decode s a).2->128<=(s.get! j).toNat:=by
 have c:¬(s.get! a).toNat<128:=by omega
 simp only[Utf8.decode,Nat.add_zero,c,if_false]
 repeat' split
 all_goals (rename_i g;simp only[Bool.and_eq_true,decide_eq_true_eq,beq_iff_eq]at*)
 all_goals (refine⟨by omega,λj e d=>?_⟩)
 all_goals (have b:j=a\/j=a+1\/j=a+2\/j=a+3:=by omega)
 all_goals (rcases b with rfl|rfl|rfl|rfl<;>omega)
def WE(w:World)(b:Nat)(o:Obj):World:={w with heap:=w.heap.setIfInBounds b o}
def Dh(w:World)(b:Nat)(s:ByteArray)(a:Nat)(ty:TypeId)(c:w.heap[b]?=some (.stringIter s a))(h:a<s.size):
 (Instr.next (.pointer<|some ⟨b,0,none⟩) true ty).run P w =
  .ok (.tuple #[.bool true,.int .i64 a,.int .i32 (Utf8.decode s a).1]) (WE w b<|.stringIter s<|a+(Utf8.decode s a).2):=by
 simp only[Instr.next,getObj,setObj,Sem.run_bind,Sem.run,c,Result.andThen,h,if_true]
 simp[goInt,WE]
def I8(w:World)(b:Nat)(s:ByteArray)(a:Nat)(ty:TypeId)(c:w.heap[b]?=some (.stringIter s a))(h:¬a<s.size):
 (Instr.next (.pointer<|some ⟨b,0,none⟩) true ty).run P w=.ok (.tuple #[.bool false]) w:=by
 simp[Instr.next,getObj,Sem.run,c,h]
def RV{w a:World}{o i:Obj}(c:Below w.heap.size w a)(f:a.heap[w.heap.size]?=some i){w':World}(h:Below (WE a w.heap.size o).heap.size (WE a w.heap.size o) w'):
 Below w.heap.size w w'/\w'.heap[w.heap.size]?=some o:=by
 have b:(WE a w.heap.size o).heap.size=a.heap.size:=by simp[WE]
 have d:w.heap.size<a.heap.size:=(Array.getElem?_eq_some_iff.1 f).1;have e:Below w.heap.size w (WE a w.heap.size o):=⟨c.os,c.tape,c.output,by rw[b];exact c.size,λk g=>by
  show(a.heap.setIfInBounds w.heap.size o)[k]?=_
  rw[Array.getElem?_setIfInBounds_ne<|by omega]
  exact c.block k g⟩
 refine⟨e.trans<|h.mono<|by rw[b];omega,?_⟩
 rw[h.block _<|by rw[b];exact d]
 show(a.heap.setIfInBounds w.heap.size o)[w.heap.size]?=_
 simp[d]
end Go.Proofs
namespace Go.Proofs
open Go.Shelf Go.RowKit Go.Lib
variable {P:Program} {ρ:Ren}
def I9{s:ByteArray}{a:List UInt8}{i k:Nat}(g:∀b∈a,b.toNat<128)(h:Lib.NoAny s.data.toList a i)(f:∀j,i<=j->j<i+k->128<=(s.get! j).toNat):Lib.NoAny s.data.toList a (i+k):=by
 intro j b l e;by_cases c:j<i
 .exact h j b c e
 .have:=f j (by omega) l
  rw[Dg e]at this;cases d:a.contains b with
  |false=>rfl
  |true=>
   have:=g b<|List.contains_iff_mem.1 d;omega
set_option maxHeartbeats 8000000 in
set_option maxRecDepth 1000000 in
def Ia(L:Lays.n153 P ρ)(mixed:P.follows .mixedOrders=true)(s:ByteArray)(c0 c1:UInt8)(h0:c0.toNat<128)(h1:c1.toNat<128)(w:World)(h8:s.size<=8):
 Calls P (ρ.f 153) #[.string s,.string ⟨#[c0,c1]⟩] w λe w'=>e=.returned (.int .i64<|Lib.indexAny s.data.toList [c0,c1])/\Below w.heap.size w w':=by
 have hcs:∀b∈[c0,c1],b.toNat<128:=by
  intro b hb;simp only[List.mem_cons,List.not_mem_nil,or_false]at hb;rcases hb with rfl|rfl
  .exact h0
  .exact h1
 have HC:Aside (∀b∈[c0,c1],b.toNat<128):=hcs;clear hcs;have h8z:decide ((8:Int)<(s.size:Int))=false:=decide_eq_false<|by omega
 have t3:=L.t3;have a3:=L.a3;have z3:=L.z3;have v3:=L.v3;have t4:=L.t4;have a4:=L.a4;have z4:=L.z4;have v4:=L.v4;have t5:=L.t5;have a5:=L.a5;have z5:=L.z5;have v5:=L.v5;have t9:=L.t9;have a9:=L.a9;have z9:=L.z9;have v9:=L.v9;have t21:=L.t21;have a21:=L.a21;have z21:=L.z21;have v21:=L.v21;have e152:∀args w,(callFunc (ρ.f 152) args).run P w=.ok (.enter (ρ.f 152) args) w:=enters_of L.f152 (by kernel_rfl) rfl
 have e226:∀args w,(callFunc (ρ.f 226) args).run P w=.ok (.enter (ρ.f 226) args) w:=enters_of L.f226 (by kernel_rfl) rfl
 go_enter L.f153,Body.n153_ntmps ρ
 go_wp2_with (go_at_fn (ρ.f 226);refine(Any.strings_shouldUseASCIISet {L with} _ _).mono ?_;rintro e w' ⟨rfl,hw⟩;rw[hw,h8z])
 go_loopg [9,10] s.size (λg _ _ wx=>∃i:Nat,i+g=s.size/\Below w.heap.size w wx/\wx.heap[w.heap.size]?=some (.stringIter s i)/\Lib.NoAny s.data.toList [c0,c1] i)
 case atStart=>exact⟨0,by omega,(Below.refl _ w).alloc (Nat.le_refl _) _,World.iter_heap w s 0,Lib.NoAny.zero _ _⟩
 case round=>
  have⟨i,hig,hbl,hit,hno⟩:=hrel;have HN:Aside (Lib.NoAny s.data.toList [c0,c1] i):=hno;have HB:Aside (Below w.heap.size w wr):=hbl;clear hno hbl;cases gk with
  |zero=>
   obtain rfl:i=s.size:=by omega
   have hnx:=λty=>I8 (P:=P) wr w.heap.size s s.size ty hit<|Nat.lt_irrefl _
   have HI:Aside (wr.heap[w.heap.size]?=some (Obj.stringIter s s.size)):=hit;clear hit
   go_wp2
   go_ret
   exact⟨by rw[Lib.indexAny_none<|by rw[<-Lib.size_eq];exact HN.out];rfl,HB.out⟩
  |succ g=>
   have hi:i<s.size:=by omega
   cases hx:decide ((s[i]'hi).toNat<128)with
   |true=>
    have hx128:(s[i]'hi).toNat<128:=of_decide_eq_true hx;clear hx;obtain⟨x,hx⟩:∃x:UInt8,s[i]'hi=x:=⟨_,rfl⟩;have hxl:s.data.toList[i]?=some x:=by rw[<-hx];exact Lib.data_getElem? s i hi
    have hdc:=decode_ascii s i hi hx128;have hnx:=λty=>Dh (P:=P) wr w.heap.size s i ty hit hi
    rw[hdc,hx]at hnx;rw[hx]at hx128;have Hx:Aside (s.data.toList[i]?=some x):=hxl;have HI:Aside (wr.heap[w.heap.size]?=some (Obj.stringIter s i)):=hit;clear hit hxl hx hdc;have hcon:=Lib.contains_iff_indexByte [c0,c1] x;have hback:((x.toNat:Int)).toNat.toUInt8=x:=by simp
    obtain⟨wz,hwz⟩:∃wz,WE wr w.heap.size (.stringIter s<|i+1)=wz:=⟨_,rfl⟩;rw[show((x.toNat,1):Nat×Nat).2=1 from rfl,show((x.toNat,1):Nat×Nat).1=x.toNat from rfl]at hnx
    rw[hwz]at hnx;cases hin:[c0,c1].contains x
    .rw[hin]at hcon;have hlt:¬((0:Int)<=Lib.indexByte [c0,c1] x):=of_decide_eq_false hcon.symm;clear hcon
     go_wp2_with (go_at_fn (ρ.f 152);refine(Any.strings_IndexRune_ascii {L with} _ _ _ (by omega)<|by omega).mono ?_;rintro e w' ⟨rfl,hw⟩;rw[hw,hback])
     go_roundg g
     case measure=>omega
     case rel=>
      have hz:=RV (o:=Obj.stringIter s<|i+1) HB.out HI.out<|Below.refl _ _;rw[hwz]at hz;exact⟨i+1,by omega,hz.1,hz.2,HN.out.succ Hx.out hin⟩
    .rw[hin]at hcon;have hge:(0:Int)<=Lib.indexByte [c0,c1] x:=of_decide_eq_true hcon.symm;clear hcon
     go_wp2_with (go_at_fn (ρ.f 152);refine(Any.strings_IndexRune_ascii {L with} _ _ _ (by omega)<|by omega).mono ?_;rintro e w' ⟨rfl,hw⟩;rw[hw,hback])
     go_ret
     have hz:=RV (o:=Obj.stringIter s<|i+1) HB.out HI.out<|Below.refl _ _;rw[hwz]at hz;exact⟨by rw[Lib.indexAny_hit HN.out Hx.out hin];rfl,hz.1⟩
   |false=>
    have hx128:128<=(s[i]'hi).toNat:=Nat.not_lt.1<|of_decide_eq_false hx;have hgx:s.get! i=s[i]'hi:=Dg<|Lib.data_getElem? s i hi;have hdb:=I7 s i hi<|by rw[hgx];exact hx128
    have hdh:=decode_high s i hi hx128;have hdl:=decode_le s i;have hnx:=λty=>Dh (P:=P) wr w.heap.size s i ty hit hi
    obtain⟨r,k,hd⟩:∃r k,Utf8.decode s i=(r,k):=⟨_,_,rfl⟩;rw[hd]at hdb hdh hdl hnx;dsimp only at hdb hdh hdl hnx;have⟨hr,hk⟩:=hdh;have⟨hik,hby⟩:=hdb;have HI:Aside (wr.heap[w.heap.size]?=some (Obj.stringIter s i)):=hit;have HY:Aside (∀j,i<=j->j<i+k->128<=(s.get! j).toNat):=hby
    clear hit hx hd hgx hx128 hby
    obtain⟨wz,hwz⟩:∃wz,WE wr w.heap.size (.stringIter s<|i+k)=wz:=⟨_,rfl⟩;rw[hwz]at hnx
    go_wp2_with (go_at_fn (ρ.f 152);refine(I6 {L with} mixed c0 c1 h0 h1 _ (by omega) _).mono ?_;rintro e w' ⟨rfl,hw⟩)
    go_roundg (s.size-(i+k))
    case measure=>omega
    case rel=>
     rw[<-hwz]at hw;have hz:=RV (o:=Obj.stringIter s<|i+k) HB.out HI.out hw;exact⟨i+k,by omega,hz.1,hz.2,I9 HC.out HN.out HY.out⟩
def two_bytes{c:ByteArray}(h:c.size=2):∃e d,c=⟨#[e,d]⟩:=by
 have⟨⟨l⟩⟩:=c
 match l,h with
 |[a,b],_=>exact⟨a,b,rfl⟩
def Z9S(L:Lays.n153 P ρ)(d:P.follows .mixedOrders=true)(a:(P.info?<|ρ.t 116).map (λi=>(i.zero,i.size))=some (some<|.agg<|Array.replicate 256<|.bool false,256))
 (s c:ByteArray) (w:World) (m:s.size<4294967281) (l:c.size=2) (g:∀(j:Nat)b,c.data.toList[j]?=some b->b.toNat<128):
 Calls P (ρ.f 153) #[.string s,.string c] w λe w'=>e=.returned (.int .i64<|Lib.indexAny s.data.toList c.data.toList)/\Below w.heap.size w w':=by
 by_cases n:s.size<=8
 .obtain⟨h,k,rfl⟩:=two_bytes l;exact Ia L d s h k (g 0 h rfl) (g 1 k rfl) w n
 .refine(Any.strings_IndexAny_long L (zero_of_info a).1 (zero_of_info a).2 s c w (by omega) (by omega) m (by omega) g).mono λe w'⟨h1,h3⟩=>⟨h1,?_⟩
  rw[h3];exact((Below.refl _ _).alloc (Nat.le_refl _) _).alloc (by simp) _
end Go.Proofs
namespace Go.AM
open Go Go.Sort Go.Proofs
variable {P:Program} {E:Env} {T:Ty} {X:Xt} {w w':World} {h:Hp}
def Zy5:∀{xs b:List AV}{us:List Value},Rs T X w (xs++b) us->Rs T X w xs (us.take xs.length)/\Rs T X w b (us.drop xs.length)
 |[],b,us,h=>⟨by simp[Rs],by simpa using h⟩
 |a::xs,b,us,h=>by
  obtain⟨v,g,rfl,f,c⟩:=h;have⟨d,e⟩:=Zy5 c;exact⟨⟨v,_,rfl,f,d⟩,e⟩
def Zy6{sz:Nat}:∀{es:List AV}{us:List Value}{i:Nat}{e:AV},Rs T X w (flat es) us->(∀e∈es,e.cells.length=sz)->es[i]?=some e->Rs T X w e.cells ((us.drop<|i*sz).take sz)
 |[],us,i,e,_,_,hi=>by simp at hi
 |a::r,us,i,e,h,hs,hi=>by
  rw[VH]at h;have⟨b,c⟩:=Zy5 h;have f:=hs a<|ZSV ..;rw[f]at b c;cases i with
  |zero=>
   simp only[ZT6,Option.some.injEq]at hi;subst hi;simpa using b
  |succ i=>
   simp only[ZTp]at hi;have:=Zy6 c (λe d=>hs e<|ZT4 _ d) hi
   rw[ZTF]at this;rw[ZTo,Nat.add_comm];exact this
def ZwS{enc:Nat->List Value}{k:Nat}(b:∀x,(enc x).length=k):∀(l:List Nat)(i j:Nat),i<l.length->j<k->(l.flatMap enc)[i*k+j]?=(enc<|l[i]!)[j]?
 |[],i,j,h,_=>by simp at h
 |a::r,0,j,_,hj=>by
  rw[ZU1,ZT2<|by rw[b];omega]
  simp
 |a::r,i+1,j,h,hj=>by
  rw[ZU1,ZTd (by rw[b,ZTo];omega),b]
  have c:(i+1)*k+j-k=i*k+j:=by rw[ZTo];omega
  rw[c,ZwS b r i j (by simpa using h) hj]
  simp
def ZwT{enc:Nat->List Value}{k:Nat}(b:∀x,(enc x).length=k):∀l:List Nat,(l.flatMap enc).length=l.length*k
 |[]=>by simp
 |a::r=>by rw[ZU1,ZSJ,b,ZwT b r,ZSG,ZTo];omega
def Zy7{enc:Nat->List Value}{k:Nat}(h:0<k)(c:∀x,(enc x).length=k)(d:Array Nat):flatK enc k d=(d.toList.flatMap enc).toArray:=by
 refine ext_get! (by rw[size_flatK];simp only[ZUW];rw[ZwT c];rfl)<|λt a=>?_
 rw[size_flatK]at a;rw[get_flatK enc k d t a];have i:t/k<d.size:=Nat.div_lt_of_lt_mul<|by rw[Nat.mul_comm];exact a
 have e:t%k<k:=ZTH _ h;have b:=ZwS c d.toList (t/k) (t%k) (by simpa using i) e
 have f:t/k*k+t%k=t:=by rw[Nat.mul_comm];exact Nat.div_add_mod t k
 rw[f]at b;have g:(d.toList.flatMap enc).toArray[t]! =((d.toList.flatMap enc)[t]?).getD default:=by simp[Array.getElem!_eq_getD,ZTf]
 rw[g,b];have j:d.toList[t/k]! = d[t/k]!:=by simp[ZV6,Array.getElem!_eq_getD,ZTf]
 rw[j];simp[ZV6]
def ZzI(w:World)(r o:Nat)(d:Array Value){cs:Array Value}{a:TypeId}(b:w.heap[r]?=some (.cells cs a (0,0))):
 (putRow id w r o d).heap[r]?=some (.cells (putCells id o d cs) a (0,0)):=by
 simp[putRow,mapBlock,ZUo,b,onCells]
def Zy8(w:World)(r o:Nat)(d:Array Value){x:Nat}(a:x≠r):(putRow id w r o d).heap[x]?=w.heap[x]?:=by
 simp[putRow,mapBlock,ZUo,Ne.symm a]
def ZzJ(d:Array Value)(cs:Array Value){j o:Nat}(a:j<d.size)(b:o+j<cs.size):(putCells id o d cs)[o+j]?=some d[j]!:=by
 simp[putCells,Array.getElem?_mapIdx,b,a]
def ZzK(d:Array Value)(cs:Array Value){o:Nat}:(putCells id o d cs).size=cs.size:=by simp[putCells]
def Zy9(w:World)(os:Array Obj):Go.RowKit.Below w.heap.size w (grow w os):={
 os:=rfl,tape:=rfl,output:=rfl,size:=by simp[grow]
 block:=λk a=>by
  show(_++os)[k]?=_
  rw[ZUt a]}
def ZzL(m:M T X h w){b r C B sz:Nat}{cs:Array Value}{F:TypeId}{es es':List AV}{vs:List Value}(L:h[b]?=some (.row sz es))(H:T b=some (.row sz es.length (some r) C B))(P:0<sz)
 (R:w.heap[r]?=some (.cells cs F (0,0))) (J:cs.size=C*sz) (k:B+es.length<=C) (f:es'.length=es.length) (d:∀e∈es',e.cells.length=sz) (K:Rs T X w (flat es') vs) (n:Nat) (os:Array Obj):
 Step T w T (grow (putRow id (Go.Sort.ahead w n) r (B*sz) vs.toArray) os)/\M T X (setH h b<|.row sz es') (grow (putRow id (Go.Sort.ahead w n) r (B*sz) vs.toArray) os):=by
 have A:(Go.Sort.ahead w n).heap[r]?=some (.cells cs F (0,0)):=R;have p:=ZzI (Go.Sort.ahead w n) r (B*sz) vs.toArray A;have g:=KC H;have Q:vs.length=es.length*sz:=by
  have D:=Qr K;have t:∀l:List AV,(∀e∈l,e.cells.length=sz)->(flat l).length=l.length*sz:=by
   intro l;induction l with
   |nil=>intro _;simp[flat]
   |cons a r N=>intro G;rw[VH,ZSJ,G a<|ZSV ..,N<|λe O=>G e<|ZT4 _ O,ZSG,ZTo];omega
  rw[<-D,t es' d,f]
 have⟨q,v⟩:=JV (w':=putRow id (Go.Sort.ahead w n) r (B*sz) vs.toArray) (c:=.row sz es.length (some r) C B) (c':=.row sz es.length (some r) C B) (o:=.row sz es') m H rfl rfl (.refl _) (KD L) rfl rfl rfl (by simp) (λx s=>Zy8 (Go.Sort.ahead w n) r _ _ s)
  (λq=>by
   refine⟨rfl,f,P,k,_,F,p,by rw[ZzK];exact J,?_⟩
   refine Wq d ?_;refine Xs (Yb q _ _ K)<|λj u z=>?_
   have E:j<vs.length:=(ZSA.1 z).1;have y:B*sz+j<cs.size:=by
    rw[J];have:(B+es.length)*sz<=C*sz:=ZTz _ k;rw[ZSY]at this;omega
   have D:=ZzJ vs.toArray cs (j:=j) (by simpa using E) y
   have t:u=vs.toArray[j]!:=by
    rw[ZSu E]at z;rw[<-Option.some.inj z];simp[E]
   rw[t];simpa[World.at,World.cell?,p]using D)
 rw[g]at q v;have i:=Zy9 (putRow id (Go.Sort.ahead w n) r (B*sz) vs.toArray) os;exact⟨q.trans<|Ua i,Xr v (Ua i)<|λx s=>i.block x<|v.lt x s⟩
end Go.AM
namespace Go.AM
open Go Go.Sort Go.Proofs
variable {P:Program} {E:Env} {T:Ty} {X:Xt} {w w':World} {h:Hp}
def Zya:∀{l:List AV},Z4 l=true->∀{x},x∈l->clean x=true
 |[],_,x,hx=>by cases hx
 |a::r,h,x,hx=>by
  simp only[Z4,ZSq]at h;rcases ZST.1 hx with rfl|hx
  .exact h.1
  .exact Zya h.2 hx
def ZzM{e:AV}(h:Zwl e=true):e=.agg e.cells:=by
 cases e<;>first|rfl|cases h
def ZzN(us:List Value)(n k:Nat)(h:0<k)(l:0<n)(j:us.length=n*k):(List.range n).flatMap (λi=>(us.drop<|min i (n-1)*k).take k)=us:=by
 have e:∀i,((us.drop<|min i (n-1)*k).take k).length=k:=λi=>by
  have b:min i (n-1)+1<=n:=by omega
  have a:=ZTz k b;rw[ZTo]at a;rw[ZTk,ZUA];omega
 apply ZTO;intro t;by_cases f:t<n*k
 .have b:t/k<n:=Nat.div_lt_of_lt_mul (by rw[Nat.mul_comm];exact f)
  have a:t%k<k:=ZTH _ h;have c:=ZwS e (List.range n) (t/k) (t%k) (by simpa using b) a
  have d:t/k*k+t%k=t:=by rw[Nat.mul_comm];exact Nat.div_add_mod t k
  have g:(List.range n)[t/k]! = t/k:=by simp[ZV6,b]
  rw[d,g]at c;rw[c,ZTK a,ZU9];congr 1;have:min (t/k) (n-1)=t/k:=by omega
  rw[this,d]
 .rw[ZTj (by rw[ZwT e,ZV7];omega),ZTj<|by omega]
def Zyb{a:Nat->AV}{enc:Nat->List Value}:∀L:List Nat,(∀i∈L,Rs T X w (a i).cells<|enc i)->Rs T X w (flat<|L.map a) (L.flatMap enc)
 |[],_=>rfl
 |i::r,h=>by
  rw[ZSx,VH,ZU1];exact QR (h i<|ZSV ..)<|Zyb r<|λj b=>h j<|ZT4 _ b
def Zyc{enc:Nat->List Value}{k r o m:Nat}{d:Array Nat}{os:Array Obj}(x:Nat)(c:x<w.heap.size)(a:x≠r):(sortWorldK enc k w r o m d os).heap[x]?=w.heap[x]?:=by
 unfold sortWorldK;have b:=(Zy9 (putRowK enc k (Go.Sort.ahead w m) r o d) os).block x (by show x<(putRow id (Go.Sort.ahead w m) r o _).heap.size;simpa[putRow,mapBlock]using c)
 exact b.trans<|Zy8 (Go.Sort.ahead w m) r o (flatK enc k d) a
def Zyd{enc:Nat->List Value}{k r o m:Nat}{d:Array Nat}{os:Array Obj}:w.heap.size<=(sortWorldK enc k w r o m d os).heap.size:=size_sortWorldK_c enc k w r o m d os
set_option maxHeartbeats 1000000 in
def ZzO{f g sz:Nat}{kf:List AV->AV->Option (List Int)}{E0:Env}(h0:0<sz)(be:@EnvOk dT P E0)(bh:∀k,E0.gl k=.bot)(az:E0.sum g=none)
 (Y:∀O w,(callFunc f O).run P w=.ok (.enter f O) w)
 (br:∀s x y kx ky,kf s x=some kx->kf s y=some ky->∃h',fnV E0 g ([x,y]++s) []=some (.int .i64<|cmpL kx ky,h'))
 (al:∀(enc:Nat->List Value)(_:∀x,(enc x).length=sz)(_:∀x,∀v∈enc x,v.oneCell'=true)(cf:Nat->Nat->Int)(_:SWO<|ltOf cf)(cb:Array Value)(V off cap:Nat)(d:Array Nat)(w:World)
  (_:CmpLays P g cb enc sz cf V off d.size w) (_:HoldsK enc sz w V off d) (_:V<w.heap.size) (_:d.size<4611686018427387904),
  Calls P f #[.slice (some ⟨V,off,none⟩) d.size cap,.func (.func g) #[] cb] w λe w'=>e=.returned (.tuple #[])/\∃u n os,PermIn 0 d.size d u/\SortedIn (ltOf cf) 0 d.size u/\w'=sortWorldK enc sz w V off n u os)
 (W:∀(p:Option Addr)(cap:Nat)(fv:Value)(w:World),Calls P f #[.slice p 0 cap,fv] w λe w'=>e=.returned (.tuple #[])/\w'=w):Qn P E f (ZvW g sz kf):=by
 intro O h v h' D T X w bj _ c hr;unfold ZvW at D;split at D
 .cases D;obtain⟨v0,v1,rfl,Z,ag⟩:=RN hr;obtain⟨a,ad,cap,rfl,hl,_⟩:=Z;have F:ad=0:=hl;subst F;refine .inr<|.inl ⟨f,_,Y _ _,(W a cap v1 w).mono ?_⟩;rintro e w' ⟨rfl,rfl⟩;exact⟨_,rfl,T,.refl _ _,c.m,#[],rfl,rfl⟩
 .rename_i b gg off ad ex fn s;split at D
  .rename_i q es hb;cases H:es.isEmpty with
   |true=>
    rw[H,cond_true]at D;cases hz:(gg==0&&(off==0&&ad==0))with
    |false=>rw[hz]at D;cases D
    |true=>
    rw[hz]at D;cases D;simp only[ZSq,beq_iff_eq]at hz;obtain⟨rfl,rfl,rfl⟩:=hz;have bk:es=[]:=ZTY.1 H;subst bk;obtain⟨v0,v1,rfl,Z,ag⟩:=RN hr;have⟨r,C,B,hT,q0,hC,ae⟩:=XV c.m hb;have⟨_,bb,g2,r2,C2,B2,M,p1,p2,p3⟩:=Z;rw[hT]at M;cases M;have⟨cap,p4,p5,p6,p7⟩:=p3 rfl;have:∃p c,v0=.slice p 0 c:=by
     rcases p7 with⟨r',_,rfl⟩|⟨rfl,p,rfl,_⟩
     .exact⟨_,_,rfl⟩
     .exact⟨_,_,rfl⟩
    obtain⟨p,c',rfl⟩:=this;refine .inr<|.inl ⟨f,_,Y _ _,(W p c' v1 w).mono ?_⟩;rintro e w' ⟨rfl,rfl⟩;exact⟨_,rfl,T,.refl _ _,c.m,#[],rfl,rfl⟩
   |false=>
   rw[H,cond_false]at D;split at D
   .rename_i l aq;cases hc:(Nat.beq fn g&&(q==sz&&(es.length==gg&&(off==0&&(ad==gg&&(!false&&(Zi s&&(Z4 es&&(es.all Zwl&&(es.all (fits sz)&&(ZvJ l&&Nat.ble es.length 1000000)))))))))))with
    |false=>rw[hc]at D;cases D
    |true=>
    rw[hc]at D;cases D;simp only[ZSq,beq_iff_eq]at hc;obtain⟨c1,rfl,hg,rfl,rfl,c6,c7,c8,c9,bq,ap,bp⟩:=hc;have bn:fn=g:=ZUc c1;subst bn;subst hg;have bu:=ZT0 bp;have aw:0<es.length:=by
     cases es with
     |nil=>cases H
     |cons a r=>simp
    obtain⟨v0,v1,rfl,Z,ag⟩:=RN hr;have⟨r,C,B,hT,q0,hC,ae⟩:=XV c.m hb;have⟨_,bb,g2,r2,C2,B2,M,p1,p2,p3⟩:=Z;rw[hT]at M;cases M;have⟨cap,p4,p5,p6,p7⟩:=p3 rfl;rcases p7 with⟨r',rfl,rfl⟩|⟨rfl,p,rfl,q8⟩
    rotate_left
    .omega
    rw[ZTc];have⟨cs,el,k1,k2,k3⟩:=ae;have⟨bz,us,bv,u1,up,u2,u3⟩:=HZ k3 k1 k2 hC;obtain⟨fa,cb,rfl,bc,bd⟩:=ag;have ar:fa = #[]:=Array.toList_inj.1 bc;subst ar;have⟨e1,e2⟩:=ZxY aq;have bw:l.length=es.length:=by rw[e1,ZSs]
    have L:∀e∈es,e.cells.length=q:=(Kx k3).2.2;obtain⟨enc,G⟩:∃enc:Nat->List Value,enc=λi=>(us.drop<|min i (es.length-1)*q).take q:=⟨_,rfl⟩
    obtain⟨A,hE⟩:∃A:Nat->AV,A=λi=>(es[min i (es.length-1)]?).getD .bot:=⟨_,rfl⟩
    obtain⟨K,hK⟩:∃K:Nat->List Int,K=λi=>((l[min i (es.length-1)]?).map (·.1)).getD []:=⟨_,rfl⟩
    have ab:∀i,∃x,l[min i (es.length-1)]?=some x/\K i=x.1/\A i=x.2/\es[min i (es.length-1)]?=some (A i):=λi=>by
     have hi:min i (es.length-1)<l.length:=by omega
     refine⟨l[min i<|es.length-1],ZSu hi,?_,?_,?_⟩
     .rw[hK];simp only[ZSu hi];rfl
     .rw[hE];simp only;have:es[min i (es.length-1)]?=some (l[min i<|es.length-1]).2:=by
       have h9:∀k(hk:k<l.length),es[k]?=some (l[k]).2:=λk hk=>by
        rw[e1,ZT7,ZSu hk];rfl
       exact h9 _ hi
      rw[this];rfl
     .rw[hE];simp only;rw[ZSu<|by omega]
      rfl
    have S:∀i,kf s (A i)=some (K i):=λi=>by
     have⟨x,h1,h2,h3,_⟩:=ab i;rw[h2,h3];exact e2 x<|ZSy h1
    have hk:∀x,(enc x).length=q:=λi=>by
     have h1:min i (es.length-1)+1<=es.length:=by omega
     have h2:=ZTz q h1;rw[ZTo]at h2;rw[G];simp only;rw[ZTk,ZUA];omega
    have h1:∀x,∀v∈enc x,v.oneCell'=true:=λx v hv=>by
     rw[G]at hv;exact R8 bq us u2 v<|ZUh<|ZTQ hv
    have ay:∀i,Rs T X w (A i).cells (enc i):=λi=>by
     have⟨_,_,_,_,h4⟩:=ab i;rw[G];exact Zy6 u2 L h4
    have N:∀i,A i∈es:=λi=>by
     have⟨_,_,_,_,h4⟩:=ab i;exact ZSy h4
    have aj:∀i,A i=.agg (A i).cells:=λi=>ZzM<|(ZSw.1 c9) _ (N i)
    have ac:∀i,clean (A i)=true:=λi=>Zya c8<|N i
    have ba:∀i,R T X w (A i) (.agg (enc i).toArray):=λi=>by
     rw[aj i];exact⟨_,rfl,ay i⟩
    have hO:SWO (ltOf λi j=>cmpL (K i)<|K j):=by
     refine⟨λx=>?_,λx y z a b=>?_,λx y z a b=>?_⟩<;>simp only[ltOf,ZxW]at*
     .exact Zwm _
     .exact ZvZ _ _ _ a b
     .exact Zzw _ _ _ a b
    have af:T.rng r':=⟨b,_,hT,rfl⟩;have au:r'<w.heap.size:=(ZTi.1 k1).1;have aa:(Array.range es.length).size=es.length:=by simp
    have am:CmpLays P fn cb enc q (λi j=>cmpL (K i)<|K j) r' (B*q) (Array.range es.length).size w:=by
     intro m os dk bx x y;have⟨ca,ak⟩:=br s (A x) (A y) (K x) (K y) (S x)<|S y;refine Zzp be bh az ak _ ⟨λr=>X r\/T.rng r,Chk P⟩ (λr hr=>?_) rfl _ ?_
     .exact ZTy (hr.elim (c.hX r)<|c.m.lt r) Zyd
     .have st:Stp T w T (sortWorldK enc q w r' (B*q) m dk os):=
       ⟨Zyd,λb c h=>⟨c,h,.refl c⟩,λb hb hr o=>at_eq<|Zyc b hb<|λe=>hr<|e▸af,λb es c hb hr h=>(Zyc b hb<|λe=>hr<|e▸af).trans h,λb h=>.inl h⟩
      have hl:(#[Value.agg (enc x).toArray,.agg (enc y).toArray]++cb).toList=.agg (enc x).toArray::.agg (enc y).toArray::cb.toList:=by simp
      rw[hl];refine XY (T:=T) (X:=X) (X2:=⟨λr=>X r\/T.rng r,Chk P⟩) (λr q1 q2(hx:X r\/T.rng r)=>hx.elim q2 q1) ([A x,A y]++s) _ ?_<|XT st _ _ ?_
      .simp only[ZSv,ZSz,Zi,KK _<|ac _,c7,ZTl]
      .exact⟨_,_,rfl,ba x,_,_,rfl,ba y,bd⟩
    have hH:HoldsK enc q w r' (B*q) (Array.range es.length):=by
     unfold HoldsK;rw[Zy7 h0 hk];have e5:(Array.range es.length).toList.flatMap enc=us:=by
      rw[ZUU,G];exact ZzN us es.length q h0 aw u3
     rw[e5];intro j hj;have U:j<us.length:=by simpa using hj
     have h4:cs[B*q+j]?=some (id us.toArray[j]!):=by
      have:cs.toList[B*q+j]?=some us[j]:=by
       rw[u1,ZTd (by omega),up,show B*q+j-B*q=j by omega,ZT2 U,ZSu U]
      rw[ZTV]at this;rw[this];simp[U]
     constructor
     .simpa[World.cell?,k1]using h4
     .simp[World.frozen?,k1]
    refine .inr<|.inl ⟨f,_,Y _ _,?_⟩;have Q:=al enc hk h1 _ hO cb r' (B*q) cap (Array.range es.length) w am hH au<|by omega
    rw[aa]at Q;refine Q.mono ?_;rintro e w' ⟨rfl,u,n,os,hp,hsd,rfl⟩;have⟨p8,_,p9⟩:=hp;have bf:u.toList.length=es.length:=by rw[ZTb,p8,aa]
    have ah:u.toList.Perm (List.range es.length):=by
     have a1:u.extract 0 es.length=u:=by
      have:es.length=u.size:=by rw[p8,aa]
      rw[this];simp
     have a2:(Array.range es.length).extract 0 es.length=Array.range es.length:=by
      conv=>lhs;rw[<-aa]
      simp
     rw[a1,a2,ZUU]at p9;exact p9
    obtain⟨l',F⟩:∃l':List<|List Int×AV,l'=u.toList.map (λi=>(K i,A i)):=⟨_,rfl⟩
    have bt:(List.range es.length).map (λi=>(K i,A i))=l:=by
     apply ZTO;intro i;rw[ZT7];by_cases hi:i<es.length
     .rw[List.getElem?_range hi];have⟨x,a1,a2,a3,_⟩:=ab i;have:min i (es.length-1)=i:=by omega
      rw[this]at a1;rw[a1];simp only[ZT3,a2,a3]
     .rw[ZTj (by simpa using hi),ZTj<|by omega]
      rfl
    have av:l'.Perm l:=by
     rw[F,<-bt];exact ah.map _
    have J:l'.Pairwise (λx y=>x.1≠y.1):=(av.pairwise_iff<|λ{a b}h=>Ne.symm h).2 (ZwH.1 ap)
    have bl:l'.Pairwise ltK:=by
     rw[ZV8]at J⊢;intro i j hi hj ax;have hd:=J i j hi hj ax;have U:j<es.length:=by rw[F,ZSs]at hj;omega
     have a1:=hsd i j (ZSt _) ax U;simp only[ltOf,ZxW]at a1;have g1:∀t(ht:t<l'.length),l'[t].1=K u[t]!:=λt ht=>by
      have bg:t<u.size:=by rw[F,ZSs]at ht;simpa using ht
      subst F;simp[bg]
     unfold ltK;rw[g1 i hi,g1 j hj]at hd⊢;cases e3:lexB (K u[i]!) (K u[j]!)with
     |true=>rfl
     |false=>exact(hd<|Zwn _ _ e3 a1).elim
    have bm:l'=ZvN l:=Zzx (av.trans (ZwG l).symm) bl<|ZwI l ap;have an:(ZvN l).map (·.2)=u.toList.map A:=by
     rw[<-bm,F,ZTm];rfl
    have⟨st,m1⟩:=ZzL (es':=u.toList.map A) (vs:=u.toList.flatMap enc) c.m hb hT h0 k1 k2 hC (by rw[ZSs,bf]) (λe he=>by
     obtain⟨i,_,rfl⟩:=ZSM.1 he;exact L _<|N i) (Zyb _<|λi _=>ay i) n os
    have hw:sortWorldK enc q w r' (B*q) n u os=grow (putRow id (Go.Sort.ahead w n) r' (B*q) (u.toList.flatMap enc).toArray) os:=by
     unfold sortWorldK putRowK;rw[Zy7 h0 hk]
    rw[hw,an];exact⟨_,rfl,T,st,m1,#[],rfl,rfl⟩
   .cases D
  .cases D
 .cases D
end Go.AM
namespace Go.AM
open Go Go.Sort Go.Proofs
def ZEg(x y:List UInt8):Int:=bif decide (x<y)then -1 else bif decide (y<x)then 1 else 0
def ZFL(x y:List UInt8):ltOf ZEg x y=decide (x<y):=by
 unfold ltOf ZEg;cases decide (x<y)with
 |true=>rfl
 |false=>cases decide (y<x)<;>rfl
def ZGK:SWO (ltOf ZEg):=by
 refine⟨λx=>?_,λx y z a b=>?_,λx y z a b=>?_⟩<;>simp only[ZFL]at*
 .simp
 .exact decide_eq_true<|List.lt_trans (of_decide_eq_true a)<|of_decide_eq_true b
 .exact decide_eq_false (λh=>by
  have c:y<=x:=of_decide_eq_false a;have d:z<=y:=of_decide_eq_false b;exact(List.le_trans d c) h)
end Go.AM
namespace Go.AM
open Go Go.Sort Go.Proofs
variable {P:Program} {E:Env} {T:Ty} {X:Xt} {w w':World} {h:Hp}
def ZFM{r o m:Nat}{d:Array (List UInt8)}{os:Array Obj}(x:Nat)(c:x<w.heap.size)(a:x≠r):(sortWorld encStr w r o m d os).heap[x]?=w.heap[x]?:=by
 unfold sortWorld;have b:=(Zy9 (putRow encStr (Go.Sort.ahead w m) r o d) os).block x (by show x<(putRow encStr (Go.Sort.ahead w m) r o _).heap.size;simpa[putRow,mapBlock]using c)
 exact b.trans<|EP (Go.Sort.ahead w m) r o d a
def ZFN{r o m:Nat}{d:Array (List UInt8)}{os:Array Obj}:w.heap.size<=(sortWorld encStr w r o m d os).heap.size:=by
 unfold sortWorld;have:=(Zy9 (putRow encStr (Go.Sort.ahead w m) r o d) os).size;refine ZTa ?_ this;show w.heap.size<=(putRow encStr (Go.Sort.ahead w m) r o d).heap.size
 simp[putRow,mapBlock]
def ZGL{f g:Nat}{ck:List AV->Bool}{E0:Env}(af:@EnvOk dT P E0)(ah:∀k,E0.gl k=.bot)(ab:E0.sum g=none)
 (K:∀s w,(callFunc f s).run P w=.ok (.enter f s) w)
 (ap:∀l x y,ck l=true->∃h',fnV E0 g ([Qd x,Qd y]++l) []=some (.int .i64<|ZEg x y,h'))
 (V:∀(enc:List UInt8->Value)(_:OneCell enc)(cf:List UInt8->List UInt8->Int)(_:SWO<|ltOf cf)(M:Array Value)(z off cap:Nat)(d:Array<|List UInt8)(w:World)
  (_:CmpLays1 P g M enc cf z off d.size w) (_:Holds enc w z off d) (_:z<w.heap.size) (_:d.size<4611686018427387904),
  Calls P f #[.slice (some ⟨z,off,none⟩) d.size cap,.func (.func g) #[] M] w λe w'=>e=.returned (.tuple #[])/\∃q n os,PermIn 0 d.size d q/\SortedIn (ltOf cf) 0 d.size q/\w'=sortWorld enc w z off n q os)
 (A:∀(p:Option Addr)(cap:Nat)(fv:Value)(w:World),Calls P f #[.slice p 0 cap,fv] w λe w'=>e=.returned (.tuple #[])/\w'=w):Qn P E f (ZEt g ck):=by
 intro s h v h' F T X w ak _ c H;unfold ZEt at F;split at F
 .cases F;obtain⟨v0,v1,rfl,aq,Y⟩:=RN H;obtain⟨a,O,cap,rfl,hl,_⟩:=aq;have ac:O=0:=hl;subst ac;refine .inr<|.inl ⟨f,_,K _ _,(A a cap v1 w).mono ?_⟩;rintro e w' ⟨rfl,rfl⟩;exact⟨_,rfl,T,.refl _ _,c.m,#[],rfl,rfl⟩
 .rename_i b gg off O ex fn l;split at F
  .rename_i sz es L;cases hc:Nat.beq fn g&&(sz==1&&(es.length==gg&&(off==0&&(O==gg&&(ck l&&(Z4 l&&(es.all WB&&Nat.ble es.length 1000000)))))))with
   |false=>rw[hc]at F;cases F
   |true=>
    rw[hc]at F;cases F;simp only[ZSq,beq_iff_eq]at hc;obtain⟨c0,rfl,hg,rfl,rfl,aj,c7,c5,c6⟩:=hc;have am:fn=g:=ZUc c0;subst am;have U:=ZT0 c6;obtain⟨v0,v1,rfl,hv,Y⟩:=RN H;refine .inr<|.inl ⟨f,_,K _ _,?_⟩;rcases Da c.m L hg c5 hv with⟨r,C,B,cap,cs,el,hT,rfl,ar,_,hh,hC,Q,S⟩|⟨rfl,p,rfl⟩
    .have D:=D0 c5;generalize es.map bytesOf=ss at D;subst D;rw[ZSs]at hT Q hg U;subst hg;have hH:=D1 hh hC Q S;have J:T.rng r:=⟨b,_,hT,rfl⟩;have aa:r<w.heap.size:=(ZTi.1 hh).1;obtain⟨fa,M,rfl,ad,ae⟩:=Y;have Z:fa = #[]:=Array.toList_inj.1 ad;subst Z;have W:CmpLays1 P fn M encStr ZEg r B ss.toArray.size w:=by
      intro m os dk au x y;have⟨av,R⟩:=ap l x y aj;refine Zzp af ah ab R _ ⟨λr=>X r\/T.rng r,Chk P⟩ (λr H=>?_) rfl _ ?_
      .exact ZTy (H.elim (c.hX r)<|c.m.lt r) ZFN
      .have st:Stp T w T (sortWorld encStr w r B m dk os):=
        ⟨ZFN,λb c h=>⟨c,h,.refl c⟩,λb L H o=>at_eq<|ZFM b L<|λe=>H<|e▸J,λb es c L H h=>(ZFM b L<|λe=>H<|e▸J).trans h,λb h=>.inl h⟩
       have hl:(#[encStr x,encStr y]++M).toList=encStr x::encStr y::M.toList:=by simp
       rw[hl];refine XY (T:=T) (X:=X) (X2:=⟨λr=>X r\/T.rng r,Chk P⟩) (λr q1 q2(hx:X r\/T.rng r)=>hx.elim q2 q1) ([Qd x,Qd y]++l) _ (XW _ ?_)<|XT st _ _ ?_
       .simp only[ZSv,ZSz,Z4,c7,ZSW];rfl
       .exact⟨_,_,rfl,rfl,_,_,rfl,rfl,ae⟩
     have G:ss.toArray.size=ss.length:=by simp
     have u:=V encStr (λ_=>rfl) ZEg ZGK M r B cap ss.toArray w W hH aa<|by rw[G];omega
     rw[G]at u;refine u.mono ?_;rintro e w' ⟨rfl,q,n,os,hp,hsd,rfl⟩;have⟨p8,_,p9⟩:=hp;have an:q.size=ss.length:=by rw[p8,G]
     have N:q.toList.Perm ss:=by
      have a1:q.extract 0 ss.length=q:=by rw[<-an];simp
      have a2:ss.toArray.extract 0 ss.length=ss.toArray:=by
       conv=>lhs;rw[<-G]
       simp
      rw[a1,a2]at p9;simpa using p9
     have ag:q.toList.Pairwise (λa b=>leB a b=true):=by
      rw[ZV8];intro i j hi hj al;rw[ZTb]at hi hj;have a1:=hsd i j (ZSt _) al<|by omega
      simp only[ZFL]at a1;have g1:∀t(ht:t<q.size),q.toList[t]'(by simpa using ht)=q[t]!:=λt ht=>by simp[ht]
      rw[g1 i hi,g1 j hj];exact decide_eq_true<|of_decide_eq_false a1
     have hd:q=(WD ss).toArray:=by
      have:=D9 _ _ (N.trans (RS ss).symm) ag<|D8 ss;rw[<-this]
     have⟨st,m1⟩:=D2 (tt:=WD ss) c.m L hT hh hC Q (RS ss).length_eq n os;rw[D4];have hw:sortWorld encStr w r B n q os=grow (putRow encStr (Go.Sort.ahead w n) r B (WD ss).toArray) os:=by rw[hd];rfl
     rw[hw];exact⟨_,rfl,T,st,m1,#[],rfl,rfl⟩
    .refine(A p 0 v1 w).mono ?_;rintro e w' ⟨rfl,rfl⟩;refine⟨_,rfl,T,.refl _ _,?_,#[],rfl,rfl⟩;have e1:setH h b (.row 1<|Yk [])=h:=RT L;rw[e1];exact c.m
  .cases F
 .cases F
end Go.AM
namespace Go.AM
open Go
variable {P:Program} {E:Env} {T:Ty} {X:Xt} {w w':World} {h:Hp}
def Zox:List Int->List Int
 |[]=>[]
 |x::r=>ins x<|Zox r
where ins (x:Int):List Int->List Int
 |[]=>[x]
 |y::r=>bif decide (x<=y)then x::y::r else y::ins x r
def Zpk(x:Int):∀l,(Zox.ins x l).Perm (x::l)
 |[]=>.refl _
 |y::r=>by
  unfold Zox.ins;cases decide (x<=y)with
  |true=>exact .refl _
  |false=>exact((Zpk x r).cons y).trans (.swap x y r)
def Zp3:∀l,(Zox l).Perm l
 |[]=>.refl _
 |x::r=>(Zpk x _).trans ((Zp3 r).cons x)
def Zps(x:Int):∀l,l.Pairwise (λa b=>leI a b=true)->(Zox.ins x l).Pairwise (λa b=>leI a b=true)
 |[],_=>by simp[Zox.ins]
 |y::r,hp=>by
  rw[ZTr]at hp;unfold Zox.ins;cases c:decide (x<=y)with
  |true=>
   have e:=of_decide_eq_true c;rw[cond_true,ZTr];refine⟨λb d=>?_,ZTr.2 hp⟩
   rcases ZST.1 d with rfl|d
   .exact c
   .have:=of_decide_eq_true<|hp.1 b d;exact decide_eq_true<|by omega
  |false=>
   have e:=of_decide_eq_false c;rw[cond_false,ZTr];refine⟨λb d=>?_,Zps x r hp.2⟩
   rcases ZST.1 ((Zpk x r).mem_iff.1 d)with rfl|d
   .exact decide_eq_true<|by omega
   .exact hp.1 b d
def Zpt:∀l,(Zox l).Pairwise (λa b=>leI a b=true)
 |[]=>.nil
 |x::r=>Zps x _<|Zpt r
def Zq5(l:List Int):l.mergeSort (λx y=>decide (x<=y))=Zox l:=by
 have g:∀a b c:Int,leI a b=true->leI b c=true->leI a c=true:=λa b c d e=>by simp only[leI,decide_eq_true_eq]at*;exact Int.le_trans d e
 have f:∀a b:Int,(leI a b||leI b a)=true:=λa b=>by simp only[leI,ZTL,decide_eq_true_eq];exact Int.le_total a b
 refine List.Perm.eq_of_pairwise (le:=λa b=>leI a b=true) (λa b _ _ d e=>?_) (List.pairwise_mergeSort g f l) (Zpt l)<|(List.mergeSort_perm l leI).trans (Zp3 l).symm
 simp only[leI,decide_eq_true_eq]at d e;exact Int.le_antisymm d e
def Zpu(x:Int):∀l:List Int,Vb (.int .i64 x) (l.map λn=>AV.int .i64 n)=(Zox.ins x l).map λn=>AV.int .i64 n
 |[]=>rfl
 |y::r=>by
  simp only[ZSx,Vb,Zox.ins,GP,Zpu x r];cases decide (x<=y)<;>rfl
def Zpl:∀l:List Int,Yk (l.map λn=>AV.int .i64 n)=(Zox l).map λn=>AV.int .i64 n
 |[]=>rfl
 |x::r=>by
  simp only[ZSx,Yk,Zox,Zpl r,Zpu]
def Zpv{H:Type}(x:Lit×DataW H):∀l:List<|Lit×DataW H,(DataW.insert x l).Perm (x::l)
 |[]=>.refl _
 |y::r=>by
  unfold DataW.insert;split
  .exact .refl _
  .exact((Zpv x r).cons y).trans (.swap x y r)
def Zpm{H:Type}:∀l:List<|Lit×DataW H,(l.foldr DataW.insert []).Perm l
 |[]=>.refl _
 |x::r=>(Zpv x _).trans ((Zpm r).cons x)
def Zpw:∀{d:List AV},d.all Zp2=true->∃c:List Int,d=c.map (λn=>AV.int .i64 n)/\∀z∈c,-9223372036854775808<=z/\z<=9223372036854775807
 |[],_=>⟨[],rfl,λz a=>by cases a⟩
 |k::r,hk=>by
  rw[ZTE,ZSq]at hk;have⟨c,f,e⟩:=Zpw hk.2;have b:=hk.1;unfold Zp2 at b;split at b
  .rename_i n;rw[ZSq,decide_eq_true_eq,decide_eq_true_eq]at b;refine⟨n::c,by rw[f];rfl,λz a=>?_⟩
   rcases ZST.1 a with rfl|a
   .exact b
   .exact e z a
  .cases b
def Zpx:∀{b:List Int}{vs:List Value},Rs T X w (b.map λn=>AV.int .i64 n) vs->vs=b.map encZ
 |[],vs,hv=>hv
 |z::r,vs,hv=>by
  obtain⟨v,e,rfl,d,c⟩:=hv;have a:v=.int .i64 z:=d;rw[a,Zpx c];rfl
def Zpy:∀(a:List Int),Rs T X w (a.map λn=>AV.int .i64 n) (a.map encZ)
 |[]=>rfl
 |z::r=>⟨_,_,rfl,rfl,Zpy r⟩
def Zpz:∀(a:List Int),flat (a.map λn=>AV.int .i64 n)=a.map λn=>AV.int .i64 n
 |[]=>rfl
 |z::r=>by
  have:=Zpz r;unfold flat at this⊢;rw[ZSx,ZU1,this];rfl
def Zq6{f i kk:Nat}(hk:P.underlying i=some (.int .i64))(ac:∀s w,(callFunc f s).run P w=.ok (.enter f s) w)
 (Q:∀(Bm o b nn:Nat)(D0:DataW Unit)(R:Value->Option (DataW Unit×List MemPlace))(w:World),Bm<w.heap.size->w.cell? ⟨Bm,o,none⟩=some (.map<|some b)->w.ownsMap P i R b nn D0->Maps.size D0<=maxLen->Maps.size D0*8<=140737488355328->
  Calls P f #[.func (.func kk) #[] #[.pointer<|some ⟨Bm,o,none⟩]] w λe w'=>∃(v:Value)(M:List Int),e=.returned v/\M.Perm (intKeys D0)/\
   w'.ownsRow w.heap.size i 1 v M.length ((M.mergeSort<|λx y=>decide (x<=y)).map encZ)/\(v=.slice none 0 0↔M=[])/\Go.RowKit.Below w.heap.size w w'):Qn P E f (ZoZ kk):=by
 intro s h v h' u T X w av _ c hr;unfold ZoZ at u;split at u
 .rename_i g k;split at u
  .rename_i b ae;split at u
   .rename_i ks vs al;cases C:Nat.beq g kk&&(ks.all Zp2&&Nat.ble ks.length 1000000)with
    |false=>rw[C]at u;cases u
    |true=>
     rw[C]at u;cases u;simp only[ZSq]at C;have⟨hg,U,q⟩:=C;have q:=ZT0 q;obtain rfl:=ZUc hg;obtain⟨d,rfl,aa⟩:=Zpw U;obtain⟨v0,rfl,hv⟩:=Uc hr;obtain⟨f0,c0,rfl,an,ax⟩:=hv;have S:f0.toList=[]:=an;have au:f0 = #[]:=by rw[<-ZV4 (xs:=f0),S]
     subst au;obtain⟨v1,rfl,am⟩:=Uc ax;have⟨r1,C1,B1,aj,q0,hC,j⟩:=XV c.m ae;have⟨_,be,g2,r2,C2,B2,V,q1,q2⟩:=am;rw[aj]at V;cases V;obtain⟨r',rfl,_,rfl⟩:=q2 rfl;have⟨cs,el,k1,k2,k3⟩:=j;have⟨_,⟨v2,ah,ba⟩,_⟩:=k3;obtain⟨rm,ak,rfl⟩:=ba;have⟨bd,es,t,l,F,J,ar,N,af,_⟩:=JS c.m al;rw[ak]at F;cases F;have H:=Zpx af;have A:(es.toList.map (·.key)).Perm (d.map encZ):=by rw[<-H];exact(N.map _).symm
     have Y:d.Nodup:=by
      refine(ZTN.1 ar).imp ?_;intro a b L C;exact L<|by rw[C]
     have az:(es.toList.map (·.key)).Nodup:=by
      refine A.nodup_iff.2 ?_;exact ZTN.2<|Y.imp<|λ{a b}L C=>L<|encZ_inj C
     have ag:es.size=d.length:=by
      have:=A.length_eq;simpa using this
     rw[ZSs]at q;have ad:∀x∈es.toList,∃z,z∈d/\x.key=encZ z:=λx B=>by
      have:=A.mem_iff.1<|ZSM.2 ⟨x,B,rfl⟩;have⟨z,G,e⟩:=ZSM.1 this;exact⟨z,G,e.symm⟩
     let R:Value->Option (DataW Unit×List MemPlace):=λ_=>some (.lit<|.bool true,[])
     have D:∀x∈es.toList,∀z,z∈d->x.key=encZ z->WideElems.rd P i R x=some (.int .i64 z,.lit<|.bool true):=λx B z G aq=>by
      have ap:keyOf P i x.key=some (.int .i64 z):=by
       rw[aq];have⟨a1,a2⟩:=aa z G;have bb:(Lit.int .i64 z).wf=true:=by
        simp[Lit.wf,IntKind.min,IntKind.max,IntKind.bits,IntKind.signed];omega
       simp[keyOf,hk,mapKey,encZ,bb]
      unfold WideElems.rd;rw[ap];rfl
     have bf:(1000000:Nat)<=maxLen:=by decide
     have ab:WideElems.Fit P i R es t:=⟨by omega,⟨J.2.1,J.2.2,az⟩,λx B=>by
      have⟨z,G,e⟩:=ad x B;exact⟨_,D x B z G e⟩⟩
     have W:w.ownsMap P i R rm es.size (.map<|(es.toList.map<|WideElems.rg P i R).foldr DataW.insert []):=⟨es,t,J.1,ab,ZSr _,rfl⟩;have Z:(intKeys<|.map<|(es.toList.map<|WideElems.rg P i R).foldr DataW.insert []).Perm d:=by
      have h1:(intKeys<|.map<|(es.toList.map<|WideElems.rg P i R).foldr DataW.insert []).Perm ((es.toList.map<|WideElems.rg P i R).map λp=>intOf p.1):=(Zpm _).map _
      refine h1.trans ?_;have h2:(es.toList.map<|WideElems.rg P i R).map (λp=>intOf p.1)=(es.toList.map (·.key)).map (λv=>match v with| .int _ n=>n|_=>0):=by
       rw[ZTm,ZTm];refine ZTZ λx B=>?_
       have⟨z,G,e⟩:=ad x B;show intOf (WideElems.rg P i R x).1=_
       unfold WideElems.rg;rw[D x B z G e];show z=(match x.key with| .int _ n=>n|_=>0)
       rw[e]
      rw[h2];refine(A.map _).trans ?_;rw[ZTm];have:d.map ((λv=>match v with| .int _ n=>n|_=>0) ∘ encZ)=d:=by
       conv=>rhs;rw[<-List.map_id d]
       exact ZTZ λz _=>rfl
      rw[this]
     have r:Maps.size (.map ((es.toList.map<|WideElems.rg P i R).foldr DataW.insert []):DataW Unit)=d.length:=by
      show((es.toList.map<|WideElems.rg P i R).foldr DataW.insert []).length=_
      rw[(Zpm _).length_eq];simp[ag]
     refine .inr<|.inl ⟨f,_,ac _ _,?_⟩;have K:w.cell? ⟨r',(B1+0)*1+0,none⟩=some (.map<|some rm):=ah;have bc:r'<w.heap.size:=(ZTi.1 k1).1;refine(Q r' ((B1+0)*1+0) rm es.size _ R w bc K W (by rw[r];omega)<|by rw[r];omega).mono ?_
     rintro e w' ⟨v,M,rfl,hS,j,hnil,hb⟩;refine⟨_,rfl,?_⟩;have ay:M.mergeSort (λx y=>decide (x<=y))=Zox d:=by
      rw[<-Zq5 d];exact mergeSort_of_perm_i<|hS.trans Z
     rw[ay]at j;have aw:M.length=d.length:=(hS.trans Z).length_eq;have O:(Zox d).length=d.length:=(Zp3 d).length_eq;rw[ZSs,Zpl];have:=Ub (es:=(Zox d).map λn=>AV.int .i64 n) (sz:=1) (news:=(Zox d).map encZ) c hb (by decide) (λy hy=>by
      obtain⟨z,_,rfl⟩:=ZSM.1 hy;rfl) (by rw[Zpz];exact Zpy _) (by
      rw[ZSs,O,<-aw];exact j)
     rw[ZSs,O]at this;exact this
   .cases u
  .cases u
 .cases u
end Go.AM
namespace Go.AM
open Go Go.Proofs
variable {P:Program} {E:Env} {T:Ty} {X:Xt} {w w':World} {h:Hp}
def ZPV:∀{es:List AV}{a:List ByteArray},ZOp es=some a->es=a.map .str
 |[],a,h=>by cases h;rfl
 | .str s::r,a,h=>by
  unfold ZOp at h;have⟨t,b,c⟩:=ZSD.1 h;subst c;rw[ZSx,ZPV b]
 | .bot::_,_,h| .bool _::_,_,h| .int ..::_,_,h| .nilp::_,_,h| .nilsl::_,_,h| .nilmap::_,_,h| .nilfn::_,_,h| .nilif::_,_,h| .agg _::_,_,h| .tup _::_,_,h| .iptr ..::_,_,h| .isl ..::_,_,h| .imap ..::_,_,h| .ifc ..::_,_,h| .clo ..::_,_,h| .ptr ..::_,_,h| .sl ..::_,_,h| .mp _::_,_,h| .it _::_,_,h| .yld _::_,_,h=>by simp[ZOp]at h
def ZQL(b:List ByteArray):flat (b.map .str)=b.map .str:=by
 induction b with
 |nil=>rfl
 |cons a r c=>simp only[flat,ZSx,ZU1,AV.cells]at c⊢;rw[c];rfl
def ZPW:∀{b:List ByteArray}{us:List Value},Rs T X w (b.map .str) us->us=b.map .string
 |[],us,h=>h
 |s::r,us,h=>by
  obtain⟨v,e,rfl,d,c⟩:=h;have a:v=.string s:=d;rw[a,ZPW c];rfl
def ZPX(c:Ctx E T X h w){x:AV}{n:Value}(z:R T X w x n){es:List AV}(v:Q2 h x=some es)(q:Qq h 1 x=true)(i:es.isEmpty=false){d:List ByteArray}(B:ZOp es=some d):
 ∃r o cap,n=.slice (some ⟨r,o,none⟩) d.length cap/\d.length<=cap/\r<w.heap.size/\∀j s,d[j]?=some s->w.cell? ⟨r,o+j,none⟩=some (.string s):=by
 obtain⟨ad,cap,rfl,b,f⟩:=G6 c.m z v q;have a:es≠[]:=by intro e;subst e;simp at i
 obtain⟨r,o,rfl,k⟩:=f.resolve_left a;have⟨C,D,F⟩:=Kx k;have⟨us,y,p⟩:=Kv C;have e:=ZPV B;subst e;rw[ZQL]at p;have u:=ZPW p;subst u;rw[ZSs];rw[ZSs]at b;have l:∀j s,d[j]?=some s->w.cell? ⟨r,o+j,none⟩=some (.string s):=λj s A=>y j _<|by rw[ZT7,A];rfl
 refine⟨r,o,cap,rfl,b,?_,l⟩;cases d with
 |nil=>exact(a rfl).elim
 |cons s t=>
  have g:=l 0 s rfl;rcases ZTI r w.heap.size with hl|hl
  .exact hl
  .unfold World.cell? at g;rw[ZV1 hl]at g;cases g
def ZQM{Q:World->Prop}{f:Nat}(l:∀b w,(callFunc f b).run P w=.ok (.enter f b) w)(u:∀T X w,GlR E T X w->Q w)
 (i:∀(d:List ByteArray)(r o cap:Nat)(w:World),(∀j s,d[j]?=some s->w.cell? ⟨r,o+j,none⟩=some (.string s))->r<w.heap.size->(∀s∈d,s.size<=140737488355328)->(joinL d).length<=140737488355328->d.length<=140737488355328->Q w->
  Calls P f #[.slice (some ⟨r,o,none⟩) d.length cap] w λe w'=>e=.returned (.string ⟨(ZOL d).toArray⟩)/\Go.RowKit.Below w.heap.size w w'):Qn P E f ZOM:=by
 intro b h v h' a T X w m _ c z;unfold ZOM at a;split at a
 .rename_i x;split at a
  .rename_i es p;cases k:Qq h 1 x&&!es.isEmpty with
   |false=>rw[k]at a;cases a
   |true=>
    rw[k,cond_true]at a;split at a
    .rename_i d n;cases g:d.all (λs=>Nat.ble s.size 140737488355328)&&(Nat.ble (joinL d).length 140737488355328&&Nat.ble d.length 140737488355328)with
     |false=>rw[g]at a;cases a
     |true=>
      rw[g]at a;cases a;simp only[ZSq]at k g;obtain⟨A,rfl,y⟩:=Uc z;obtain⟨r,o,cap,rfl,B,q,t⟩:=ZPX c y p k.1 (by simpa using k.2) n
      refine .inr<|.inl ⟨f,_,l _ _,(i d r o cap w t q (λs a=>ZT0<|ZSw.1 g.1 s a) (ZT0 g.2.1) (ZT0 g.2.2)<|u T X w c.gl).mono ?_⟩
      rintro e w' ⟨rfl,hb⟩;exact⟨_,rfl,RO c hb rfl⟩
    .cases a
  .cases a
 .cases a
def ZQN{f:Nat}(k:∀d w,(callFunc f d).run P w=.ok (.enter f d) w)
 (m:∀(r o cap:Nat)(g:List ByteArray)(a:ByteArray)(w:World),(∀j s,g[j]?=some s->w.cell? ⟨r,o+j,none⟩=some (.string s))->r<w.heap.size->g.length<=140737488355328->g.length<=cap->(Lib.join (g.map (·.data.toList)) a.data.toList).length<=140737488355328->
  Calls P f #[.slice (some ⟨r,o,none⟩) g.length cap,.string a] w λe w'=>e=.returned (.string ⟨(Lib.join (g.map (·.data.toList)) a.data.toList).toArray⟩)/\Go.RowKit.Below w.heap.size w w'):Qn P E f ZOO:=by
 intro d h v h' b T X w p _ c y;unfold ZOO at b;split at b
 .rename_i x a;split at b
  .rename_i es z;cases i:Qq h 1 x&&!es.isEmpty with
   |false=>rw[i]at b;cases b
   |true=>
    rw[i,cond_true]at b;split at b
    .rename_i g q;cases l:Nat.ble (Lib.join (g.map (·.data.toList)) a.data.toList).length 140737488355328&&Nat.ble g.length 140737488355328 with
     |false=>rw[l]at b;cases b
     |true=>
      rw[l]at b;cases b;simp only[ZSq]at i l;obtain⟨F,A,rfl,D,B⟩:=RN y;have n:A=.string a:=B;subst n;obtain⟨r,o,cap,rfl,C,t,u⟩:=ZPX c D z i.1 (by simpa using i.2) q
      refine .inr<|.inl ⟨f,_,k _ _,(m r o cap g a w u t (ZT0 l.2) C<|ZT0 l.1).mono ?_⟩;rintro e w' ⟨rfl,hb⟩;exact⟨_,rfl,RO c hb rfl⟩
    .cases b
  .cases b
 .cases b
def ZQO{Q:World->Prop}{f:Nat}(g:∀a w,(callFunc f a).run P w=.ok (.enter f a) w)(o:∀T X w,GlR E T X w->Q w)
 (d:∀(n:Int)(w:World),-9223372036854775808<=n->n<=9223372036854775807->Q w->Calls P f #[.int .i64 n] w λe w'=>e=.returned (.string ⟨(Lib.itoa n).toArray⟩)/\Go.RowKit.Below w.heap.size w w'):Qn P E f ZON:=by
 intro a h v h' b T X w i _ c p;unfold ZON at b;split at b
 .rename_i n;split at b
  .rename_i k;cases b;obtain⟨l,rfl,m⟩:=Uc p;have j:l=.int .i64 n:=m;subst j;refine .inr<|.inl ⟨f,_,g _ _,(d n w k.1 k.2<|o T X w c.gl).mono ?_⟩;rintro e w' ⟨rfl,hb⟩;exact⟨_,rfl,RO c hb rfl⟩
  .cases b
 .cases b
def ZQP{f:Nat}(k:∀a w,(callFunc f a).run P w=.ok (.enter f a) w)
 (i:∀(s cs:ByteArray)(w:World),s.size<=9223372036854775807->cs.size<4294967281->(∀(j:Nat)b,cs.data.toList[j]?=some b->b.toNat<128)->Calls P f #[.string s,.string cs] w λe w'=>e=.returned (.string ⟨(Lib.trimS s.data.toList cs.data.toList).toArray⟩)/\Go.RowKit.Below w.heap.size w w'):Qn P E f ZOt:=by
 intro a h v h' d T X w l _ c t;unfold ZOt at d;split at d
 .rename_i s cs;cases g:Nat.ble s.size 9223372036854775807&&(Nat.blt cs.size 4294967281&&cs.data.toList.all (λb=>Nat.blt b.toNat 128))with
  |false=>rw[g]at d;cases d
  |true=>
   rw[g]at d;cases d;simp only[ZSq]at g;obtain⟨q,o,rfl,r,p⟩:=RN t;have m:q=.string s:=r;have n:o=.string cs:=p;subst m n;refine .inr<|.inl ⟨f,_,k _ _,(i s cs w (ZT0 g.1) (ZT0 g.2.1)<|λj b u=>ZT0<|ZSw.1 g.2.2 b<|ZSy u).mono ?_⟩
   rintro e w' ⟨rfl,hb⟩;exact⟨_,rfl,RO c hb rfl⟩
 .cases d
def ZQQ{Q:World->Prop}{f:Nat}(a:∀b w,(callFunc f b).run P w=.ok (.enter f b) w)(u:∀T X w,GlR E T X w->Q w)
 (j:∀(s:ByteArray)(n:Int)(w:World),s.size<=18->Go.Lib.atoi s.data.toList=some n->Calls P f #[.string s] w λe w'=>e=.returned (.tuple #[.int .i64 n,.nilIface])/\Go.RowKit.Below w.heap.size w w')
 (p:∀(s:ByteArray)(n:Int)(w:World),s.size<=281474976710656->Go.Lib.atoiAll s.data.toList=.ok n->Calls P f #[.string s] w λe w'=>e=.returned (.tuple #[.int .i64 n,.nilIface])/\Go.RowKit.Below w.heap.size w w')
 (o:∀(s:ByteArray)(w:World),s.size<=281474976710656->Go.Lib.atoiAll s.data.toList=Go.Lib.NumEnd.syntax->Q w->Calls P f #[.string s] w λe w'=>∃x,e=.returned (.tuple #[.int .i64 0,x])/\Go.RowKit.Below w.heap.size w w')
 (l:∀(s:ByteArray)(w:World),s.size<=281474976710656->Go.Lib.atoiAll s.data.toList=.range->Q w->Calls P f #[.string s] w λe w'=>∃x,e=.returned (.tuple #[.int .i64<|Go.Lib.atoiSat s.data.toList,x])/\Go.RowKit.Below w.heap.size w w'):Qn P E f ZOu:=by
 intro b h v h' d T X w i k c y;unfold ZOu at d;split at d
 .rename_i s;cases t:s.data.toList.all W6&&(!s.data.toList.isEmpty&&Nat.ble s.size 18)with
  |true=>
   rw[t,cond_true]at d;refine EM a j [.str s] h v h' ?_ T X w i k c y;show(bif s.data.toList.all W6&&(!s.data.toList.isEmpty&&Nat.ble s.size 18)then _ else none)=_
   rw[t,cond_true];exact d
  |false=>
   rw[t,cond_false]at d;cases q:Nat.ble s.size 281474976710656 with
   |false=>rw[q]at d;cases d
   |true=>
    rw[q,cond_true]at d;have g:=ZT0 q;cases d;obtain⟨z,rfl,A⟩:=Uc y;have m:z=.string s:=A;subst m;cases r:Go.Lib.atoiAll s.data.toList with
    |ok n=>
     refine .inr<|.inl ⟨f,_,a _ _,(p s n w g r).mono ?_⟩;rintro e w' ⟨rfl,hb⟩;exact⟨_,rfl,RO c hb ⟨_,rfl,_,_,rfl,rfl,_,_,rfl,rfl,rfl⟩⟩
    |range=>
     refine .inr<|.inl ⟨f,_,a _ _,(l s w g r<|u T X w c.gl).mono ?_⟩;rintro e w' ⟨x,rfl,hb⟩;exact⟨_,rfl,RO c hb ⟨_,rfl,_,_,rfl,rfl,_,_,rfl,trivial,rfl⟩⟩
    |_=>
     refine .inr<|.inl ⟨f,_,a _ _,(o s w g r<|u T X w c.gl).mono ?_⟩;rintro e w' ⟨x,rfl,hb⟩;exact⟨_,rfl,RO c hb ⟨_,rfl,_,_,rfl,rfl,_,_,rfl,trivial,rfl⟩⟩
 .cases d
end Go.AM
namespace Go.Proofs
open Go.RowKit Go.Maps Go.Sort Go.Shelf
variable {P:Program} {ρ:Ren}
set_option maxRecDepth 100000 in
set_option maxHeartbeats 1000000 in
def ZQR(L:SlLaysZI.n10 P ρ){H:Type}(F:Fence)(n:Nat)(h10:F.fn<|ρ.f 10)(hro:F.round=none)(hn:1<=n)(l Bm o b nn:Nat)(D0:DataW H){R:Value->Option (DataW H×List MemPlace)}(J:List Int->World->Prop)
 (hY:∀pre x W,J pre W->pre.length<Maps.size D0->YieldAt F (n-1) P l #[encZ x] W λe W'=>e=.returned (.bool true)/\J (pre++[x]) W'/\KeepsWalks W W')
 (W:World) (hJ:AbidesFrom W.heap.size J) (hm:W.cell? ⟨Bm,o,none⟩=some (.map<|some b)) (hown:W.ownsMap P (ρ.t 26) R b nn D0) (h0:J [] W):
 CallsIn F n P (ρ.f 10) #[.func (.yield l) #[] #[],.pointer<|some ⟨Bm,o,none⟩] W λe W'=>(∃v,e=.returned v)/\∃ss:List Int,ss.Perm (intKeys D0)/\J ss W':=by
 have mixed:=L.mixed;have t0:=L.t0;have a0:=L.a0;have z0:=L.z0;have v0:=L.v0;have t4:=L.t4;have a4:=L.a4;have z4:=L.z4;have v4:=L.v4;have t23:=L.t23;have a23:=L.a23;have z23:=L.z23;have v23:=L.v23;have t26:=L.t26;have a26:=L.a26;have z26:=L.z26;have v26:=L.v26;have t33:=L.t33;have a33:=L.a33;have z33:=L.z33;have v33:=L.v33;have u0:=run_underlying L.t0;have u4:=run_underlying L.t4;have u23:=run_underlying L.t23;have u26:=run_underlying L.t26;have u33:=run_underlying L.t33;have⟨_,_,ZGv⟩:=L.f10;refine callsIn_of_wp ZGv rfl h10 ?_ hro;simp only[SlBodyZ.n10_ntmps ρ,List.size_toArray,List.length_cons,List.length_nil,Nat.reduceAdd,Nat.reduceSub,Array.replicate_succ,Array.replicate_zero,List.push_toArray,List.append_toArray,List.nil_append,List.cons_append]
 gi_wp2_with (first
  |(gi_at_range;refine wpListIn_range_own _ rfl _ (ρ.t 23) rfl (ρ.t 26) (ρ.t 3) (int_keyed L.t26) L.t23 _ b nn _ rfl hown ?_;intro w0 hrg0 hg0 hs0)
  |gi_in)
 go_frame
 gi_loopw [3] (λ_ wr=>∃(left:Lit->Bool)(cnt:Nat)(ss:List Int),wr.ranges P (ρ.t 26) R b W.heap.size nn D0 left cnt/\ss.length+cnt<=Maps.size D0/\CollectedI D0 left ss/\J ss wr)
  (λ_ wr=>wr.rangeLeft b W.heap.size)
 case atStart=>
  exact⟨_,_,[],hrg0,by simp,CollectedI.start D0,hJ [] W w0 none h0 hg0<|λr e=>by cases e⟩
 case round=>
  have⟨left,cnt,ss,hrg,hcs,hC,hJs⟩:=hrel
  gi_wp2_with (first
   |(gi_at_next;refine wpListIn_next_ranges _ rfl _ rfl (ρ.t 26) (int_keyed L.t26) R encZ id (λkey kl hk=>by have⟨x,hx,_⟩:=Maps.keyOf_i64 L.t26 hk;exact⟨x,hx⟩) (λv _ _=>⟨v,rfl⟩) b W.heap.size nn _ _ _ rfl hrg ?_ ?_)
   |gi_in)
  .intro hc0 hl0
   gi_wp2
   go_end0
   exact⟨⟨_,rfl⟩,ss,hC.perm hown (int_keyed L.t26) L.t26 hl0,hJs⟩
  .intro x c kl yd yp w2 cnt2 hkey hlk hv hat hrg2 hlt hg2 hs2 hen;obtain⟨x',ex,rfl,_⟩:=Maps.keyOf_i64 L.t26 hkey;obtain rfl:x=x':=encZ_inj ex;have hJ2:J ss w2:=hJ ss wr w2 (some W.heap.size) hJs hg2 (λr e=>by cases e;exact⟨Nat.le_refl _,hrg.iter_walk⟩)
   have⟨fn,tmps,assign,body,hy,hR⟩:=hY ss x w2 hJ2<|by omega
   clear hs2
   gi_wp2
   refine hR.mono ?_;rintro e W3 ⟨rfl,hJ3,hk3⟩
   gi_wp2
   have hrg3:=hrg2.of_walks hk3
   go_roundw
   case rel=>exact⟨_,cnt2,ss++[x],hrg3,by simp;omega,hC.step hlk hat,hJ3⟩
   case measure=>rw[hrg3.left_eq,hrg.left_eq];exact hlt
def ZQS(L:SlLaysZI.n10 P ρ){H:Type}(F:Fence)(n:Nat)(i:F.fn<|ρ.f 10)(h:F.round=none)(A:1<=n)(g o b j:Nat)(e:DataW H){R:Value->Option (DataW H×List MemPlace)}(w:World)(m:g<w.heap.size)
 (v:w.cell? ⟨g,o,none⟩=some (.map<|some b)) (a:w.ownsMap P (ρ.t 26) R b j e):
 SeqGives F n P (ρ.f 10) #[.pointer<|some ⟨g,o,none⟩] encZ (λC=>C.Perm<|intKeys e) (Maps.size e) w:=λl J W q u y x=>by
 have c:W.ownsMap P (ρ.t 26) R b j e:=by
  have k:=a.lt;have⟨es,d,s,z,B,r⟩:=a;exact⟨es,d,(q.block b k).trans s,z,B,r⟩
 exact ZQR {L with} F n i h A l g o b j e J y W u ((q.cell (p:=⟨g,o,none⟩) m).trans v) c x
end Go.Proofs
namespace Go.Proofs
open Go.Shelf Go.RowKit Go.Lib
variable {P:Program} {ρ:Ren}
set_option maxHeartbeats 2000000 in
set_option maxRecDepth 100000 in
def ZSo(L:SlLaysE0.n41 P ρ)(g:TypeInfo)(z:Value)(b bytes:Nat)(D:P.info? (ρ.t 23)=some g)(p:g.zero=some z)(m:g.size=b)(o:g.bytes=bytes)(r:z.cells.size=b)(s:0<b)
 (J:∀w,(Go.sizeOf<|ρ.t 23).run P w=.ok b w) (a:Addr) (c:Nat) (w:World):
 Calls P (ρ.f 41) #[.slice (some a) 0 c] w λe w'=>∃v',e=.returned v'/\w'.ownsRow w.heap.size (ρ.t 23) b v' 0 []/\v'≠.slice none 0 0/\Below w.heap.size w w':=by
 have v:=L.mixed;have K:=L.t4;have M:=L.a4;have N:=L.z4;have O:=L.v4;have h:=L.t22;have C:=L.a22;have E:=L.z22;have H:=L.v22;have A:∀(w:World)(a:Option Addr)(n c x c':Nat),(binOp .eql (ρ.t 22) (.slice a n c)<|.slice none x c').run P w=.ok (.bool a.isNone) w:=λw a n c x c'=>Lib.run_eql_slice_nil w _ _ a n c x c' L.t22
 have y:∀w,Sem.run P (underlying<|ρ.t 22) w=.ok (TypeDesc.slice<|ρ.t 23) w:=run_underlying h;have⟨_,_,q⟩:=L.f41
 go_enter q,SlBodyN.n41_ntmps ρ
 go_wp2_with (at_builtin;refine wpList_append_own _ rfl _ _ (ρ.t 22) rfl w.heap.size (ρ.t 23) g z b bytes h D p m o r s _ _ _ rfl (World.ownsRow_made w #[] 0 (Nat.le_refl _) (Nat.zero_le _) (by simp)) a 0 c [] rfl ?qc1 ?qc2 ?qc3 ?qc4 ?qc5 ?qc6 ?_)
 case qc1=>simp
 case qc2=>
  intro j u G;simp at G
 case qc3=>
  intro u B;cases B
 case qc4=>simp
 case qc5=>simp
 case qc6=>simp
 intro v' Q i d l
 go_wp2
 go_ret
 refine⟨v',rfl,by simpa using i,?_,?_⟩
 .exact l
 .exact((Below.refl _ w).alloc (Nat.le_refl _) _).grown d (by simp) (by intro k F;simp[Value.ownBlock]at F;omega)
end Go.Proofs
