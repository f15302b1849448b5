/- The contracts of the library functions that the program calls, as summaries of the abstract machine. No condition. -/
import Derived.Test.YtmmfbjlenjnckaaGreatDoorQ3
import Derived.Shelf.SlicesE.Clone
import Derived.Lib.Bytealg
import Derived.Lib.Atoi
import Derived.Lib.IndexAny
import Derived.Sort.Row
import Derived.Sort.Grow
import Derived.Sort.EncStr
import Derived.Sort.Walk0
import Derived.Lib.SlicesCompact
import Derived.Lib.Split
import Derived.Lib.SplitLaws
import Derived.Lib.IndexBytes
import Derived.Shelf.Strings.Split
import Derived.Shelf.Strings.IndexAnyAll
import Derived.Shelf.Small.Utf8
import Derived.Laws.RangeAny
import Derived.Laws.Runes
import Derived.Scope
import Derived.Shelf.RegionOpenPlain
import Derived.Deep.Draws
set_option linter.unusedVariables false
set_option linter.defProp false
set_option linter.unusedSimpArgs false
set_option linter.unusedSectionVars false
namespace Go.AM
open Go
variable {P:Program} {E:Env} {T:Ty} {X:Xt} {w w':World} {h:Hp}
def Ua(hb:Go.RowKit.Below w.heap.size w w'):Step T w T w' where
 os:=hb.os
 tape:=hb.tape
 output:=hb.output
 size:=hb.size
 le _ c hc:=⟨c,hc,.refl c⟩
 keep b hl _:=hb.block b hl
 rng _ hr:=.inl hr
 drawn hd:=hd.elim
def LV(h:Hp)(o:AObj):setH h h.length o=h++[o]:=by
 induction h with
 |nil=>rfl
 |cons x r ih=>simp only[ZXr,GN,ih];rfl
def Ub(c:Ctx E T X h w)(hb:Go.RowKit.Below w.heap.size w w'){es:List AV}{sz:Nat}{e:TypeId}{news:List Value}{v':Value}(h0:0<sz)(hcell:∀y∈es,y.cells.length=sz)(hR:Rs T X w (flat es) news)
 (hown:w'.ownsRow w.heap.size e sz v' es.length news):Yq T X w (h++[.row sz es]) (.sl h.length es.length 0 es.length false) v' w':=by
 have m:=c.m;have hT:T h.length=none:=JR m<|.inl<|by simp
 have st0:Step T w T w':=Ua hb;have m0:M T X h w':=Xr m st0<|λr hr=>hb.block r<|m.lt r hr
 obtain⟨hl,hcase⟩:=hown;rcases hcase with⟨rfl,hn⟩|⟨g,cap,cur,rfl,hg,hrow,hncap,hmax,hcur,htake⟩
 .have he:es=[]:=ZYz.1 hn;subst he;have stU:Step T w' (upd T h.length<|.row sz 0 none 0 0) w':={
   os:=rfl,tape:=rfl,output:=rfl,size:=ZX0 _
   le:=λb c' hc=>by
    by_cases e1:b=h.length
    .subst e1;rw[hT]at hc;cases hc
    .exact⟨c',by rw[upd_ne _ _ e1];exact hc,.refl c'⟩
   keep:=λ_ _ _=>rfl
   rng:=λr⟨b,c',h1,h2⟩=>by
    by_cases e1:b=h.length
    .subst e1;rw[upd_same]at h1;cases h1;cases h2
    .rw[upd_ne _ _ e1]at h1;exact .inl ⟨b,c',h1,h2⟩
   drawn:=λhd=>hd.elim}
  refine⟨upd T h.length<|.row sz 0 none 0 0,st0.trans stU,?_,?_⟩
  .rw[<-LV];refine WZ m0 h.length _ _ (ZX0 _) stU (λ_ _ _ _ _ _=>rfl) (λr hr=>by cases hr) ?_
   exact⟨rfl,rfl,h0,ZX0 _,rfl⟩
  .exact⟨⟨_,_,_,rfl⟩,sz,0,none,0,0,upd_same _ _ _,ZX0 _,ZX0 _,λ_=>⟨0,ZX0 _,ZX0 _,λhh=>by simp at hh,.inr ⟨rfl,none,rfl,λ_=>rfl⟩⟩⟩
 .have hgs:g<w'.heap.size:=(ZXN.1 hrow).1;have stU:Step T w (upd T h.length<|.row sz es.length (some g) cap 0) w':={
   os:=hb.os,tape:=hb.tape,output:=hb.output,size:=hb.size
   le:=λb c' hc=>by
    by_cases e1:b=h.length
    .subst e1;rw[hT]at hc;cases hc
    .exact⟨c',by rw[upd_ne _ _ e1];exact hc,.refl c'⟩
   keep:=λb hl _=>hb.block b hl
   rng:=λr⟨b,c',h1,h2⟩=>by
    by_cases e1:b=h.length
    .subst e1;rw[upd_same]at h1;cases h1;cases h2;exact .inr hg
    .rw[upd_ne _ _ e1]at h1;exact .inl ⟨b,c',h1,h2⟩
   drawn:=λhd=>hd.elim}
  have hRs':=Yb stU _ _ hR;have hat:∀(j:Nat)(u:Value),news[j]?=some u->World.at w' g (0+j)=some u:=λj u hu=>by
   have hj:j<news.length:=(ZXg.1 hu).1;rw[ZXf];have h2:cur[j]?=some u:=by
    rw[<-htake]at hu;rw[ZYu<|by omega]at hu
    simpa using hu
   simp only[World.at,World.cell?,hrow];have h3:cur[j]?=some u:=h2;simpa using h3
  refine⟨upd T h.length<|.row sz es.length (some g) cap 0,stU,?_,?_⟩
  .rw[<-LV];refine WZ m h.length _ _ (ZX0 _) stU (λb' c' r' _ h1 h2=>hb.block r'<|m.lt r' ⟨b',c',h1,h2⟩) (λr hr=>?_) ?_
   .cases hr;exact⟨hgs,λhx=>by have:=c.hX _ hx;omega,λb' c' _ h1 h2=>by have:=m.lt g ⟨b',c',h1,h2⟩;omega⟩
   .exact⟨rfl,rfl,h0,by rw[ZXf];exact hncap,cur,e,hrow,hcur,Wq hcell<|Xs hRs'<|by simpa using hat⟩
  .exact⟨⟨_,_,_,rfl⟩,sz,es.length,some g,cap,0,upd_same _ _ _,ZX0 _,by omega,λ_=>⟨cap,hncap,by omega,λhh=>by simp at hh,.inl ⟨g,rfl,by rw[ZYk]⟩⟩⟩
def Uc{x:AV}{rargs:Array Value}(hr:Rs T X w [x] rargs.toList):∃v,rargs = #[v]/\R T X w x v:=by
 obtain⟨v,vr,h1,h2,h3⟩:=hr;have h3':vr=[]:=h3;subst h3';exact⟨v,by rw[<-Array.toArray_toList (xs:=rargs),h1],h2⟩
def RN{x y:AV}{rargs:Array Value}(hr:Rs T X w [x,y] rargs.toList):∃v u,rargs = #[v,u]/\R T X w x v/\R T X w y u:=by
 obtain⟨v,vr,h1,h2,u,ur,h3,h4,h5⟩:=hr;have h5':ur=[]:=h5;subst h5' h3;exact⟨v,u,by rw[<-Array.toArray_toList (xs:=rargs),h1],h2,h4⟩
def Ud{f sz bytes:Nat}{el:TypeId}(h0:0<sz)(hby:bytes<=1000)(hent:∀args w,(callFunc f args).run P w=.ok (.enter f args) w)
 (hcon:∀(b off n c:Nat)(news:List Value)(w:World),news.length=n*sz->n<=maxLen->n*bytes<=140737488355328->(∀j u,news[j]?=some u->w.cell? ⟨b,off+j,none⟩=some u)->(∀u∈news,u.oneCell'=true)->
  Calls P f #[.slice (some ⟨b,off,none⟩) n c] w λe w'=>∃v',e=.returned v'/\w'.ownsRow w.heap.size el sz v' n news/\v'≠.slice none 0 0/\Go.RowKit.Below w.heap.size w w'):Qn P E f (YL sz):=by
 intro args h v h' hs T X w rargs _ c hr;unfold YL at hs;split at hs
 .rename_i x;cases he:Q2 h x with
  |none=>rw[he]at hs;cases hs
  |some es=>
   rw[he]at hs;dsimp only at hs;cases hc:Qq h sz x&&(es.all (fits sz)&&(!es.isEmpty&&Nat.ble es.length 1000000))with
   |false=>rw[hc]at hs;cases hs
   |true=>
    rw[hc]at hs;cases hs;simp only[ZWT]at hc;obtain⟨c1,c2,c3,c4⟩:=hc;have hlen:es.length<=1000000:=ZXs c4;obtain⟨v0,rfl,hv⟩:=Uc hr;obtain⟨ad,cap,rfl,hcap,hrow⟩:=G6 c.m hv he c1;have hne:es≠[]:=by intro e;subst e;simp at c3
    obtain⟨r,o,rfl,hrr⟩:=hrow.resolve_left hne;obtain⟨k1,k2,k3⟩:=Kx hrr;obtain⟨us,k4,k5⟩:=Kv k1;have hul:=Qr k5;refine .inr<|.inl ⟨f,_,hent _ _,?_⟩;refine(hcon r o es.length cap us w (by omega) (by unfold maxLen;omega) ?_ (λj u hu=>k4 j u hu)<|R8 c2 us k5).mono ?_
    .have:es.length*bytes<=1000000*1000:=Nat.mul_le_mul hlen hby
     omega
    .rintro e w' ⟨v',rfl,h1,_,h2⟩;exact⟨v',rfl,Ub c h2 h0 k3 k5 h1⟩
 .cases hs
end Go.AM
namespace Go.AM
open Go
variable {P:Program} {E:Env} {T:Ty} {X:Xt} {w w':World} {h:Hp}
def RO(c:Ctx E T X h w)(hb:Go.RowKit.Below w.heap.size w w'){v:AV}{rv:Value}(hv:R T X w' v rv):Yq T X w h v rv w':=
 ⟨T,Ua hb,Xr c.m (Ua hb)<|λr hr=>hb.block r<|c.m.lt r hr,hv⟩
def LX{p:UInt8->Bool}{F:List UInt8->Int}(hge:∀l,-1<=F l)(h0:F []=-1)(h1:∀b l,F (b::l)=if p b=true then 0 else if F l==-1 then -1 else F l+1):
 ∀(l:List UInt8)(i:Int),Yc p l i=if F l==-1 then -1 else F l+i
 |[],i=>by simp[Yc,h0]
 |b::l,i=>by
  unfold Yc;rw[h1];cases hp:p b with
  |true=>simp
  |false=>
   rw[cond_false,LX hge h0 h1 l<|i+1];by_cases hF:F l=-1
   .simp[hF]
   .have e1:(F l==-1)=false:=by simpa using hF
    simp only[e1,ZX2,if_false];by_cases h2:F l+1=-1
    .have:=hge l;omega
    .have e2:(F l+1==-1)=false:=by simpa using h2
     simp only[e2,ZX2,if_false];omega
def LY{p:UInt8->Bool}{F:List UInt8->Int}(hge:∀l,-1<=F l)(h0:F []=-1)(h1:∀b l,F (b::l)=if p b=true then 0 else if F l==-1 then -1 else F l+1)(l:List UInt8):Yc p l 0=F l:=by
 rw[LX hge h0 h1];by_cases hF:F l=-1
 .simp[hF]
 .have e1:(F l==-1)=false:=by simpa using hF
  simp[e1]
def EK{f:Nat}(hent:∀args w,(callFunc f args).run P w=.ok (.enter f args) w)
 (hcon:∀(s:ByteArray)(c:Int)(w:World),Calls P f #[.string s,.int .u8 c] w λe w'=>e=.returned (.int .i64<|Go.Lib.indexByte s.data.toList c.toNat.toUInt8)/\w'=w):Qn P E f U9:=by
 intro args h v h' hs T X w rargs _ c hr;unfold U9 at hs;split at hs
 .rename_i s n;cases hc:decide (0<=n)&&decide (n<256)with
  |false=>rw[hc]at hs;cases hs
  |true=>
   rw[hc]at hs;cases hs;simp only[ZWT]at hc;have h0:=of_decide_eq_true hc.1;have h1:=of_decide_eq_true hc.2;obtain⟨v0,u0,rfl,hv,hu⟩:=RN hr;have hv':v0=.string s:=hv;have hu':u0=.int .u8 n:=hu;subst hv' hu';refine .inr<|.inl ⟨f,_,hent _ _,(hcon s n w).mono ?_⟩;rintro e w' ⟨rfl,rfl⟩;refine⟨_,rfl,RO c (.refl _ _) ?_⟩;have e:Yc (λx=>(x.toNat:Int)==n) s.data.toList 0=Go.Lib.indexByte s.data.toList n.toNat.toUInt8:=by
    refine LY (F:=λl=>Go.Lib.indexByte l n.toNat.toUInt8) (λl=>Go.Lib.indexByte_ge l _) rfl (λb l=>?_) _
    have:(b==n.toNat.toUInt8)=((b.toNat:Int)==n):=by
     have k:(n.toNat.toUInt8).toNat=n.toNat:=by
      rw[UInt8.toNat_ofNat'];omega
     cases hb:b==n.toNat.toUInt8 with
     |true=>
      have:b=n.toNat.toUInt8:=by simpa using hb
      have e2:(b.toNat:Int)=n:=by rw[this,k];omega
      rw[e2];simp
     |false=>
      have hne:b≠n.toNat.toUInt8:=by simpa using hb
      have:(b.toNat:Int)≠n:=λe=>hne<|UInt8.toNat_inj.1<|by rw[k];omega
      simpa using this
    simp only[Go.Lib.indexByte,this]
   rw[e];rfl
 .cases hs
end Go.AM
namespace Go.AM
open Go
variable {P:Program} {E:Env} {T:Ty} {X:Xt} {w w':World} {h:Hp}
def LZ:∀(l:List UInt8)(acc:Nat),l.all W6=true->∃m,Go.Lib.decFrom acc l=some m/\(m:Int)=J4 l acc
 |[],acc,_=>⟨acc,rfl,rfl⟩
 |b::r,acc,h=>by
  rw[ZXz,ZWT]at h;obtain⟨h1,h2⟩:=h;simp only[W6,ZWT,decide_eq_true_eq]at h1;obtain⟨m,h3,h4⟩:=LZ r (acc*10+(b.toNat-48)) h2;refine⟨m,?_,?_⟩
  .unfold Go.Lib.decFrom Go.Lib.digitVal;rw[if_pos h1];exact h3
  .rw[h4];unfold J4;rw[ZYe];congr 1;have:=h1.1;omega
def EL{l:List UInt8}(hne:l≠[])(h:l.all W6=true):Go.Lib.atoi l=some (J4 l 0):=by
 cases l with
 |nil=>exact(hne rfl).elim
 |cons b r=>
  obtain⟨m,h1,h2⟩:=LZ (b::r) 0 h;rw[ZXz,ZWT]at h;have hb:=h.1;simp only[W6,ZWT,decide_eq_true_eq]at hb;unfold Go.Lib.atoi;have e1:(b==45)=false:=by
   have:b≠45:=λe=>by subst e;exact absurd hb.1<|by decide
   simpa using this
  have e2:(b==43)=false:=by
   have:b≠43:=λe=>by subst e;exact absurd hb.1<|by decide
   simpa using this
  simp only[e1,e2,ZX2,if_false,Go.Lib.decNat,List.isEmpty_cons];rw[h1];show some (m:Int)=_
  rw[h2];rfl
def EM{f:Nat}(hent:∀args w,(callFunc f args).run P w=.ok (.enter f args) w)
 (hcon:∀(s:ByteArray)(n:Int)(w:World),s.size<=18->Go.Lib.atoi s.data.toList=some n->Calls P f #[.string s] w λe w'=>e=.returned (.tuple #[.int .i64 n,.nilIface])/\Go.RowKit.Below w.heap.size w w'):Qn P E f J5:=by
 intro args h v h' hs T X w rargs _ c hr;unfold J5 at hs;split at hs
 .rename_i s;cases hc:s.data.toList.all W6&&(!s.data.toList.isEmpty&&Nat.ble s.size 18)with
  |false=>rw[hc]at hs;cases hs
  |true=>
   rw[hc]at hs;cases hs;simp only[ZWT]at hc;obtain⟨c1,c2,c3⟩:=hc;obtain⟨v0,rfl,hv⟩:=Uc hr;have hv':v0=.string s:=hv;subst hv';refine .inr<|.inl ⟨f,_,hent _ _,(hcon s (J4 s.data.toList 0) w (ZXs c3)<|EL (by intro e;rw[e]at c2;simp at c2) c1).mono ?_⟩
   rintro e w' ⟨rfl,hb⟩;exact⟨_,rfl,RO c hb ⟨_,rfl,_,_,rfl,rfl,_,_,rfl,rfl,rfl⟩⟩
 .cases hs
def EN{f:Nat}(hent:∀args w,(callFunc f args).run P w=.ok (.enter f args) w)
 (hcon:∀(s c:ByteArray)(w:World),s.size<4294967281->c.size=2->(∀(j:Nat)b,c.data.toList[j]?=some b->b.toNat<128)->Calls P f #[.string s,.string c] w λe w'=>e=.returned (.int .i64<|Go.Lib.indexAny s.data.toList c.data.toList)/\Go.RowKit.Below w.heap.size w w'):Qn P E f J6:=by
 intro args h v h' hs T X w rargs _ c hr;unfold J6 at hs;split at hs
 .rename_i s ch;cases hc:Nat.blt s.size 4294967281&&(Nat.beq ch.size 2&&ch.data.toList.all (λb=>Nat.blt b.toNat 128))with
  |false=>rw[hc]at hs;cases hs
  |true=>
   rw[hc]at hs;cases hs;simp only[ZWT]at hc;obtain⟨c1,c2,c3⟩:=hc;obtain⟨v0,u0,rfl,hv,hu⟩:=RN hr;have hv':v0=.string s:=hv;have hu':u0=.string ch:=hu;subst hv' hu';rw[ZXl]at c3;refine .inr<|.inl ⟨f,_,hent _ _,(hcon s ch w (ZXs c1) (Nat.eq_of_beq_eq_true c2)<|λj b hb=>ZXs<|c3 b<|ZXk hb).mono ?_⟩
   rintro e w' ⟨rfl,hb⟩;refine⟨_,rfl,RO c hb ?_⟩;have e:Yc (λx=>ch.data.toList.any (·==x)) s.data.toList 0=Go.Lib.indexAny s.data.toList ch.data.toList:=by
    refine LY (F:=λl=>Go.Lib.indexAny l ch.data.toList) (λl=>Go.Lib.indexAny_ge _ l) rfl (λb l=>?_) _
    have:ch.data.toList.contains b=ch.data.toList.any (·==b):=by
     rw[List.contains_eq_any_beq];congr 1
     funext x
     exact Bool.beq_comm
    simp only[Go.Lib.indexAny,this]
   rw[e];rfl
 .cases hs
end Go.AM
namespace Go.AM
open Go Go.Sort Go.Proofs
variable {P:Program} {E:Env} {T:Ty} {X:Xt} {w w':World} {h:Hp}
def bytesOf:AV->List UInt8
 | .str s=>s.data.toList
 |_=>[]
def D0{es:List AV}(h:es.all WB=true):es=(es.map bytesOf).map Qd:=by
 induction es with
 |nil=>rfl
 |cons a r ih=>
  rw[ZXz,ZWT]at h;rw[ZX3,ZX3,<-ih h.2];cases a<;>simp[WB]at h
  simp[Qd,bytesOf]
def RP(ss:List<|List UInt8):flat (ss.map Qd)=ss.map Qd:=by
 induction ss with
 |nil=>rfl
 |cons a r ih=>rw[ZX3,VH,ih];rfl
def RQ{ss:List (List UInt8)}{us:List Value}:Rs T X w (ss.map Qd) us↔us=ss.map encStr:=by
 induction ss generalizing us with
 |nil=>exact Iff.rfl
 |cons a r ih=>
  constructor
  .rintro⟨v,vr,rfl,h1,h2⟩;have h1':v=.string ⟨a.toArray⟩:=h1;rw[h1',ih.1 h2];rfl
  .rintro rfl;exact⟨_,_,rfl,rfl,ih.2 rfl⟩
def D1{r C B:Nat}{cs:Array Value}{el:TypeId}{ss:List (List UInt8)}(hh:w.heap[r]?=some (.cells cs el (0,0)))(hC:cs.size=C*1)(hle:B+ss.length<=C)(hr:ZA T X w 1 r (ss.map Qd)<|B*1):
 Holds encStr w r B ss.toArray:=by
 obtain⟨pre,us,rest,h1,hp,h2,h3⟩:=HZ hr hh hC<|by simpa using hle
 rw[RP,RQ]at h2;subst h2;intro j hj;have hj':j<ss.length:=by simpa using hj
 have h4:cs[B+j]?=some (encStr ss.toArray[j]!):=by
  have:cs.toList[B+j]?=some (encStr ss[j]):=by
   rw[h1,ZY0 (by omega),hp,show B+j-B*1=j by omega,ZXK<|by simpa using hj']
   simp[hj']
  rw[ZY2]at this;rw[this];simp[hj']
 constructor
 .simpa[World.cell?,hh]using h4
 .simp[World.frozen?,hh]
def EO(w:World)(r B:Nat)(d:Array<|List UInt8){cs:Array Value}{el:TypeId}(hh:w.heap[r]?=some (.cells cs el (0,0))):
 (putRow encStr w r B d).heap[r]?=some (.cells (putCells encStr B d cs) el (0,0)):=by
 simp[putRow,mapBlock,ZZ6,hh,onCells]
def EP(w:World)(r B:Nat)(d:Array<|List UInt8){x:Nat}(hx:x≠r):(putRow encStr w r B d).heap[x]?=w.heap[x]?:=by
 simp[putRow,mapBlock,ZZ6,Ne.symm hx]
def EQ(d:Array<|List UInt8)(cs:Array Value){j B:Nat}(hj:j<d.size)(hc:B+j<cs.size):(putCells encStr B d cs)[B+j]?=some (encStr d[j]!):=by
 simp[putCells,Array.getElem?_mapIdx,hc,hj]
def ER(d:Array<|List UInt8)(cs:Array Value){B:Nat}:(putCells encStr B d cs).size=cs.size:=by simp[putCells]
def D2(m:M T X h w){b r C B:Nat}{cs:Array Value}{el:TypeId}{ss tt:List (List UInt8)}(hb:h[b]?=some (.row 1<|ss.map Qd))(hT:T b=some (.row 1 ss.length (some r) C B))
 (hh:w.heap[r]?=some (.cells cs el (0,0))) (hC:cs.size=C*1) (hle:B+ss.length<=C) (hlen:tt.length=ss.length) (n:Nat) (os:Array Obj):
 Step T w T (grow (putRow encStr (Go.Sort.ahead w n) r B tt.toArray) os)/\M T X (setH h b<|.row 1<|tt.map Qd) (grow (putRow encStr (Go.Sort.ahead w n) r B tt.toArray) os):=by
 have hh':(Go.Sort.ahead w n).heap[r]?=some (.cells cs el (0,0)):=hh;have hat:=EO (Go.Sort.ahead w n) r B tt.toArray hh';have hself:=KC hT;obtain⟨st,m1⟩:=JV (w':=putRow encStr (Go.Sort.ahead w n) r B tt.toArray) (c:=.row 1 ss.length (some r) C B) (c':=.row 1 ss.length (some r) C B) (o:=.row 1<|tt.map Qd) m hT rfl rfl (.refl _) (KD hb) rfl rfl rfl (by simp) (λx hx=>EP (Go.Sort.ahead w n) r B _ hx)
  (λst=>by
   refine⟨rfl,by simp[hlen],Nat.one_pos,hle,_,el,hat,by rw[ER];exact hC,?_⟩
   refine Wq (λe he=>?_) ?_
   .obtain⟨l,_,rfl⟩:=ZXP.1 he;rfl
   .rw[RP];refine Xs (RQ.2 rfl) (λj u hu=>?_)
    have hj:j<tt.length:=by
     have:=(ZXg.1 hu).1;simpa using this
    rw[ZXA];have h1:=EQ (B:=B) tt.toArray cs (j:=j) (by simpa using hj)<|by omega
    have h2:u=encStr tt.toArray[j]!:=by
     rw[ZXJ,ZX5 hj]at hu;have:=Option.some.inj hu;rw[<-this];simp[hj]
    rw[h2];simpa[World.at,World.cell?,hat]using h1)
 rw[hself]at st m1;have hb2:Go.RowKit.Below (putRow encStr (Go.Sort.ahead w n) r B tt.toArray).heap.size (putRow encStr (Go.Sort.ahead w n) r B tt.toArray) (grow (putRow encStr (Go.Sort.ahead w n) r B tt.toArray) os):={
  os:=rfl,tape:=rfl,output:=rfl,size:=by simp[grow]
  block:=λk hk=>by
   show(_++os)[k]?=_
   rw[ZZc hk]}
 exact⟨st.trans<|Ua hb2,Xr m1 (Ua hb2)<|λx hx=>hb2.block x<|m1.lt x hx⟩
end Go.AM
namespace Go.AM
open Go Go.Sort Go.Proofs
variable {P:Program} {E:Env} {T:Ty} {X:Xt} {w w':World} {h:Hp}
def leB(x y:List UInt8):Bool:=decide (x<=y)
def ES(a b:List UInt8):GP (Qd a) (Qd b)=leB a b:=by
 show(!WW _ _)=_
 unfold WW leB;have e1:(⟨b.toArray⟩:ByteArray).data.toList=b:=by simp
 have e2:(⟨a.toArray⟩:ByteArray).data.toList=a:=by simp
 rw[e1,e2,bytesLess_eq];by_cases hlt:b<a
 .have h2:¬a<=b:=λhle=>hle hlt
  simp[hlt,h2]
 .have h2:a<=b:=hlt;simp[hlt,h2]
def WC(x:List UInt8):List (List UInt8)->List (List UInt8)
 |[]=>[x]
 |y::r=>bif leB x y then x::y::r else y::WC x r
def WD:List (List UInt8)->List (List UInt8)
 |[]=>[]
 |x::r=>WC x<|WD r
def D3(x:List UInt8):∀l:List<|List UInt8,Vb (Qd x) (l.map Qd)=(WC x l).map Qd
 |[]=>rfl
 |y::r=>by
  rw[ZX3];unfold Vb WC;rw[ES];cases leB x y with
  |true=>rfl
  |false=>simp only[cond_false,D3 x r,ZX3]
def D4:∀l:List<|List UInt8,Yk (l.map Qd)=(WD l).map Qd
 |[]=>rfl
 |x::r=>by
  rw[ZX3];unfold Yk WD;rw[D4 r,D3]
def RR(x:List UInt8):∀l,(WC x l).Perm (x::l)
 |[]=>.refl _
 |y::r=>by
  unfold WC;cases leB x y with
  |true=>exact .refl _
  |false=>exact((RR x r).cons y).trans (.swap x y r)
def RS:∀l,(WD l).Perm l
 |[]=>.refl _
 |x::r=>(RR x<|WD r).trans ((RS r).cons x)
def D5(a b c:List UInt8)(h1:leB a b=true)(h2:leB b c=true):leB a c=true:=by
 unfold leB at*;exact decide_eq_true<|List.le_trans (of_decide_eq_true h1)<|of_decide_eq_true h2
def D6(a b:List UInt8):(leB a b||leB b a)=true:=by
 unfold leB;rcases List.le_total a b with h|h
 .simp[h]
 .simp[h]
def ET(a b:List UInt8)(h1:leB a b=true)(h2:leB b a=true):a=b:=
 List.le_antisymm (of_decide_eq_true h1) (of_decide_eq_true h2)
def D7(x:List UInt8):∀l,l.Pairwise (λa b=>leB a b=true)->(WC x l).Pairwise (λa b=>leB a b=true)
 |[],_=>by simp[WC]
 |y::r,hp=>by
  have hp':=hp;rw[ZYE]at hp;obtain⟨h1,h2⟩:=hp;unfold WC;cases hc:leB x y with
  |true=>
   rw[cond_true,ZYE];refine⟨λz hz=>?_,hp'⟩
   rcases ZXv.1 hz with rfl|hz
   .exact hc
   .exact D5 _ _ _ hc<|h1 z hz
  |false=>
   rw[cond_false,ZYE];refine⟨λz hz=>?_,D7 x r h2⟩
   rcases ZXv.1 ((RR x r).mem_iff.1 hz)with rfl|hz
   .have:=D6 z y;rw[hc]at this;simpa using this
   .exact h1 z hz
def D8:∀l,(WD l).Pairwise (λa b=>leB a b=true)
 |[]=>.nil
 |x::r=>D7 x _<|D8 r
def D9:∀(l m:List<|List UInt8),l.Perm m->l.Pairwise (λa b=>leB a b=true)->m.Pairwise (λa b=>leB a b=true)->l=m
 |[],m,hp,_,_=>by have:=hp.length_eq;exact(ZYz.1 this.symm).symm
 |a::r,[],hp,_,_=>by have:=hp.length_eq;simp at this
 |a::r,b::s,hp,h1,h2=>by
  rw[ZYE]at h1 h2;have hab:a=b:=by
   rcases ZXv.1 (hp.mem_iff.1<|ZYa ..)with e|e
   .exact e
   rcases ZXv.1 (hp.symm.mem_iff.1<|ZYa ..)with e2|e2
   .exact e2.symm
   exact ET _ _ (h1.1 b e2)<|h2.1 a e
  subst hab;rw[D9 r s hp.cons_inv h1.2 h2.2]
def EU(l:List<|List UInt8):WD l=l.mergeSort leB:=
 D9 _ _ ((RS l).trans (List.mergeSort_perm l leB).symm) (D8 l) (List.pairwise_mergeSort D5 D6 l)
def RT:∀{h:Hp}{b:Nat}{o:AObj},h[b]?=some o->setH h b o=h
 |[],b,o,hb=>by simp at hb
 |x::r,0,o,hb=>by
  simp at hb;subst hb;rfl
 |x::r,b+1,o,hb=>by
  simp only[ZXS]at hb;rw[GN,RT hb]
def Da(m:M T X h w){b g:Nat}{ex:Bool}{es:List AV}{v:Value}(hb:h[b]?=some (.row 1 es))(hg:es.length=g)(hstr:es.all WB=true)(hv:R T X w (.sl b g 0 g ex) v):
 (∃r C B cap cs el,T b=some (.row 1 es.length (some r) C B)/\v=.slice (some ⟨r,B,none⟩) g cap/\g<=cap/\B+cap<=C/\w.heap[r]?=some (.cells cs el (0,0))/\cs.size=C*1/\B+es.length<=C/\ZA T X w 1 r es (B*1))\/
 (es=[]/\∃p,v=.slice p 0 0):=by
 obtain⟨r,C,B,hT,q0,hC,hr⟩:=XV m hb;obtain⟨_,sz2,g2,r2,C2,B2,hT2,q1,q2,q3⟩:=hv;rw[hT]at hT2;cases hT2;obtain⟨cap,q4,q5,q6,q7⟩:=q3 hg.symm;rcases q7 with⟨r',rfl,rfl⟩|⟨rfl,p,rfl,q8⟩
 .obtain⟨cs,el,k1,k2,k3⟩:=hr;exact .inl ⟨r',C,B,cap,cs,el,hT,by rw[ZXA,ZXE],q4,by omega,k1,k2,hC,k3⟩
 .have:es=[]:=ZYz.1 (by omega)
  exact .inr ⟨this,p,rfl⟩
def EV{f:Nat}(hent:∀args w,(callFunc f args).run P w=.ok (.enter f args) w)
 (hcon:∀(blk off cap:Nat)(ss:List<|List UInt8)(w:World),Holds encStr w blk off ss.toArray->blk<w.heap.size->ss.length<4611686018427387904->Calls P f #[.slice (some ⟨blk,off,none⟩) ss.length cap] w λe w'=>
  e=.returned (.tuple #[])/\∃n os,w'=grow (putRow encStr (Go.Sort.ahead w n) blk off (ss.mergeSort λx y=>decide (x<=y)).toArray) os)
 (hnone:∀(p:Option Addr)(cap:Nat)(w:World),Calls P f #[.slice p 0 cap] w λe w'=>e=.returned (.tuple #[])/\w'=w):Qn P E f J7:=by
 intro args h v h' hs T X w rargs _ c hr;unfold J7 at hs;split at hs
 .rename_i b g off len ex;split at hs
  .rename_i sz es hb;cases hc:sz==1&&(es.length==g&&(off==0&&(len==g&&(es.all WB&&Nat.ble es.length 1000000))))with
   |false=>rw[hc]at hs;cases hs
   |true=>
    rw[hc]at hs;cases hs;simp only[ZWT,beq_iff_eq]at hc;obtain⟨rfl,hg,rfl,rfl,c5,c6⟩:=hc;have hlen:=ZXs c6;obtain⟨v0,rfl,hv⟩:=Uc hr;refine .inr<|.inl ⟨f,_,hent _ _,?_⟩;rcases Da c.m hb hg c5 hv with⟨r,C,B,cap,cs,el,hT,rfl,hcap,_,hh,hC,hle,hrow⟩|⟨rfl,p,rfl⟩
    .have hback:=D0 c5;generalize es.map bytesOf=ss at hback;subst hback;rw[ZWQ]at hT hle hg hlen;subst hg;have hH:=D1 hh hC hle hrow;refine(hcon r B cap ss w hH (ZXN.1 hh).1 (by omega)).mono ?_
     rintro e w' ⟨rfl,n,os,rfl⟩;have hms:(ss.mergeSort λx y=>decide (x<=y))=WD ss:=(EU ss).symm
     rw[hms];obtain⟨st,m1⟩:=D2 (tt:=WD ss) c.m hb hT hh hC hle (RS ss).length_eq n os;rw[D4];exact⟨_,rfl,T,st,m1,#[],rfl,rfl⟩
    .refine(hnone p 0 w).mono ?_;rintro e w' ⟨rfl,rfl⟩;refine⟨_,rfl,T,.refl _ _,?_,#[],rfl,rfl⟩;have e1:setH h b (.row 1<|Yk [])=h:=RT hb;rw[e1];exact c.m
  .cases hs
 .cases hs
end Go.AM
namespace Go.AM
open Go Go.Sort Go.Proofs
variable {P:Program} {E:Env} {T:Ty} {X:Xt} {w w':World} {h:Hp}
def EW(a b:List UInt8):sameKey (Qd a) (Qd b)=(a==b):=by
 show Z3 _ _=_
 unfold Z3;simp
def Xa:List UInt8->List (List UInt8)->List (List UInt8)
 |_,[]=>[]
 |p,b::r=>bif b==p then Xa b r else b::Xa b r
def Db:∀(a:List UInt8)(r:List<|List UInt8),Ys ((a::r).map Qd)=(a::Xa a r).map Qd
 |a,[]=>rfl
 |a,b::r=>by
  have ih:=Db b r;rw[ZX3]at ih⊢;rw[ZX3];unfold Ys;rw[ih,ZX3];dsimp only;rw[EW,show Xa a (b::r)=bif b==a then Xa b r else b::Xa b r from rfl]
  cases hab:a==b with
  |true=>
   have e:a=b:=by simpa using hab
   subst e;have e2:(a==a)=true:=by simp
   rw[e2];rfl
  |false=>
   have e2:(b==a)=false:=by
    have:a≠b:=by simpa using hab
    simpa using this.symm
   rw[e2];rfl
def Dc(x:List UInt8):∀(p:List UInt8)(l:List<|List UInt8),Xa p (l++[x])=Xa p l++(bif x==(p::l).getLast (by simp)then []else [x])
 |p,[]=>by
  simp only[ZXm,Xa,List.getLast_singleton]
 |p,b::r=>by
  rw[ZXj];have ih:=Dc x b r;unfold Xa;have e:(p::b::r).getLast (by simp)=(b::r).getLast (by simp):=List.getLast_cons<|by simp
  rw[ih,e];cases b==p<;>rfl
def Dd(a:List UInt8)(zs:List<|List UInt8):∀m,m<=zs.length->Go.Lib.compactUpTo (a::zs).toArray (m+1)=a::Xa a (zs.take m)
 |0,_=>by
  rw[Go.Lib.compactUpTo_succ];simp[Go.Lib.compactUpTo,Go.Lib.keeps,Xa]
 |m+1,hm=>by
  rw[Go.Lib.compactUpTo_succ,Dd a zs m<|by omega]
  have hx:m<zs.length:=by omega
  rw[ZYY hx,Dc];have e1:(a::zs).toArray[m+1]! = zs[m]:=by simp[hx]
  have e2:(a::zs).toArray[m+1-1]! =(a::zs.take m).getLast (by simp):=by
   cases m with
   |zero=>simp
   |succ k=>
    have hk:k<zs.length:=by omega
    have e3:a::zs.take (k+1)=(a::zs.take k)++[zs[k]]:=by
     rw[ZYY hk];rfl
    have e4:(a::zs.take (k+1)).getLast (by simp)=((a::zs.take k)++[zs[k]]).getLast (by simp):=by congr 1
    rw[e4,List.getLast_concat];simp[hk]
  have hk:Go.Lib.keeps (a::zs).toArray (m+1) = !(zs[m]==(a::zs.take m).getLast (by simp)):=by
   unfold Go.Lib.keeps;rw[e1,e2];by_cases he:zs[m]=(a::zs.take m).getLast (by simp)
   .simp[he]
   .simp[he]
  rw[hk,e1,ZXj];cases zs[m]==(a::zs.take m).getLast (by simp)<;>rfl
def EX(ss:List<|List UInt8):Ys (ss.map Qd)=(Go.Lib.compact ss).map Qd:=by
 cases ss with
 |nil=>rfl
 |cons a r=>
  rw[Db];unfold Go.Lib.compact;rw[ZXr,Dd a r r.length<|ZX0 _,ZXu]
def EY{f:Nat}(hent:∀args w,(callFunc f args).run P w=.ok (.enter f args) w)
 (hcon:∀(blk off cap:Nat)(zs:List<|List UInt8)(w:World),Holds encStr w blk off zs.toArray->zs.length<=9223372036854775807->zs.length<=cap->Calls P f #[.slice (some ⟨blk,off,none⟩) zs.length cap] w λe w'=>
  e=.returned (.slice (some ⟨blk,off,none⟩) (Go.Lib.compact zs).length cap)/\∃q,w'=putRow encStr (Go.Sort.ahead w q) blk off (Go.Lib.compact zs++List.replicate (zs.length-(Go.Lib.compact zs).length) []).toArray)
 (hnone:∀(p:Option Addr)(cap:Nat)(w:World),Calls P f #[.slice p 0 cap] w λe w'=>e=.returned (.slice p 0 cap)/\w'=w):Qn P E f J8:=by
 intro args h v h' hs T X w rargs _ c hr;unfold J8 at hs;split at hs
 .rename_i b g off len ex;split at hs
  .rename_i sz es hb;cases hc:sz==1&&(es.length==g&&(off==0&&(len==g&&(es.all WB&&Nat.ble es.length 1000000))))with
   |false=>rw[hc]at hs;cases hs
   |true=>
    rw[hc]at hs;cases hs;simp only[ZWT,beq_iff_eq]at hc;obtain⟨rfl,hg,rfl,rfl,c5,c6⟩:=hc;have hlen:=ZXs c6;obtain⟨v0,rfl,hv⟩:=Uc hr;refine .inr<|.inl ⟨f,_,hent _ _,?_⟩;rcases Da c.m hb hg c5 hv with⟨r,C,B,cap,cs,el,hT,rfl,hcap,hcC,hh,hC,hle,hrow⟩|⟨rfl,p,rfl⟩
    .have hback:=D0 c5;generalize es.map bytesOf=ss at hback;subst hback;rw[ZWQ]at hT hle hg hlen;subst hg;have hH:=D1 hh hC hle hrow;refine(hcon r B cap ss w hH (by omega) hcap).mono ?_
     rintro e w' ⟨rfl,n,rfl⟩;rw[EX,ZWQ];have hcl:(Go.Lib.compact ss).length<=ss.length:=by
      unfold Go.Lib.compact Go.Lib.compactUpTo;rw[ZWQ];exact ZXG (List.length_filter_le _ _)<|by simp
     have htt:((Go.Lib.compact ss)++List.replicate (ss.length-(Go.Lib.compact ss).length) []).length=ss.length:=by simp;omega
     obtain⟨st,m1⟩:=D2 (tt:=(Go.Lib.compact ss)++List.replicate (ss.length-(Go.Lib.compact ss).length) []) c.m hb hT hh hC hle htt n #[];rw[Go.Sort.grow_empty]at st m1;have e1:(Go.Lib.compact ss).map Qd++List.replicate (ss.length-(Go.Lib.compact ss).length) (Qd [])=((Go.Lib.compact ss)++List.replicate (ss.length-(Go.Lib.compact ss).length) []).map Qd:=by simp
     rw[e1];refine⟨_,rfl,T,st,m1,⟨_,_,_,rfl⟩,1,ss.length,some r,C,B,hT,ZX0 _,by omega,λ_=>⟨cap,by omega,by omega,λhx=>by simp at hx,.inl ⟨r,rfl,by rw[ZXA,ZXE]⟩⟩⟩
    .refine(hnone p 0 w).mono ?_;rintro e w' ⟨rfl,rfl⟩;have hg0:=hg;rw[ZXt]at hg0;subst hg0;have e1:setH h b (.row 1<|Ys []++List.replicate (0-(Ys []).length) (Qd []))=h:=RT hb;refine⟨_,rfl,T,.refl _ _,by rw[e1];exact c.m,?_⟩
     obtain⟨q0,sz2,g2,r2,C2,B2,q1,q2,q3,q4⟩:=hv;refine⟨q0,sz2,g2,r2,C2,B2,q1,q2,q3,λhx=>?_⟩
     obtain⟨cap,k1,k2,k3,k4⟩:=q4 hx;exact⟨cap,k1,k2,λhx=>by simp at hx,k4⟩
  .cases hs
 .cases hs
def EZ{f:Nat}{el:TypeId}(hent:∀args w,(callFunc f args).run P w=.ok (.enter f args) w)
 (hcon:∀(b off n c:Nat)(news:List Value)(w:World),news.length=n*1->n<=maxLen->n*16<=140737488355328->(∀j u,news[j]?=some u->w.cell? ⟨b,off+j,none⟩=some u)->(∀u∈news,u.oneCell'=true)->
  Calls P f #[.slice (some ⟨b,off,none⟩) n c] w λe w'=>∃v',e=.returned v'/\w'.ownsRow w.heap.size el 1 v' n news/\v'≠.slice none 0 0/\Go.RowKit.Below w.heap.size w w')
 (hnil:∀(n c:Nat)(w:World),Calls P f #[.slice none n c] w λe w'=>e=.returned (.slice none 0 0)/\w'=w)
 (hzero:∀(a:Addr)(c:Nat)(w:World),Calls P f #[.slice (some a) 0 c] w λe w'=>∃v',e=.returned v'/\w'.ownsRow w.heap.size el 1 v' 0 []/\v'≠.slice none 0 0/\Go.RowKit.Below w.heap.size w w'):Qn P E f J9:=by
 intro args h v h' hs T X w rargs _ c hr;unfold J9 at hs;split at hs
 .rename_i x;cases he:Q2 h x with
  |none=>rw[he]at hs;cases hs
  |some es=>
   rw[he]at hs;dsimp only at hs;cases hc:Qq h 1 x&&(es.all (fits 1)&&Nat.ble es.length 1000000)with
   |false=>rw[hc]at hs;cases hs
   |true=>
    rw[hc]at hs;cases hs;simp only[ZWT]at hc;obtain⟨c1,c2,c4⟩:=hc;have hlen:es.length<=1000000:=ZXs c4;obtain⟨v0,rfl,hv⟩:=Uc hr;obtain⟨ad,cap,rfl,hcap,hrow⟩:=G6 c.m hv he c1;refine .inr<|.inl ⟨f,_,hent _ _,?_⟩;rcases hrow with rfl|⟨r,o,rfl,hrr⟩
    .cases ad with
     |none=>
      refine(hnil _ cap w).mono ?_;rintro e w' ⟨rfl,rfl⟩;exact⟨_,rfl,Ub (e:=el) (news:=[]) c (.refl _ _) Nat.one_pos (λ_ hy=>by cases hy) rfl ⟨rfl,.inl ⟨rfl,rfl⟩⟩⟩
     |some a=>
      refine(hzero a cap w).mono ?_;rintro e w' ⟨v',rfl,h1,_,h2⟩;exact⟨v',rfl,Ub (news:=[]) c h2 Nat.one_pos (λ_ hy=>by cases hy) rfl h1⟩
    .obtain⟨k1,k2,k3⟩:=Kx hrr;obtain⟨us,k4,k5⟩:=Kv k1;have hul:=Qr k5;refine(hcon r o es.length cap us w (by omega) (by unfold maxLen;omega) (by omega) (λj u hu=>k4 j u hu)<|R8 c2 us k5).mono ?_
     rintro e w' ⟨v',rfl,h1,_,h2⟩;exact⟨v',rfl,Ub c h2 Nat.one_pos k3 k5 h1⟩
 .cases hs
end Go.AM
namespace Go.AM
open Go Go.Sort Go.Proofs
variable {P:Program} {E:Env} {T:Ty} {X:Xt} {w w':World} {h:Hp}
def I0(x:UInt8)(k:Nat)(r:List UInt8):Go.Lib.splitK [x] 0 (k+1) (x::r)=[]::Go.Lib.splitK [x] 0 k r:=by
 have hi:Go.Lib.index (x::r) [x]=0:=by rw[Go.Lib.index_one];simp[Go.Lib.indexByte]
 conv=>lhs;unfold Go.Lib.splitK
 rw[hi];simp
def I1(x c:UInt8)(hc:(c==x)=false):∀(k:Nat)(r:List UInt8),Go.Lib.splitK [x] 0 k (c::r)=(match Go.Lib.splitK [x] 0 k r with|w::ws=>(c::w)::ws|[]=>[[c]])
 |0,r=>rfl
 |k+1,r=>by
  have hi:Go.Lib.index (c::r) [x]=if Go.Lib.index r [x]==-1 then -1 else Go.Lib.index r [x]+1:=by
   rw[Go.Lib.index_one,Go.Lib.index_one]
   conv=>lhs;unfold Go.Lib.indexByte
   rw[hc];simp
  have hge:-1<=Go.Lib.index r [x]:=by rw[Go.Lib.index_one];exact Go.Lib.indexByte_ge _ _
  unfold Go.Lib.splitK;rw[hi];cases h1:Go.Lib.index r [x]==-1 with
  |true=>simp
  |false=>
   have hne:Go.Lib.index r [x]≠-1:=by simpa using h1
   obtain⟨i,hi2⟩:∃i:Nat,Go.Lib.index r [x]=(i:Int):=⟨(Go.Lib.index r [x]).toNat,by omega⟩
   rw[hi2];have e1:(((i:Int)+1)==-1)=false:=by
    have:((i:Int)+1)≠-1:=by omega
    simpa using this
   have e2:((i:Int)+1).toNat=i+1:=by omega
   have e3:((i:Int)).toNat=i:=rfl;simp only[ZX2,if_false,e1,e2,e3,ZXE,ZXh,ZYO,List.drop_succ_cons]
def RU(x:UInt8):∀(l:List UInt8)(k:Nat),l.count x<=k->Go.Lib.splitK [x] 0 k l=Q4 x l
 |[],0,_=>rfl
 |[],k+1,_=>by
  unfold Go.Lib.splitK;rw[Go.Lib.index_one];simp[Go.Lib.indexByte,Q4]
 |c::r,k,hk=>by
  unfold Q4;cases hc:c==x with
  |true=>
   have e:c=x:=by simpa using hc
   subst e;rw[List.count_cons_self]at hk;obtain⟨k',rfl⟩:∃k',k=k'+1:=⟨k-1,by omega⟩
   rw[I0,cond_true,RU c r k'<|by omega]
  |false=>
   have hne:x≠c:=λe=>by subst e;simp at hc
   rw[List.count_cons_of_ne<|by simpa using hne.symm]at hk
   rw[I1 x c hc,cond_false,RU x r k hk];rfl
def De(c:UInt8):∀l:List UInt8,(Q4 c l).length<=l.length+1
 |[]=>by simp[Q4]
 |x::r=>by
  have:=De c r;unfold Q4;cases x==c with
  |true=>simp;omega
  |false=>
   simp only[cond_false];cases h:Q4 c r with
   |nil=>simp
   |cons w ws=>rw[h]at this;simp at this⊢;omega
def Df(x:UInt8):∀l:List UInt8,(Q4 x l).length=l.count x+1
 |[]=>rfl
 |c::r=>by
  have ih:=Df x r;unfold Q4;cases hc:c==x with
  |true=>
   have e:c=x:=by simpa using hc
   subst e;rw[List.count_cons_self,cond_true,ZXr,ih]
  |false=>
   have hne:x≠c:=λe=>by subst e;simp at hc
   rw[List.count_cons_of_ne (by simpa using hne.symm),cond_false]
   cases h:Q4 x r with
   |nil=>rw[h]at ih;simp at ih
   |cons w ws=>rw[h]at ih;simpa using ih
def I2{f:Nat}{el:TypeId}(hent:∀args w,(callFunc f args).run P w=.ok (.enter f args) w)
 (hcon:∀(s:ByteArray)(x:UInt8)(w:World),s.size<4294967281->Calls P f #[.string s,.string ⟨#[x]⟩] w λe w'=>
  e=.returned (.slice (some ⟨w.heap.size,0,none⟩) (Go.Lib.countB s ⟨#[x]⟩+1)<|Go.Lib.countB s ⟨#[x]⟩+1)/\w'=w.alloc (.cells ((Go.Lib.splitB ⟨#[x]⟩ 0 (Go.Lib.countB s ⟨#[x]⟩) s).map Value.string).toArray el)):Qn P E f Ja:=by
 intro args h v h' hs T X w rargs _ c hr;unfold Ja at hs;split at hs
 .rename_i s ch;split at hs
  .rename_i x hx;cases hc:Nat.blt s.size 4294967281 with
   |false=>rw[hc]at hs;cases hs
   |true=>
    rw[hc]at hs;cases hs;have hsz:s.size<4294967281:=ZXs hc;obtain⟨v0,u0,rfl,hv,hu⟩:=RN hr;have hv':v0=.string s:=hv;have hu':u0=.string ch:=hu;subst hv' hu';have hch:ch=⟨#[x]⟩:=by
     cases ch with
     |mk d=>simp at hx;simp[<-hx]
    subst hch;have hcount:Go.Lib.countB s ⟨#[x]⟩=s.data.toList.count x:=by
     have:Go.Lib.countB s ⟨#[x]⟩=Go.Lib.count s.data.toList [x]:=rfl;rw[this,Go.Lib.count_one]
    have hdata:=Go.Lib.splitB_data ⟨#[x]⟩ 0 (Go.Lib.countB s ⟨#[x]⟩) s;have hk:Go.Lib.splitK [x] 0 (Go.Lib.countB s ⟨#[x]⟩) s.data.toList=Q4 x s.data.toList:=RU x _ _<|by rw[hcount];exact ZX0 _
    have hlist:(Go.Lib.splitB ⟨#[x]⟩ 0 (Go.Lib.countB s ⟨#[x]⟩) s).map Value.string=(Q4 x s.data.toList).map encStr:=by
     rw[<-hk];have h2:(Go.Lib.splitB ⟨#[x]⟩ 0 (Go.Lib.countB s ⟨#[x]⟩) s).map (λb=>b.data.toList)=Go.Lib.splitK [x] 0 (Go.Lib.countB s ⟨#[x]⟩) s.data.toList:=hdata
     rw[<-h2,List.map_map];apply ZZh;intro b _;show Value.string b=Value.string ⟨b.data.toList.toArray⟩
     simp
    have hN:Go.Lib.countB s ⟨#[x]⟩+1=(Q4 x s.data.toList).length:=by
     rw[hcount];exact(Df x _).symm
    refine .inr<|.inl ⟨f,_,hent _ _,(hcon s x w hsz).mono ?_⟩;rintro e w' ⟨rfl,rfl⟩;rw[hN,hlist];have hll:(Q4 x s.data.toList).length<=4294967281:=by
     have:=De x s.data.toList;have h3:s.data.toList.length=s.size:=ZXD;omega
    refine⟨_,rfl,?_⟩;have:=Ub (v':=.slice (some ⟨w.heap.size,0,none⟩) (Q4 x s.data.toList).length (Q4 x s.data.toList).length) (es:=(Q4 x s.data.toList).map Qd) (news:=(Q4 x s.data.toList).map encStr) (sz:=1) (e:=el) c (Go.RowKit.Below.alloc (.refl _ _) (ZX0 _)<|.cells ((Q4 x s.data.toList).map encStr).toArray el) Nat.one_pos (λy hy=>by obtain⟨l,_,rfl⟩:=ZXP.1 hy;rfl) (by rw[RP];exact RQ.2 rfl)
     ⟨by simp,.inr ⟨w.heap.size,(Q4 x s.data.toList).length,_,by simp,ZX0 _,Wo w _,by simp,by unfold maxLen;omega,by simp,(by simp only[ZWQ,ZXA];exact ZXp<|by simp)⟩⟩
    simpa using this
  .cases hs
 .cases hs
end Go.AM
namespace Go.Proofs
open Go.Shelf Go.RowKit Go.Lib
variable {P:Program} {ρ:Ren}
set_option maxHeartbeats 1000000 in
def Z9R(L:Lays.n146 P ρ)(hi9:(P.info?<|ρ.t 9).map (λi=>(i.zero,i.size,i.bytes))=some (some<|.string ByteArray.empty,1,16))(s:ByteArray)(x:UInt8)(w:World)(hs:s.size<4294967281):
 Calls P (ρ.f 146) #[.string s,.string ⟨#[x]⟩] w λe w'=>
  e=.returned (.slice (some ⟨w.heap.size,0,none⟩) (Lib.countB s ⟨#[x]⟩+1)<|Lib.countB s ⟨#[x]⟩+1)/\w'=w.alloc (.cells ((Lib.splitB ⟨#[x]⟩ 0 (Lib.countB s ⟨#[x]⟩) s).map Value.string).toArray<|ρ.t 9):=by
 have h1:1<=(⟨#[x]⟩:ByteArray).size:=Nat.le_refl _;have hle:=Lib.countB_le ⟨#[x]⟩ h1 s.size s<|Nat.le_refl _;have hlen:=Lib.splitB_all ⟨#[x]⟩ h1 0 _ s rfl;have hcnt:(Lib.countB s ⟨#[x]⟩:Int)=Lib.countByte s.data.toList x:=by
  have:Lib.countB s ⟨#[x]⟩=Lib.count s.data.toList [x]:=rfl;rw[this,Lib.count_one];rfl
 have c:=Any.strings_genSplit_core (n:=-1) (N:=Lib.countB s ⟨#[x]⟩+1) {L with} hi9 s ⟨#[x]⟩ 0 w hs h1 (Nat.zero_le _)
  (λy c hy=>by
   have h2:Lib.indexB y ⟨#[x]⟩=Lib.indexByte y.data.toList x:=by
    have:Lib.indexB y ⟨#[x]⟩=Lib.index y.data.toList [x]:=rfl;rw[this,Lib.index_one]
   rw[h2];exact Any.strings_Index_one {L with} y x _)
  (by rw[hcnt];exact Any.strings_Count_one {L with} s x w) (by decide) (by decide) (by rw[if_pos<|by decide];omega)
 rw[Nat.add_sub_cancel,hlen]at c;have e2:Lib.cellsOf (Lib.splitB ⟨#[x]⟩ 0 (Lib.countB s ⟨#[x]⟩) s) (Lib.countB s ⟨#[x]⟩+1)=((Lib.splitB ⟨#[x]⟩ 0 (Lib.countB s ⟨#[x]⟩) s).map Value.string).toArray:=by rw[<-hlen];exact Lib.cellsOf_full _
 rw[e2]at c;have t3:=L.t3;have t9:=L.t9;have t31:=L.t31;have a3:=L.a3;have a9:=L.a9;have a31:=L.a31;have z3:=L.z3;have v3:=L.v3;have z9:=L.z9;have v9:=L.v9;have z31:=L.z31;have v31:=L.v31;have e221:∀args w,(callFunc (ρ.f 221) args).run P w=.ok (.enter (ρ.f 221) args) w:=enters_of L.f221 (by kernel_rfl) rfl
 go_enter L.f146,Body.n146_ntmps ρ
 go_wp2_with (go_at_fn (ρ.f 221);refine c.mono ?_;rintro e w' ⟨rfl,hw⟩;rw[hw])
 go_ret
 exact⟨rfl,rfl⟩
end Go.Proofs
namespace Go.Proofs
open Go.Shelf Go.RowKit Go.Lib
variable {P:Program} {ρ:Ren}
def I3(r:Int)(hr:128<=r):(∃a b:UInt8,Utf8.encode r=⟨#[a,b]⟩/\128<=b.toNat)\/(∃a b c:UInt8,Utf8.encode r=⟨#[a,b,c]⟩)\/∃a b c d:UInt8,Utf8.encode r=⟨#[a,b,c,d]⟩:=by
 unfold Utf8.encode;have hc:128<=(if Utf8.valid r=true then r.toNat else Utf8.runeError):=by
  split
  .omega
  .decide
 generalize(if Utf8.valid r=true then r.toNat else Utf8.runeError)=c at hc
 dsimp only;split
 .omega
 .split
  .refine .inl ⟨_,_,rfl,?_⟩;rw[UInt8.toNat_ofNat'];omega
  .split
   .exact .inr<|.inl ⟨_,_,_,rfl⟩
   .exact .inr<|.inr ⟨_,_,_,_,rfl⟩
set_option maxHeartbeats 4000000 in
set_option maxRecDepth 1000000 in
def I4(L:Lays.n152 P ρ)(mixed:P.follows .mixedOrders=true)(c0 c1:UInt8)(h0:c0.toNat<128)(h1:c1.toNat<128)(r:Int)(hr:128<=r)(hne:r≠65533)(w:World):
 Calls P (ρ.f 152) #[.string ⟨#[c0,c1]⟩,.int .i32 r] w λe w'=>e=.returned (.int .i64<|-1)/\∃q,w'=w.drewN q:=by
 have t3:=L.t3;have a3:=L.a3;have z3:=L.z3;have v3:=L.v3;have t4:=L.t4;have a4:=L.a4;have z4:=L.z4;have v4:=L.v4;have t5:=L.t5;have a5:=L.a5;have z5:=L.z5;have v5:=L.v5;have t9:=L.t9;have a9:=L.a9;have z9:=L.z9;have v9:=L.v9;have t21:=L.t21;have a21:=L.a21;have z21:=L.z21;have v21:=L.v21;have e137:∀args w,(callFunc (ρ.f 137) args).run P w=.ok (.enter (ρ.f 137) args) w:=enters_of L.f137 (by kernel_rfl) rfl
 have e119:∀args w,(callFunc (ρ.f 119) args).run P w=.ok (.enter (ρ.f 119) args) w:=enters_of L.f119 (by kernel_rfl) rfl
 have hcv:∀w,(convert (ρ.t 21) (ρ.t 9)<|.int .i32 r).run P w=.ok (.string<|Utf8.encode r) w:=λw=>run_convert_int_string w _ _ _ _ (by rw[L.t21];rfl) L.t9
 have b1:decide (r<128)=false:=decide_eq_false<|by omega
 have b2:(r==65533)=false:=beq_eq_false_iff_ne.2 hne;cases hv:Lib.validRune r with
 |false=>
  go_enter L.f152,Body.n152_ntmps ρ
  go_wp2_with (go_at_fn (ρ.f 119);refine(Any.utf8_ValidRune {L with} _ _).mono ?_;rintro e w' ⟨rfl,hw⟩;rw[hw,hv])
  go_ret
  exact⟨rfl,0,(World.drewN_zero _).symm⟩
 |true=>
  rcases I3 r hr with⟨a,b,he,hb⟩|⟨a,b,c,he⟩|⟨a,b,c,d,he⟩
  .rw[he]at hcv;have hcb:((c1.toNat:Int) != (b.toNat:Int))=true:=bne_iff_ne.2 (by omega)
   have hx1:∀w,(Instr.index (ρ.t 9) (.string ⟨#[c0,c1]⟩)<|.int .i64 1).run P w=.ok (.int .u8 c1.toNat) w:=λw=>by rw[run_index_string w _ _ _ _ L.t9];rfl
   have hx2:∀w,(Instr.index (ρ.t 9) (.string ⟨#[a,b]⟩)<|.int .i64 1).run P w=.ok (.int .u8 b.toNat) w:=λw=>by rw[run_index_string w _ _ _ _ L.t9];rfl
   go_enter L.f152,Body.n152_ntmps ρ
   go_wp2_with (go_at_fn (ρ.f 119);refine(Any.utf8_ValidRune {L with} _ _).mono ?_;rintro e w' ⟨rfl,hw⟩;rw[hw,hv])
   refine wp_scope_straight ?_
   go_wp2_with fail
   refine wp_loop_rounds 1 ?_;rw[rounds_succ]
   go_wp2_with fail
   refine wp_scope_straight ?_
   go_wp2_with fail
   go_region_o
   all_goals go_wp2_with fail
   all_goals (go_region_with_o (go_at_fn (ρ.f 137);refine(Any.strings_IndexByte {L with} _ _ _).mono ?_;rintro e w' ⟨rfl,hw⟩;rw[hw]))
   all_goals (go_wp2_with fail)
   all_goals (repeat (simp only[Exit.noGoto];go_wp2_with fail))
   all_goals (go_ret;exact⟨rfl,2,rfl⟩)
  .rw[he]at hcv
   go_enter L.f152,Body.n152_ntmps ρ
   go_wp2_with (go_at_fn (ρ.f 119);refine(Any.utf8_ValidRune {L with} _ _).mono ?_;rintro e w' ⟨rfl,hw⟩;rw[hw,hv])
   refine wp_scope_straight ?_
   go_wp2_with fail
   refine wp_loop_rounds 1 ?_;rw[rounds_succ]
   go_wp2_with fail
   simp only[Exit.noGoto]
   go_wp2_with fail
   go_ret
   exact⟨rfl,0,(World.drewN_zero _).symm⟩
  .rw[he]at hcv
   go_enter L.f152,Body.n152_ntmps ρ
   go_wp2_with (go_at_fn (ρ.f 119);refine(Any.utf8_ValidRune {L with} _ _).mono ?_;rintro e w' ⟨rfl,hw⟩;rw[hw,hv])
   refine wp_scope_straight ?_
   go_wp2_with fail
   refine wp_loop_rounds 1 ?_;rw[rounds_succ]
   go_wp2_with fail
   simp only[Exit.noGoto]
   go_wp2_with fail
   go_ret
   exact⟨rfl,0,(World.drewN_zero _).symm⟩
end Go.Proofs
namespace Go.Proofs
open Go.Shelf Go.RowKit Go.Lib
variable {P:Program} {ρ:Ren}
set_option maxHeartbeats 4000000 in
set_option maxRecDepth 1000000 in
def I5(L:Lays.n152 P ρ)(c0 c1:UInt8)(h0:c0.toNat<128)(h1:c1.toNat<128)(w:World):
 Calls P (ρ.f 152) #[.string ⟨#[c0,c1]⟩,.int .i32 65533] w λe w'=>e=.returned (.int .i64<|-1)/\∃pos,w'=w.iter ⟨#[c0,c1]⟩ pos:=by
 have t3:=L.t3;have a3:=L.a3;have z3:=L.z3;have v3:=L.v3;have t4:=L.t4;have a4:=L.a4;have z4:=L.z4;have v4:=L.v4;have t5:=L.t5;have a5:=L.a5;have z5:=L.z5;have v5:=L.v5;have t9:=L.t9;have a9:=L.a9;have z9:=L.z9;have v9:=L.v9;have t21:=L.t21;have a21:=L.a21;have z21:=L.z21;have v21:=L.v21;have n0:∀ty,(Instr.next (.pointer<|some ⟨w.heap.size,0,none⟩) true ty).run P (w.iter ⟨#[c0,c1]⟩ 0)=.ok (.tuple #[.bool true,.int .i64 0,.int .i32 c0.toNat]) (w.iter ⟨#[c0,c1]⟩ 1):=λty=>run_next_ascii (P:=P) w ⟨#[c0,c1]⟩ 0 ty Nat.zero_lt_two h0
 have n1:∀ty,(Instr.next (.pointer<|some ⟨w.heap.size,0,none⟩) true ty).run P (w.iter ⟨#[c0,c1]⟩ 1)=.ok (.tuple #[.bool true,.int .i64 1,.int .i32 c1.toNat]) (w.iter ⟨#[c0,c1]⟩ 2):=λty=>run_next_ascii (P:=P) w ⟨#[c0,c1]⟩ 1 ty Nat.one_lt_two h1
 have n2:=λty=>run_next_end (P:=P) w ⟨#[c0,c1]⟩ 2 ty<|Nat.lt_irrefl 2
 have d0:((c0.toNat:Int)==65533)=false:=beq_eq_false_iff_ne.2<|by omega
 have d1:((c1.toNat:Int)==65533)=false:=beq_eq_false_iff_ne.2<|by omega
 go_enter L.f152,Body.n152_ntmps ρ
 go_wp2_with fail
 refine wp_loop_rounds 3 ?_;rw[rounds_succ]
 go_wp2_with fail
 rw[rounds_succ]
 go_wp2_with fail
 rw[rounds_succ]
 go_wp2_with fail
 go_ret
 exact⟨rfl,_,rfl⟩
def I6(L:Lays.n152 P ρ)(mixed:P.follows .mixedOrders=true)(c0 c1:UInt8)(h0:c0.toNat<128)(h1:c1.toNat<128)(r:Int)(hr:128<=r)(w:World):
 Calls P (ρ.f 152) #[.string ⟨#[c0,c1]⟩,.int .i32 r] w λe w'=>e=.returned (.int .i64<|-1)/\Below w.heap.size w w':=by
 by_cases hne:r=65533
 .subst hne;refine(I5 L c0 c1 h0 h1 w).mono ?_;rintro e w' ⟨rfl,pos,rfl⟩;exact⟨rfl,(Below.refl _ w).alloc (Nat.le_refl _) _⟩
 .refine(I4 L mixed c0 c1 h0 h1 r hr hne w).mono ?_;rintro e w' ⟨rfl,q,rfl⟩;exact⟨rfl,⟨rfl,rfl,rfl,Nat.le_refl _,λ_ _=>rfl⟩⟩
def Dg{s:ByteArray}{j:Nat}{b:UInt8}(h:s.data.toList[j]?=some b):s.get! j=b:=by
 obtain⟨hj,e⟩:=List.getElem?_eq_some_iff.1 h;have hj':j<s.size:=by rw[Array.length_toList]at hj;exact hj
 simp only[ByteArray.get!];rw[getElem!_pos s.data j hj'];exact e
def I7(s:ByteArray)(pos:Nat)(h:pos<s.size)(ha:128<=(s.get! pos).toNat):
 pos+(Utf8.decode s pos).2<=s.size/\∀j,pos<=j->j<pos+(Utf8.decode s pos).2->128<=(s.get! j).toNat:=by
 have hn:¬(s.get! pos).toNat<128:=by omega
 simp only[Utf8.decode,Nat.add_zero,hn,if_false]
 repeat' split
 all_goals (rename_i hc;simp only[Bool.and_eq_true,decide_eq_true_eq,beq_iff_eq]at*)
 all_goals (refine⟨by omega,λj h1 h2=>?_⟩)
 all_goals (have hj:j=pos\/j=pos+1\/j=pos+2\/j=pos+3:=by omega)
 all_goals (rcases hj with rfl|rfl|rfl|rfl<;>omega)
def WE(w:World)(b:Nat)(o:Obj):World:={w with heap:=w.heap.setIfInBounds b o}
def Dh(w:World)(b:Nat)(s:ByteArray)(pos:Nat)(ty:TypeId)(hit:w.heap[b]?=some (.stringIter s pos))(h:pos<s.size):
 (Instr.next (.pointer<|some ⟨b,0,none⟩) true ty).run P w =
  .ok (.tuple #[.bool true,.int .i64 pos,.int .i32 (Utf8.decode s pos).1]) (WE w b<|.stringIter s<|pos+(Utf8.decode s pos).2):=by
 simp only[Instr.next,getObj,setObj,Sem.run_bind,Sem.run,hit,Result.andThen,h,if_true]
 simp[goInt,WE]
def I8(w:World)(b:Nat)(s:ByteArray)(pos:Nat)(ty:TypeId)(hit:w.heap[b]?=some (.stringIter s pos))(h:¬pos<s.size):
 (Instr.next (.pointer<|some ⟨b,0,none⟩) true ty).run P w=.ok (.tuple #[.bool false]) w:=by
 simp[Instr.next,getObj,Sem.run,hit,h]
def RV{w wx:World}{o o':Obj}(hb:Below w.heap.size w wx)(hit:wx.heap[w.heap.size]?=some o'){w':World}(h:Below (WE wx w.heap.size o).heap.size (WE wx w.heap.size o) w'):
 Below w.heap.size w w'/\w'.heap[w.heap.size]?=some o:=by
 have hsz:(WE wx w.heap.size o).heap.size=wx.heap.size:=by simp[WE]
 have hlt:w.heap.size<wx.heap.size:=(Array.getElem?_eq_some_iff.1 hit).1;have hb2:Below w.heap.size w (WE wx w.heap.size o):=⟨hb.os,hb.tape,hb.output,by rw[hsz];exact hb.size,λk hk=>by
  show(wx.heap.setIfInBounds w.heap.size o)[k]?=_
  rw[Array.getElem?_setIfInBounds_ne<|by omega]
  exact hb.block k hk⟩
 refine⟨hb2.trans<|h.mono<|by rw[hsz];omega,?_⟩
 rw[h.block _<|by rw[hsz];exact hlt]
 show(wx.heap.setIfInBounds w.heap.size o)[w.heap.size]?=_
 simp[hlt]
end Go.Proofs
namespace Go.Proofs
open Go.Shelf Go.RowKit Go.Lib
variable {P:Program} {ρ:Ren}
def I9{s:ByteArray}{chars:List UInt8}{i k:Nat}(hc:∀b∈chars,b.toNat<128)(h:Lib.NoAny s.data.toList chars i)(hb:∀j,i<=j->j<i+k->128<=(s.get! j).toNat):Lib.NoAny s.data.toList chars (i+k):=by
 intro j b hj he;by_cases hji:j<i
 .exact h j b hji he
 .have:=hb j (by omega) hj
  rw[Dg he]at this;cases hcb:chars.contains b with
  |false=>rfl
  |true=>
   have:=hc b<|List.contains_iff_mem.1 hcb;omega
set_option maxHeartbeats 8000000 in
set_option maxRecDepth 1000000 in
def Ia(L:Lays.n153 P ρ)(mixed:P.follows .mixedOrders=true)(s:ByteArray)(c0 c1:UInt8)(h0:c0.toNat<128)(h1:c1.toNat<128)(w:World)(h8:s.size<=8):
 Calls P (ρ.f 153) #[.string s,.string ⟨#[c0,c1]⟩] w λe w'=>e=.returned (.int .i64<|Lib.indexAny s.data.toList [c0,c1])/\Below w.heap.size w w':=by
 have hcs:∀b∈[c0,c1],b.toNat<128:=by
  intro b hb;simp only[List.mem_cons,List.not_mem_nil,or_false]at hb;rcases hb with rfl|rfl
  .exact h0
  .exact h1
 have HC:Aside (∀b∈[c0,c1],b.toNat<128):=hcs;clear hcs;have h8z:decide ((8:Int)<(s.size:Int))=false:=decide_eq_false<|by omega
 have t3:=L.t3;have a3:=L.a3;have z3:=L.z3;have v3:=L.v3;have t4:=L.t4;have a4:=L.a4;have z4:=L.z4;have v4:=L.v4;have t5:=L.t5;have a5:=L.a5;have z5:=L.z5;have v5:=L.v5;have t9:=L.t9;have a9:=L.a9;have z9:=L.z9;have v9:=L.v9;have t21:=L.t21;have a21:=L.a21;have z21:=L.z21;have v21:=L.v21;have e152:∀args w,(callFunc (ρ.f 152) args).run P w=.ok (.enter (ρ.f 152) args) w:=enters_of L.f152 (by kernel_rfl) rfl
 have e226:∀args w,(callFunc (ρ.f 226) args).run P w=.ok (.enter (ρ.f 226) args) w:=enters_of L.f226 (by kernel_rfl) rfl
 go_enter L.f153,Body.n153_ntmps ρ
 go_wp2_with (go_at_fn (ρ.f 226);refine(Any.strings_shouldUseASCIISet {L with} _ _).mono ?_;rintro e w' ⟨rfl,hw⟩;rw[hw,h8z])
 go_loopg [9,10] s.size (λg _ _ wx=>∃i:Nat,i+g=s.size/\Below w.heap.size w wx/\wx.heap[w.heap.size]?=some (.stringIter s i)/\Lib.NoAny s.data.toList [c0,c1] i)
 case atStart=>exact⟨0,by omega,(Below.refl _ w).alloc (Nat.le_refl _) _,World.iter_heap w s 0,Lib.NoAny.zero _ _⟩
 case round=>
  obtain⟨i,hig,hbl,hit,hno⟩:=hrel;have HN:Aside (Lib.NoAny s.data.toList [c0,c1] i):=hno;have HB:Aside (Below w.heap.size w wr):=hbl;clear hno hbl;cases gk with
  |zero=>
   obtain rfl:i=s.size:=by omega
   have hnx:=λty=>I8 (P:=P) wr w.heap.size s s.size ty hit<|Nat.lt_irrefl _
   have HI:Aside (wr.heap[w.heap.size]?=some (Obj.stringIter s s.size)):=hit;clear hit
   go_wp2
   go_ret
   exact⟨by rw[Lib.indexAny_none<|by rw[<-Lib.size_eq];exact HN.out];rfl,HB.out⟩
  |succ g=>
   have hi:i<s.size:=by omega
   cases hx:decide ((s[i]'hi).toNat<128)with
   |true=>
    have hx128:(s[i]'hi).toNat<128:=of_decide_eq_true hx;clear hx;obtain⟨x,hx⟩:∃x:UInt8,s[i]'hi=x:=⟨_,rfl⟩;have hxl:s.data.toList[i]?=some x:=by rw[<-hx];exact Lib.data_getElem? s i hi
    have hdc:=decode_ascii s i hi hx128;have hnx:=λty=>Dh (P:=P) wr w.heap.size s i ty hit hi
    rw[hdc,hx]at hnx;rw[hx]at hx128;have Hx:Aside (s.data.toList[i]?=some x):=hxl;have HI:Aside (wr.heap[w.heap.size]?=some (Obj.stringIter s i)):=hit;clear hit hxl hx hdc;have hcon:=Lib.contains_iff_indexByte [c0,c1] x;have hback:((x.toNat:Int)).toNat.toUInt8=x:=by simp
    obtain⟨wz,hwz⟩:∃wz,WE wr w.heap.size (.stringIter s<|i+1)=wz:=⟨_,rfl⟩;rw[show((x.toNat,1):Nat×Nat).2=1 from rfl,show((x.toNat,1):Nat×Nat).1=x.toNat from rfl]at hnx
    rw[hwz]at hnx;cases hin:[c0,c1].contains x
    .rw[hin]at hcon;have hlt:¬((0:Int)<=Lib.indexByte [c0,c1] x):=of_decide_eq_false hcon.symm;clear hcon
     go_wp2_with (go_at_fn (ρ.f 152);refine(Any.strings_IndexRune_ascii {L with} _ _ _ (by omega)<|by omega).mono ?_;rintro e w' ⟨rfl,hw⟩;rw[hw,hback])
     go_roundg g
     case measure=>omega
     case rel=>
      have hz:=RV (o:=Obj.stringIter s<|i+1) HB.out HI.out<|Below.refl _ _;rw[hwz]at hz;exact⟨i+1,by omega,hz.1,hz.2,HN.out.succ Hx.out hin⟩
    .rw[hin]at hcon;have hge:(0:Int)<=Lib.indexByte [c0,c1] x:=of_decide_eq_true hcon.symm;clear hcon
     go_wp2_with (go_at_fn (ρ.f 152);refine(Any.strings_IndexRune_ascii {L with} _ _ _ (by omega)<|by omega).mono ?_;rintro e w' ⟨rfl,hw⟩;rw[hw,hback])
     go_ret
     have hz:=RV (o:=Obj.stringIter s<|i+1) HB.out HI.out<|Below.refl _ _;rw[hwz]at hz;exact⟨by rw[Lib.indexAny_hit HN.out Hx.out hin];rfl,hz.1⟩
   |false=>
    have hx128:128<=(s[i]'hi).toNat:=Nat.not_lt.1<|of_decide_eq_false hx;have hgx:s.get! i=s[i]'hi:=Dg<|Lib.data_getElem? s i hi;have hdb:=I7 s i hi<|by rw[hgx];exact hx128
    have hdh:=decode_high s i hi hx128;have hdl:=decode_le s i;have hnx:=λty=>Dh (P:=P) wr w.heap.size s i ty hit hi
    obtain⟨r,k,hd⟩:∃r k,Utf8.decode s i=(r,k):=⟨_,_,rfl⟩;rw[hd]at hdb hdh hdl hnx;dsimp only at hdb hdh hdl hnx;obtain⟨hr,hk⟩:=hdh;obtain⟨hik,hby⟩:=hdb;have HI:Aside (wr.heap[w.heap.size]?=some (Obj.stringIter s i)):=hit;have HY:Aside (∀j,i<=j->j<i+k->128<=(s.get! j).toNat):=hby
    clear hit hx hd hgx hx128 hby
    obtain⟨wz,hwz⟩:∃wz,WE wr w.heap.size (.stringIter s<|i+k)=wz:=⟨_,rfl⟩;rw[hwz]at hnx
    go_wp2_with (go_at_fn (ρ.f 152);refine(I6 {L with} mixed c0 c1 h0 h1 _ (by omega) _).mono ?_;rintro e w' ⟨rfl,hw⟩)
    go_roundg (s.size-(i+k))
    case measure=>omega
    case rel=>
     rw[<-hwz]at hw;have hz:=RV (o:=Obj.stringIter s<|i+k) HB.out HI.out hw;exact⟨i+k,by omega,hz.1,hz.2,I9 HC.out HN.out HY.out⟩
def two_bytes{c:ByteArray}(h:c.size=2):∃c0 c1,c=⟨#[c0,c1]⟩:=by
 obtain⟨⟨l⟩⟩:=c
 match l,h with
 |[a,b],_=>exact⟨a,b,rfl⟩
def Z9S(L:Lays.n153 P ρ)(mixed:P.follows .mixedOrders=true)(h116:(P.info?<|ρ.t 116).map (λi=>(i.zero,i.size))=some (some<|.agg<|Array.replicate 256<|.bool false,256))
 (s c:ByteArray) (w:World) (hs:s.size<4294967281) (h2:c.size=2) (hac:∀(j:Nat)b,c.data.toList[j]?=some b->b.toNat<128):
 Calls P (ρ.f 153) #[.string s,.string c] w λe w'=>e=.returned (.int .i64<|Lib.indexAny s.data.toList c.data.toList)/\Below w.heap.size w w':=by
 by_cases h8:s.size<=8
 .obtain⟨c0,c1,rfl⟩:=two_bytes h2;exact Ia L mixed s c0 c1 (hac 0 c0 rfl) (hac 1 c1 rfl) w h8
 .refine(Any.strings_IndexAny_long L (zero_of_info h116).1 (zero_of_info h116).2 s c w (by omega) (by omega) hs (by omega) hac).mono λe w'⟨h1,h3⟩=>⟨h1,?_⟩
  rw[h3];exact((Below.refl _ _).alloc (Nat.le_refl _) _).alloc (by simp) _
end Go.Proofs
