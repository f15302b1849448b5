/- TicketLater holds for all its arguments. No condition. -/
import Derived.Test.YtnjibjdmniajjaaGreatDoorT4
import Derived.Test.YtnjibjdmniajjaaGreatDoorQ5
import Derived.Test.YtnjibjdmniajjaaGreatDoorP4c
import Derived.Test.YtnjibjdmniajjaaGreatDoorH4
import Derived.Test.YtnjibjdmniajjaaGreatDoorR4
import Derived.Stop.LaidErr
import Derived.Lib.LaidTab
import Derived.Shelf.Strings.Builder1
import Derived.Shelf.Strings.Builder2
import Derived.Shelf.Strings.OnBuilder
import Derived.Shelf.Strings.Trim
import Derived.Shelf.Small.Utf8
import Derived.Shelf.Small.Bits
import Derived.Shelf.Small.Strs
import Derived.Shelf.Small.Wraps
import Derived.Shelf.Strings.BuilderF
import Derived.Shelf.Utf8.RuneCount
import Derived.Shelf.Strconv.Atoi
import Derived.Shelf.Strconv.Itoa0
import Derived.Shelf.Strconv.Itoa1
import Derived.Shelf.LaysM
import Derived.Shelf.Strconv.Itoa2
import Derived.Shelf.Strconv.Itoa3
import Derived.Shelf.Strconv.AtoiErrFast
import Derived.Shelf.Strconv.ParseIntEmpty
import Derived.Shelf.Strconv.AtoiFail
import Derived.Shelf.Strconv.Clone
import Derived.Shelf.Strconv.SyntaxError
import Derived.Shelf.LaysC
import Derived.Shelf.Strconv.ToError
import Derived.Shelf.Strconv.AtoiErr
import Derived.Shelf.Strconv.ErrVar
import Derived.Shelf.Strconv.Lower
import Derived.Shelf.Strconv.ParseUint10
import Derived.Shelf.Strconv.ParseUint10Empty
import Derived.Shelf.Strconv.ParseUint10Any
import Derived.Shelf.Strconv.ParseInt10
import Derived.Shelf.Strconv.AtoiLong
import Derived.Shelf.Strconv.AtoiInnerAll
import Derived.Shelf.Strconv.RangeError
import Derived.Shelf.Strconv.ToErrorRange
import Derived.Shelf.Strconv.AtoiAll
import Derived.Shelf.Strconv.ParseUintEmpty
import Derived.Shelf.Strconv.ParseUint10b64
import Derived.Shelf.Strconv.ParseUint10b32
import Derived.Shelf.Strconv.ParseUint10b16
import Derived.Shelf.Strconv.ParseUint10b8
import Derived.Shelf.Strconv.ParseUint10At
import Derived.Shelf.Strconv.ParseInt10At64
import Derived.Shelf.Strconv.ParseInt10At32
import Derived.Shelf.Strconv.ParseInt10At16
import Derived.Shelf.Strconv.ParseInt10At8
import Derived.Shelf.Strconv.ParseInt10All
import Derived.Shelf.Strings.Search1
import Derived.Shelf.Strings.Search2
import Derived.Shelf.Strings.Search3
import Derived.Shelf.Strings.Count
import Derived.Shelf.Strings.Shaped
import Derived.Shelf.Sort.Plain
import Derived.Shelf.Strings.Prefix
import Derived.Shelf.Strings.Split
import Derived.Shelf.Strings.SplitShaped
import Derived.Shelf.Unicode.Decode
import Derived.Shelf.Strings.Runes
import Derived.Shelf.Strings.RuneCount
import Derived.Shelf.Strings.IndexAny
import Derived.Shelf.Strings.AsciiSet
import Derived.Shelf.Strings.IndexAnyAll
import Derived.Shelf.Strings.Explode
import Derived.Shelf.Bits.Mul64
import Derived.Shelf.Strings.Repeat
import Derived.Shelf.Unicode.DecodeSlow
import Derived.Shelf.Unicode.DecodeAny
import Derived.Shelf.Unicode.DecodeLast
import Derived.Shelf.Slices.Turned
import Derived.Ground.Names2Prog
import Derived.Shelf.Slices.Clone
import Derived.Shelf.Slices.CompactS
import Derived.Shelf.Slices.SearchI
import Derived.Shelf.Slices.Cells
import Derived.Shelf.Slices.In.SortNone
import Derived.Ground.SlgnProg
import Derived.Shelf.SlicesE.Clone
import Derived.Ground.SlsfProg
import Derived.Shelf.SlSortCmp.Insertion
import Derived.Shelf.SlSortCmp.InsertionK
import Derived.Shelf.SlSortCmp.SiftDownK
import Derived.Shelf.SlSortCmp.HeapSortK
import Derived.Shelf.SlSortCmp.MedianK
import Derived.Shelf.SlSortCmp.PivotK
import Derived.Shelf.SlSortCmp.ReverseRangeK
import Derived.Shelf.SlSortCmp.PartialInsertionK
import Derived.Shelf.SlSortCmp.PartitionEqualK
import Derived.Shelf.SlSortCmp.PartitionK
import Derived.Shelf.SlSortCmp.PdqK
import Derived.Shelf.SlSortCmp.WholeK
import Derived.Shelf.SlSortCmp.SiftDown1
import Derived.Shelf.SlSortCmp.HeapSort1
import Derived.Shelf.SlSortCmp.Insertion1
import Derived.Shelf.SlSortCmp.Median1
import Derived.Shelf.SlSortCmp.Pivot1
import Derived.Shelf.SlSortCmp.ReverseRange1
import Derived.Shelf.SlSortCmp.PartialInsertion1
import Derived.Shelf.SlSortCmp.PartitionEqual1
import Derived.Shelf.SlSortCmp.Partition1
import Derived.Shelf.SlSortCmp.Pdq1
import Derived.Shelf.SlSortCmp.Whole1
import Derived.Shelf.SlSortCmp.NoneTotal
import Derived.Ground.GgzProg
import Derived.Ground.SlgmProg
import Derived.Shelf.SlIterI.Nil
import Derived.Shelf.SortM.Plain
import Derived.Shelf.SortM.SortNone
import Derived.WalkKit
import Derived.IntWalk
import Derived.Lib.Hide
import Derived.Deep.QuietTactic
import Derived.BigQuiet
import Derived.Deep.RegionLaw
import Derived.Lib.LazyBuf
import Derived.Lib.EndianMore
import Derived.Lib.IndexBytes
import Derived.Laws.Bits64b
import Derived.Deep.OwnRows
import Derived.Deep.RegionHeld
import Derived.Lib.ItoaMem
import Derived.Lib.Repeat
import Derived.Lib.Builder
import Derived.Lib.ItoaLen
import Derived.Lib.AppendStr
import Derived.Lib.UnsafeStr
import Derived.Lib.SmallJoins
import Derived.Lib.AppendIntMem
import Derived.Lib.MakeNoZero
import Derived.Laws.Externs
import Derived.Shelf.Strings.BuilderX
import Derived.Lib.AtoiErrMem
import Derived.Shelf.Strings.SlTrimAscii
set_option linter.unusedVariables false
set_option linter.defProp false
set_option linter.unusedSimpArgs false
set_option linter.unusedSectionVars false
namespace Go.AM
open Go
def Mb{α:Type}{f:α->AV}:∀{l:List AV},(∀x∈l,∃y,x=f y)->∃m:List α,l=m.map f
 |[],_=>⟨[],rfl⟩
 |x::r,h=>by
  obtain⟨y,rfl⟩:=h x<|List.mem_cons_self ..;obtain⟨m,rfl⟩:=Mb<|λz hz=>h z<|List.mem_cons_of_mem _ hz
  exact⟨y::m,rfl⟩
def YY{s:CSh}{ss:List CSh}{l:List AV}:Wcs (s::ss) l↔∃a r,l=a::r/\Wc s a/\Wcs ss r:=by rw[Wcs]
def Xo{l:List AV}:Wcs [] l↔l=[]:=by rw[Wcs]
def ZQ{k:IntKind}{a:AV}(h:Wc (.int k) a):∃n,a=.int k n:=by rw[Wc]at h;obtain⟨n,h,_⟩:=h;exact⟨n,h⟩
def Y4{a:AV}(h:Wc .str a):∃s:ByteArray,a=.str s:=by rw[Wc]at h;obtain⟨n,h,_⟩:=h;exact⟨n,h⟩
def YB{α:Type}{f:α->AV}{es:List CSh}{a:AV}(hd:∀cs,Wcs es cs->∃y,AV.agg cs=f y)(h:Wc (.sl true es) a):∃m:List α,a=.isl false false es.length (m.map f):=by
 rw[Wc]at h;obtain⟨xs,rfl,_,h2⟩:=h;obtain⟨m,rfl⟩:=Mb (f:=f) (l:=xs) (λx hx=>by
  obtain⟨cs,rfl,h3⟩:=(h2 x hx).1 rfl;exact hd cs h3)
 exact⟨m,rfl⟩
def C8{α:Type}{f:α->AV}{s:CSh}{a:AV}(hd:∀x,Wc s x->∃y,x=f y)(h:Wc (.sl false [s]) a):∃m:List α,a=.isl false false 1 (m.map f):=by
 rw[Wc]at h;obtain⟨xs,rfl,_,h2⟩:=h;obtain⟨m,rfl⟩:=Mb (f:=f) (l:=xs) (λx hx=>by
  have h3:=(h2 x hx).2 rfl;rw[YY]at h3;obtain⟨a,r,h4,h5,h6⟩:=h3;rw[Xo]at h6;subst h6;cases h4;exact hd x h5)
 exact⟨m,rfl⟩
abbrev iS:CSh:=.int .i64
abbrev ptS:List CSh:=[iS,iS]
abbrev nmS:List CSh:=[.str,iS,.str]
abbrev enS:List CSh:=[.str,iS,.str,iS,iS,iS,iS]
abbrev evS:List CSh:=[iS,iS,iS,iS,iS,.str,.str,.str,.sl false [.str],.sl true nmS,iS,.str,iS,iS,iS,iS,.sl true ptS,.sl true enS]
def HQ(cs:List AV)(h:Wcs ptS cs):∃y:Pt,AV.agg cs=y.enc:=by
 simp only[YY,Xo]at h;obtain⟨a,_,rfl,h1,b,_,rfl,h2,rfl⟩:=h;obtain⟨x,rfl⟩:=ZQ h1;obtain⟨y,rfl⟩:=ZQ h2;exact⟨⟨x,y⟩,rfl⟩
def Mc(cs:List AV)(h:Wcs nmS cs):∃y:Nm,AV.agg cs=y.enc:=by
 simp only[YY,Xo]at h;obtain⟨a,_,rfl,h1,b,_,rfl,h2,c,_,rfl,h3,rfl⟩:=h;obtain⟨x,rfl⟩:=Y4 h1;obtain⟨y,rfl⟩:=ZQ h2;obtain⟨z,rfl⟩:=Y4 h3;exact⟨⟨x,y,z⟩,rfl⟩
def Z6e(cs:List AV)(h:Wcs enS cs):∃y:Ent,AV.agg cs=y.enc:=by
 simp only[YY,Xo]at h;obtain⟨_,_,rfl,h1,_,_,rfl,h2,_,_,rfl,h3,_,_,rfl,h4,_,_,rfl,h5,_,_,rfl,h6,_,_,rfl,h7,rfl⟩:=h;obtain⟨a,rfl⟩:=Y4 h1;obtain⟨b,rfl⟩:=ZQ h2;obtain⟨c,rfl⟩:=Y4 h3;obtain⟨d,rfl⟩:=ZQ h4;obtain⟨e,rfl⟩:=ZQ h5;obtain⟨f,rfl⟩:=ZQ h6;obtain⟨g,rfl⟩:=ZQ h7;exact⟨⟨a,⟨b,c,d,e⟩,⟨f,g⟩⟩,rfl⟩
def Cb(x:AV)(h:Wc .str x):∃y:Str,x=encS y:=Y4 h
def Z6l(cs:List AV)(h:Wcs evS cs):∃e:Gt,AV.agg cs=evA e:=by
 simp only[YY,Xo]at h;obtain⟨_,_,rfl,h1,_,_,rfl,h2,_,_,rfl,h3,_,_,rfl,h4,_,_,rfl,h5,_,_,rfl,h6,_,_,rfl,h7,_,_,rfl,h8,_,_,rfl,h9,_,_,rfl,h10,_,_,rfl,h11,_,_,rfl,h12,_,_,rfl,h13,_,_,rfl,h14,_,_,rfl,h15,_,_,rfl,h16,_,_,rfl,h17,_,_,rfl,h18,rfl⟩:=h;obtain⟨a1,rfl⟩:=ZQ h1;obtain⟨a2,rfl⟩:=ZQ h2;obtain⟨a3,rfl⟩:=ZQ h3;obtain⟨a4,rfl⟩:=ZQ h4;obtain⟨a5,rfl⟩:=ZQ h5;obtain⟨a6,rfl⟩:=Y4 h6;obtain⟨a7,rfl⟩:=Y4 h7;obtain⟨a8,rfl⟩:=Y4 h8;obtain⟨a9,rfl⟩:=C8 Cb h9;obtain⟨a10,rfl⟩:=YB Mc h10;obtain⟨a11,rfl⟩:=ZQ h11;obtain⟨a12,rfl⟩:=Y4 h12;obtain⟨a13,rfl⟩:=ZQ h13;obtain⟨a14,rfl⟩:=ZQ h14;obtain⟨a15,rfl⟩:=ZQ h15;obtain⟨a16,rfl⟩:=ZQ h16;obtain⟨a17,rfl⟩:=YB HQ h17;obtain⟨a18,rfl⟩:=YB Z6e h18;exact⟨⟨a1,a2,a3,a4,a5,a6,a7,a8,⟨false,a9⟩,⟨false,a10⟩,⟨a11,a12,a13,a14⟩,⟨a15,a16⟩,⟨false,a17⟩,⟨false,a18⟩⟩,rfl⟩
def Zz7{α:Type}{f:α->AV}{Q:α->Prop}{es:List CSh}{a:AV}(hd:∀cs,Wcs es cs->∃y,AV.agg cs=f y/\Q y)(h:Wc (.sl true es) a):∃m:List α,a=.isl false false es.length (m.map f)/\m.length*byS es<=reachBytes/\∀y∈m,Q y:=by
 rw[Wc]at h;obtain⟨xs,rfl,hl,h2⟩:=h
 suffices G:∀l:List AV,(∀x∈l,∃y,x=f y/\Q y)->∃m:List α,l=m.map f/\∀y∈m,Q y by
  obtain⟨m,rfl,hm⟩:=G xs (λx hx=>by
   obtain⟨cs,rfl,h3⟩:=(h2 x hx).1 rfl;exact hd cs h3)
  exact⟨m,rfl,by rw[List.length_map]at hl;exact hl,hm⟩
 intro l;induction l with
 |nil=>intro _;exact⟨[],rfl,λy hy=>by cases hy⟩
 |cons x r ih=>
  intro h;obtain⟨y,rfl,hq⟩:=h x<|List.mem_cons_self ..;obtain⟨m,rfl,hm⟩:=ih<|λz hz=>h z<|List.mem_cons_of_mem _ hz
  refine⟨y::m,rfl,λz hz=>?_⟩
  rcases List.mem_cons.1 hz with rfl|hz
  .exact hq
  .exact hm z hz
abbrev veS:List CSh:=[iS,iS,iS,.str,.sl true evS,iS,.sl false [.str],.sl false [.str]]
def ZRK{n:Nat}(h:n*byS evS<=reachBytes):n<=140737488355328:=by
 have e:0<byS evS:=by decide
 have e2:reachBytes<=140737488355328:=by decide
 have:=Nat.le_mul_of_pos_right n e;omega
def ZAV(cs:List AV)(h:Wcs veS cs):∃v:Ver,AV.agg cs=v.enc/\v.bc.l.length<=140737488355328:=by
 simp only[YY,Xo]at h;obtain⟨_,_,rfl,h1,_,_,rfl,h2,_,_,rfl,h3,_,_,rfl,h4,_,_,rfl,h5,_,_,rfl,h6,_,_,rfl,h7,_,_,rfl,h8,rfl⟩:=h;obtain⟨a1,rfl⟩:=ZQ h1;obtain⟨a2,rfl⟩:=ZQ h2;obtain⟨a3,rfl⟩:=ZQ h3;obtain⟨a4,rfl⟩:=Y4 h4;obtain⟨a5,rfl,hl,_⟩:=Zz7 (f:=λe=>evA e) (Q:=λ_=>True) (λcs h=>by obtain⟨y,hy⟩:=Z6l cs h;exact⟨y,hy,trivial⟩) h5
 obtain⟨a6,rfl⟩:=ZQ h6;obtain⟨a7,rfl⟩:=C8 Cb h7;obtain⟨a8,rfl⟩:=C8 Cb h8;exact⟨⟨a1,a2,a3,a4,⟨false,a5⟩,a6,⟨false,a7⟩,⟨false,a8⟩⟩,rfl,ZRK hl⟩
def ZRL{a:AV}(h:Wc (.int .u16) a):∃d,a=.int .u16 d/\0<=d/\d<=65535:=by
 rw[Wc]at h;obtain⟨d,rfl,hw⟩:=h;have h9:(decide (IntKind.u16.min<=d)&&decide (d<=IntKind.u16.max))=true:=hw;rw[Bool.and_eq_true]at h9;have m1:IntKind.u16.min=0:=by decide
 have m2:IntKind.u16.max=65535:=by decide
 have a1:=of_decide_eq_true h9.1;have a2:=of_decide_eq_true h9.2;exact⟨d,rfl,by omega,by omega⟩
def Zz8{a:AV}(h:Wc iS a):∃d,a=I d/\-9223372036854775808<=d:=by
 rw[Wc]at h;obtain⟨d,rfl,hw⟩:=h;have h9:(decide (IntKind.i64.min<=d)&&decide (d<=IntKind.i64.max))=true:=hw;rw[Bool.and_eq_true]at h9;have m1:IntKind.i64.min=-9223372036854775808:=by decide
 have a1:=of_decide_eq_true h9.1;exact⟨d,rfl,by omega⟩
def Zxg{s:CSh}{a:AV}(h:Wcs [s] [a]):Wc s a:=by
 rw[YY]at h;obtain⟨_,_,e,k,_⟩:=h;cases e;exact k
def ZAW{a:AV}(h:Wcs [.sl true veS] [a]):∃V:NL Ver,a=vsA V/\∀v∈V.l,v.bc.l.length<=140737488355328:=by
 obtain⟨m,rfl,_,hm⟩:=Zz7 ZAV<|Zxg h;exact⟨⟨false,m⟩,rfl,hm⟩
abbrev ZQg:List CSh:=[.str,iS,iS,.str]
def ZRM{a:AV}(h:∃cs,a=.agg cs/\Wcs ZQg cs):∃t:Tkt,a=t.enc:=by
 obtain⟨cs,rfl,k⟩:=h;simp only[YY,Xo]at k;obtain⟨a,_,rfl,h1,b,_,rfl,h2,c,_,rfl,h3,d,_,rfl,h4,rfl⟩:=k;obtain⟨x,rfl⟩:=Y4 h1;obtain⟨y,rfl⟩:=ZQ h2;obtain⟨z,rfl⟩:=ZQ h3;obtain⟨u,rfl⟩:=Y4 h4;exact⟨⟨x,y,z,u⟩,rfl⟩
abbrev ZPn:List (Bool×List CSh):=[(false,[.sl true veS]),(true,ZQg),(false,[iS]),(false,[iS]),(false,[.int .u16])]
def Zon[REdz](hup:pfn rE 8 []=some (.bool true))(xs:List AV)(h:Wvs ZPn xs):pfn rE 4 xs=some (.bool true):=by
 obtain⟨x,_,rfl,_,h1,y,_,rfl,h2,_,z,_,rfl,_,h3,u,_,rfl,_,h4,w,_,rfl,_,h5,h6⟩:=h;have h6':_=[]:=h6;subst h6';obtain⟨V,rfl,hV⟩:=ZAW<|h1 rfl;obtain⟨t,rfl⟩:=ZRM<|h2 rfl;obtain⟨a,rfl,_⟩:=Zz8<|Zxg<|h3 rfl;obtain⟨b,rfl,_⟩:=Zz8<|Zxg<|h4 rfl;obtain⟨c,rfl,hc0,hc1⟩:=ZRL<|Zxg<|h5 rfl;exact Zs5 hup V t hV a b c hc0<|by omega
def ZQh{T:Ty}{X:Xt}{w:World}{r:Nat}{k:IntKind}:∀(zs:List Int)(o:Nat),(∀i z,zs[i]?=some z->w.cell? ⟨r,o+i,none⟩=some (.int k z))->ZV T X w r (zs.map<|.int k) o
 |[],o,_=>trivial
 |z::zs,o,h=>⟨⟨.int k z,h 0 z rfl,rfl⟩,ZQh zs (o+1) λi x hx=>by have:=h (i+1) x hx;rw[show o+(i+1)=o+1+i by omega]at this;exact this⟩
def ZQi{k:IntKind}:∀zs:List Int,Z4 (zs.map<|.int k)=true
 |[]=>rfl
 |_::zs=>by simp only[List.map_cons,Z4,clean,Bool.true_and];exact ZQi zs
def lt_of_cell{w:World}{r o:Nat}{v:Value}(h:w.cell? ⟨r,o,none⟩=some v):r<w.heap.size:=by
 rcases Nat.lt_or_ge r w.heap.size with hl|hl
 .exact hl
 .unfold World.cell? at h;rw[Array.getElem?_eq_none hl]at h;cases h
def ZQj{P:Program}{w:World}{n:String}{g:Nat}{a:Array Value}(h:w.var? P n=some a)(hg:P.globalNamed n=some g):∃t f,w.heap[g]?=some (.cells a t f):=by
 unfold World.var? at h;rw[hg]at h;simp only[Option.bind_some]at h;split at h
 .rename_i cs t f hh;cases h;exact⟨t,f,hh⟩
 .cases h
def ZQk{P:Program}{w:World}{n:String}{k:IntKind}{zs:List Int}{g:Nat}(hn:0<zs.length)(h:Go.Lib.TabIs P w n k zs)(hg:P.globalNamed n=some g){X:Xt}(hX:∀r,¬X r):R T0 X w (.iptr false<|zs.map<|.int k) (.pointer<|some ⟨g,0,none⟩)/\GlS w g (.iptr false<|zs.map<|.int k):=by
 obtain⟨t,f,hv⟩:=ZQj h hg;have hc:∀i z,zs[i]?=some z->w.cell? ⟨g,0+i,none⟩=some (.int k z):=λi z hz=>by
  have hi:i<zs.length:=(List.getElem?_eq_some_iff.1 hz).1;have:=h.cell hg i hi;rw[Nat.zero_add,this];simp[List.getD,hz]
 exact⟨⟨g,0,rfl,JM g,λ_=>hX g,ZQi zs,lt_of_cell<|hc 0 zs[0]<|List.getElem?_eq_getElem hn,ZQh zs 0 hc⟩,_,t,f,hv,by simp⟩
def ZQl{P:Program}{w:World}{n:String}{g tp:Nat}{a:Addr}(h:w.var? P n=some #[.iface tp<|.pointer<|some a])(hg:P.globalNamed n=some g){X:Xt}(hX:∀r,¬X r):R T0 X w (.iptr false [.ifc tp .bot]) (.pointer<|some ⟨g,0,none⟩)/\GlS w g (.iptr false [.ifc tp .bot]):=by
 obtain⟨t,f,hv⟩:=ZQj h hg;have hc:w.cell? ⟨g,0,none⟩=some (.iface tp<|.pointer<|some a):=by simpa using World.var?_cell hg h 0
 exact⟨⟨g,0,rfl,JM g,λ_=>hX g,rfl,lt_of_cell hc,⟨_,hc,_,rfl,trivial⟩,trivial⟩,_,t,f,hv,rfl⟩
end Go.AM
namespace Go.Proofs.YtnjibjdmniajjaaGreatDoor
open Go Go.AM Go.RowKit
def ZQm:"*errors.errorString" = "*"++"errors.errorString":=by kernel_rfl
def ZQn(u:TypeId)(h:Tryz.prog.typeName? 3 u=some "*errors.errorString"):u=373:=
 typeName_ptr_named (nm:="errors.errorString") (by rw[<-ZQm];kernel_rfl) (by kernel_rfl) (by decide) u (by rw[<-ZQm];exact h)
set_option maxRecDepth 100000 in
def ZRN{W:World}(h:laidMet Tryz.prog Rows.ticketTextsRow.laid W)(g:Nat):R T0 (X0 Tryz.prog) W (glT g) (.pointer<|some ⟨g,0,none⟩)/\GlS W g (glT g):=by
 have h2:=laidMet.tail h;have h3:=laidMet.tail h2;have h5:=laidMet.tail<|laidMet.tail h3;have h6:=laidMet.tail h5;have t7:Go.Lib.TabIs Tryz.prog W "math/bits.deBruijn64tab" .u8 ZP9:=Go.Lib.tabIs_of_head (g:=7) (t:=409) (e:=5) (n:=64) (by kernel_rfl) (by kernel_rfl) (by kernel_rfl) (by kernel_rfl) (by kernel_rfl) (by kernel_rfl) h2
 have t2:Go.Lib.TabIs Tryz.prog W "internal/strconv.uint64pow10" .u64 Go.Lib.pow10Tab:=Go.Lib.tabIs_of_head (g:=2) (t:=347) (e:=81) (n:=20) (by kernel_rfl) (by kernel_rfl) (by kernel_rfl) (by kernel_rfl) (by kernel_rfl) (by kernel_rfl) h3
 obtain⟨a1,s1,s1h,_⟩:=laid_sentinel (te:=375) h5 (g:=1) (by kernel_rfl) (ti:=87) (by kernel_rfl) Tryz.underlying87 ZQn Tryz.underlying373 Tryz.underlying375 rfl rfl Tryz.underlying9 (by kernel_rfl) (by kernel_rfl)
 obtain⟨a0,s0,s0h,_⟩:=laid_sentinel (te:=375) h6 (g:=0) (by kernel_rfl) (ti:=87) (by kernel_rfl) Tryz.underlying87 ZQn Tryz.underlying373 Tryz.underlying375 rfl rfl Tryz.underlying9 (by kernel_rfl) (by kernel_rfl)
 have hX:∀r,¬(X0 Tryz.prog) r:=λ_ h=>h
 match g with
 |0=>exact ZQl s0h (by kernel_rfl) hX
 |1=>exact ZQl s1h (by kernel_rfl) hX
 |2=>exact ZQk (by decide) t2 (by kernel_rfl) hX
 |3|4|5|6=>exact⟨trivial,trivial⟩
 |7=>exact ZQk (by decide) t7 (by kernel_rfl) hX
 |g+8=>exact⟨trivial,trivial⟩
end Go.Proofs.YtnjibjdmniajjaaGreatDoor
namespace Go.Proofs
open Go.Proofs.Tryz
open Go.Shelf
def Bz{i:FuncId}{B:Func}(h:((Tryz.prog.funcs[i]?.map Func.name).getD ""=="runtime.NumGoroutine")=false/\Tryz.prog.funcs[i]?=some {B with name:=(Tryz.prog.funcs[i]?.map Func.name).getD ""}):Bears Tryz.prog i B:=⟨_,h⟩
def Lz{p:Prop}(h:p:=by repeat' first|(intros;kernel_rfl)|exact Bz ⟨by kernel_rfl,by kernel_rfl⟩|decide|constructor):p:=h
def Tryz.xq:Go.Shelf.Ren:=⟨λ|169=>33|n=>n,λ|70=>82|9=>9|0=>0|72=>85|37=>83|127=>134|3=>3|5=>5|n=>n,λ|n=>n⟩
def Tryz.wl:Go.Proofs.Lays.n169 Tryz.prog Tryz.xq:=Lz
def Tryz.yq:Builder.Extra Tryz.prog Tryz.xq:=Lz
def Tryz.yn:=Any.Builder_String_any Tryz.wl Tryz.yq
def Tryz.xr:Go.Shelf.Ren:=⟨λ|156=>103|165=>117|166=>29|169=>33|240=>57|241=>208|276=>112|277=>311|n=>n,λ|31=>32|9=>9|3=>3|4=>4|0=>0|20=>20|72=>85|76=>88|70=>82|37=>83|75=>87|127=>134|164=>180|5=>5|80=>92|n=>n,λ|n=>n⟩
def Tryz.wq:Go.Proofs.Lays.n156 Tryz.prog Tryz.xr:=Lz
def Tryz.yu:Builder.Extra Tryz.prog Tryz.xr:=Lz
def Tryz.xk:=Any.strings_Join Tryz.wq Tryz.yu
def Tryz.xn:Go.Shelf.Ren:=⟨λ|160=>111|232=>195|231=>194|227=>196|234=>198|233=>197|236=>200|235=>199|228=>304|271=>306|151=>305|197=>295|120=>359|152=>302|260=>351|137=>192|119=>358|224=>353|225=>352|217=>301|266=>357|n=>n,λ|9=>9|4=>4|3=>3|5=>5|117=>272|116=>271|0=>0|124=>275|21=>21|105=>336|46=>185|119=>403|139=>406|138=>405|n=>n,λ|3=>4|4=>5|n=>n⟩
def Tryz.wh:Go.Proofs.Lays.n160 Tryz.prog Tryz.xn:=Lz
def Tryz.xw:Go.Shelf.Ren:=⟨λ|137=>192|217=>301|266=>357|n=>n,λ|9=>9|5=>5|3=>3|n=>n,λ|n=>n⟩
def Tryz.wo:Go.Proofs.Lays.n137 Tryz.prog Tryz.xw:=Lz
def Tryz.yp:=Any.strings_IndexByte Tryz.wo
def Tryz.xz:Go.Shelf.Ren:=⟨λ|172=>53|244=>105|245=>106|247=>184|279=>185|280=>186|281=>187|282=>188|287=>298|316=>299|171=>30|205=>300|321=>355|322=>356|243=>58|246=>113|283=>201|284=>202|285=>203|286=>204|129=>218|317=>307|318=>308|319=>309|320=>310|337=>360|338=>361|n=>n,λ|9=>9|3=>3|75=>87|76=>88|4=>4|5=>5|167=>259|37=>83|0=>0|85=>260|2=>2|168=>262|53=>81|175=>338|46=>185|210=>341|127=>134|145=>375|143=>373|21=>21|171=>276|173=>279|212=>347|51=>281|20=>20|213=>348|232=>408|233=>409|80=>92|n=>n,λ|15=>0|16=>1|17=>2|18=>6|19=>7|n=>n⟩
def Tryz.wp:Go.Proofs.Lays.n172 Tryz.prog Tryz.xz:=Lz
def Tryz.xm:=Any.strconv_Atoi Tryz.wp
def Tryz.xl:Go.Shelf.Ren:=⟨λ|172=>53|244=>105|245=>106|247=>184|279=>185|280=>186|281=>187|282=>188|287=>298|316=>299|171=>30|205=>300|321=>355|322=>356|243=>58|246=>113|283=>201|284=>202|285=>203|286=>204|129=>218|317=>307|318=>308|319=>309|320=>310|337=>360|338=>361|n=>n,λ|9=>9|3=>3|75=>87|76=>88|4=>4|5=>5|167=>259|37=>83|0=>0|85=>260|2=>2|168=>262|53=>81|175=>338|46=>185|210=>341|127=>134|145=>375|143=>373|21=>21|171=>276|173=>279|212=>347|51=>281|20=>20|213=>348|232=>408|233=>409|80=>92|n=>n,λ|15=>0|16=>1|17=>2|18=>6|19=>7|n=>n⟩
def Tryz.we:Go.Proofs.LaysC.n172 Tryz.prog Tryz.xl:=Lz
def Tryz.wc:Go.Proofs.LaysM.n171 Tryz.prog Tryz.xl:={Tryz.we with}
def Tryz.xh:=Any.strconv_Itoa Tryz.wc
def Tryz.xa:=Any.strconv_Atoi_ok Tryz.we
def Tryz.yi:=Any.strconv_Atoi_syntax Tryz.we
def Tryz.yo:=Any.strconv_Atoi_range Tryz.we
def Tryz.xv:Go.Shelf.Ren:=⟨λ|190=>257|125=>123|258=>340|128=>217|129=>218|302=>374|303=>375|304=>376|305=>377|306=>378|307=>379|308=>380|309=>381|310=>382|333=>402|329=>313|330=>314|334=>403|335=>404|336=>179|344=>411|n=>n,λ|31=>32|9=>9|3=>3|46=>185|0=>0|51=>281|53=>81|4=>4|183=>290|182=>289|131=>205|5=>5|218=>350|222=>354|228=>376|229=>377|n=>n,λ|n=>n⟩
def Tryz.wj:Go.Proofs.Lays.n190 Tryz.prog Tryz.xv:=Lz
def Tryz.yl:=Any.slices_Sort_string Tryz.wj
def Tryz.xt:Go.Shelf.Ren:=⟨λ|146=>52|221=>104|268=>181|138=>182|143=>183|195=>294|197=>295|218=>296|219=>297|260=>351|217=>301|225=>352|224=>353|267=>354|266=>357|314=>385|n=>n,λ|9=>9|31=>32|3=>3|4=>4|0=>0|105=>336|21=>21|5=>5|46=>185|119=>403|139=>406|138=>405|146=>282|51=>281|n=>n,λ|1=>3|3=>4|4=>5|n=>n⟩
def Tryz.wk:Go.Proofs.Lays.n146 Tryz.prog Tryz.xt:=Lz
def Tryz.xp:Go.Shelf.Ren:=⟨λ|153=>193|152=>302|226=>303|227=>196|228=>304|137=>192|119=>358|224=>353|225=>352|217=>301|266=>357|n=>n,λ|9=>9|3=>3|4=>4|5=>5|21=>21|117=>272|116=>271|0=>0|46=>185|124=>275|n=>n,λ|n=>n⟩
def Tryz.wg:Go.Proofs.Lays.n153 Tryz.prog Tryz.xp:=Lz
def Tryz.xo:Go.Shelf.Ren:=⟨λ|105=>62|212=>115|99=>116|165=>117|166=>29|170=>118|169=>33|263=>205|264=>206|206=>207|240=>57|241=>208|276=>112|277=>311|n=>n,λ|9=>9|3=>3|4=>4|20=>20|0=>0|46=>185|109=>186|5=>5|72=>85|76=>88|51=>281|146=>282|53=>81|148=>284|70=>82|37=>83|75=>87|127=>134|164=>180|80=>92|n=>n,λ|n=>n⟩
def Tryz.wf:Go.Proofs.Lays.n105 Tryz.prog Tryz.xo:=Lz
def Tryz.yt:Builder.Extra Tryz.prog Tryz.xo:=Lz
def Tryz.xb:=Any.strings_Repeat Tryz.wf Tryz.yt
def Tryz.xe:Go.Shelf.Ren:=⟨λ|16=>246|n=>n,λ|24=>32|9=>9|4=>4|n=>n,λ|n=>n⟩
def Tryz.wa:Go.Proofs.Lays2.n16 Tryz.prog Tryz.xe:=Lz
def Tryz.ye:=Any.slices_Clone_string_nil Tryz.wa
def Tryz.yd:=Any.slices_Clone_string_zero Tryz.wa
def Tryz.xu:Go.Shelf.Ren:=⟨λ|194=>258|n=>n,λ|31=>32|9=>9|3=>3|4=>4|0=>0|n=>n,λ|n=>n⟩
def Tryz.wm:Go.Proofs.Lays.n194 Tryz.prog Tryz.xu:=Lz
def Tryz.yg:=Any.slices_Compact_string Tryz.wm
def Tryz.ya:=Any.slices_Compact_string_empty Tryz.wm
def Tryz.yf:=Any.slices_Sort_string_none Tryz.wj
def Tryz.yk:Go.Shelf.Ren:=⟨λ|41=>246|n=>n,λ|22=>32|23=>9|4=>4|n=>n,λ|n=>n⟩
def Tryz.yy:Go.Proofs.SlLaysE0.n41 Tryz.prog Tryz.yk:=Lz
def Tryz.xi:=AnyE.slices_Clone Tryz.yy
def Tryz.yx:=AnyE.slices_Clone_nil Tryz.yy
def Tryz.ys:Go.Shelf.Ren:=⟨λ|6=>65|15=>123|14=>122|28=>217|29=>218|20=>209|21=>210|22=>211|23=>212|24=>213|25=>214|26=>215|27=>216|46=>312|47=>313|48=>314|49=>315|50=>316|57=>362|n=>n,λ|22=>47|24=>98|25=>143|3=>3|39=>185|0=>0|53=>281|55=>81|4=>4|46=>290|45=>289|50=>205|5=>5|9=>9|66=>350|70=>354|76=>376|77=>377|n=>n,λ|n=>n⟩
def Tryz.xg:Go.Proofs.SlLaysF0.n6 Tryz.prog Tryz.ys:=Lz
def Tryz.yz{α:Type}[Inhabited α]:=AnyQ.slices_SortFunc (α:=α) Tryz.xg
def Tryz.yw:Go.Shelf.Ren:=⟨λ|6=>97|15=>123|14=>178|28=>217|29=>218|20=>278|21=>279|22=>280|23=>281|24=>282|25=>283|26=>284|27=>285|46=>345|47=>313|48=>314|49=>346|50=>347|57=>383|n=>n,λ|22=>32|24=>9|25=>164|3=>3|39=>185|0=>0|53=>281|55=>81|4=>4|46=>290|45=>289|50=>205|5=>5|9=>9|66=>350|70=>354|76=>376|77=>377|n=>n,λ|n=>n⟩
def Tryz.xj:Go.Proofs.SlLaysF.n6 Tryz.prog Tryz.yw:=Lz
def Tryz.yj{α:Type}[Inhabited α]:=Any.slices_SortFunc (α:=α) Tryz.xj
def Tryz.yc:=AnyF.slices_SortFunc_none Tryz.xg
def Tryz.yr:Go.Shelf.Ren:=⟨λ|6=>97|15=>123|14=>178|28=>217|29=>218|20=>278|21=>279|22=>280|23=>281|24=>282|25=>283|26=>284|27=>285|46=>345|47=>313|48=>314|49=>346|50=>347|57=>383|n=>n,λ|22=>32|24=>9|25=>164|3=>3|39=>185|0=>0|53=>281|55=>81|4=>4|46=>290|45=>289|50=>205|5=>5|9=>9|66=>350|70=>354|76=>376|77=>377|n=>n,λ|n=>n⟩
def Tryz.xd:Go.Proofs.SlLaysF0.n6 Tryz.prog Tryz.yr:=Lz
def Tryz.yb:=AnyF.slices_SortFunc_none Tryz.xd
end Go.Proofs
namespace Go.Proofs
open Go.Proofs.Tryz
open Go.RowKit Go.Maps Go.Sort Go.Shelf
def Tryz.xx:Go.Shelf.Ren:=⟨λ|7=>253|10=>338|n=>n,λ|23=>305|26=>3|3=>4|28=>207|0=>0|27=>206|33=>147|4=>4|n=>n,λ|n=>n⟩
def Tryz.wn:Go.Proofs.SlLaysZI.n7 Tryz.prog Tryz.xx:=Lz
def Tryz.xf:Go.Shelf.Ren:=⟨λ|6=>252|8=>336|9=>337|11=>372|13=>123|12=>373|23=>217|24=>218|14=>393|15=>394|16=>395|17=>396|18=>397|19=>398|20=>399|21=>400|22=>401|25=>408|26=>313|27=>314|28=>409|29=>410|30=>124|31=>412|n=>n,λ|26=>3|28=>207|24=>136|0=>0|3=>3|37=>185|48=>281|50=>81|4=>4|40=>290|39=>289|45=>205|5=>5|9=>9|51=>350|55=>354|57=>376|58=>377|33=>147|n=>n,λ|n=>n⟩
def Tryz.wb:Go.Proofs.SlLaysZI.n6 Tryz.prog Tryz.xf:=Lz
def Tryz.xs:Go.Shelf.Ren:=⟨λ|5=>337|8=>123|7=>373|19=>217|20=>218|10=>393|11=>394|12=>395|13=>396|14=>397|15=>398|16=>399|17=>400|18=>401|30=>408|31=>313|32=>314|33=>409|34=>410|35=>124|40=>412|n=>n,λ|23=>136|25=>3|3=>3|32=>185|22=>136|0=>0|44=>281|46=>81|4=>4|36=>290|35=>289|41=>205|5=>5|9=>9|53=>350|57=>354|63=>376|64=>377|n=>n,λ|n=>n⟩
def Tryz.wi:Go.Proofs.SlLaysM.n5 Tryz.prog Tryz.xs:=Lz
def Tryz.ym:Go.Shelf.Ren:=⟨λ|6=>100|15=>123|14=>180|28=>217|29=>218|20=>286|21=>287|22=>288|23=>289|24=>290|25=>291|26=>292|27=>293|46=>348|47=>313|48=>314|49=>349|50=>350|57=>384|n=>n,λ|22=>37|24=>57|25=>166|3=>3|39=>185|0=>0|53=>281|55=>81|4=>4|46=>290|45=>289|50=>205|5=>5|9=>9|66=>350|70=>354|76=>376|77=>377|n=>n,λ|n=>n⟩
def Tryz.xc:Go.Proofs.SlLaysF0.n6 Tryz.prog Tryz.ym:=Lz
def Tryz.wd(m:Nat):AnyZI.SortsIn Tryz.prog Tryz.xf Fence.wide m:=
 ⟨λblk off cap ss W hH hblk hsz=>callsIn_wide.2<|AnyM.slices_Sort_int Tryz.wi blk off cap ss W hH hblk hsz,
  λp cap W=>callsIn_wide.2<|AnyM.slices_Sort_int_none Tryz.wi p cap W⟩
set_option maxHeartbeats 1000000 in
def Tryz.xy(Bm o b nn:Nat)(D0:DataW Unit)(R:Value->Option (DataW Unit×List MemPlace))(w:World)(hBm:Bm<w.heap.size)(hm:w.cell? ⟨Bm,o,none⟩=some (.map<|some b))(hown:w.ownsMap Tryz.prog 3 R b nn D0)(hmax:Maps.size D0<=maxLen)(hbytes:Maps.size D0*8<=140737488355328):
 Calls Tryz.prog 252 #[.func (.func 338) #[] #[.pointer<|some ⟨Bm,o,none⟩]] w λe w'=>∃(v:Value)(ss:List Int),e=.returned v/\ss.Perm (intKeys D0)/\
  w'.ownsRow w.heap.size 3 1 v ss.length ((ss.mergeSort<|λx y=>decide (x<=y)).map encZ)/\(v=.slice none 0 0↔ss=[])/\Below w.heap.size w w':=by
 refine(callsIn_wide (n:=5)).1 ?_;have hseq:SeqGives Fence.wide 2 Tryz.prog 338 #[.pointer<|some ⟨Bm,o,none⟩] encZ (λss=>ss.Perm<|intKeys D0) (Maps.size D0) w:=
  ZQS (ρ:=Tryz.xx) {Tryz.wn with} Fence.wide _ trivial rfl (by omega) Bm o b nn D0 w hBm hm hown
 exact AnyZI.sorted_in Tryz.wb Fence.wide 5 trivial trivial trivial trivial rfl (by omega) (Tryz.wd _) (enters_of func337 (by kernel_rfl) rfl) 338 #[.pointer<|some ⟨Bm,o,none⟩] trivial (enters_of func338 (by kernel_rfl) rfl) _ _ hmax hbytes _ hseq
def Tryz.yv{α:Type}[Inhabited α]:=AnyQ.slices_SortFunc (α:=α) Tryz.xc
def Tryz.yh:=AnyF.slices_SortFunc_none Tryz.xc
end Go.Proofs
namespace Go.Proofs
open Go Go.RowKit Go.Sort
set_option linter.unusedVariables false
def ZRO(b:Nat)(x:Int)(f:Nat->Int)(hf:∀k,0<=f k/\f k<256)(w:World)(hx:w.cell? ⟨b,0,none⟩=some (.int .u64 x))(hb:b<w.heap.size)(hz:w.frozen? ⟨b,0,none⟩=false):
 Calls Tryz.prog 60 #[.pointer<|some ⟨b,0,none⟩,.agg #[.int .u8<|f 0,.int .u8<|f 1,.int .u8<|f 2,.int .u8<|f 3,.int .u8<|f 4,.int .u8<|f 5,.int .u8<|f 6,.int .u8<|f 7]] w λe w'=>e=.returned (.tuple #[])/\∃o,w'=(w.alloc o).setCell ⟨b,0,none⟩ (.int .u64<|ZOK x<|ZOo f 8):=by
 have hcell:∀k,k<8->(w.alloc<|.cells #[.int .u8<|f 0,.int .u8<|f 1,.int .u8<|f 2,.int .u8<|f 3,.int .u8<|f 4,.int .u8<|f 5,.int .u8<|f 6,.int .u8<|f 7] 183).cell? ⟨w.heap.size,k,none⟩=some (.int .u8<|f k):=by
  intro k hk;rw[World.cell?_alloc_at _ _ _ _<|by simp]
  match k,hk with
  |0,_=>rfl|1,_=>rfl|2,_=>rfl|3,_=>rfl|4,_=>rfl|5,_=>rfl|6,_=>rfl|7,_=>rfl
 have hold:(w.alloc<|.cells #[.int .u8<|f 0,.int .u8<|f 1,.int .u8<|f 2,.int .u8<|f 3,.int .u8<|f 4,.int .u8<|f 5,.int .u8<|f 6,.int .u8<|f 7] 183).cell? ⟨b,0,none⟩=some (.int .u64 x):=by
  rw[<-hx];exact World.cell?_alloc_old _ _ _<|Nat.ne_of_lt hb
 have hfz:(w.alloc<|.cells #[.int .u8<|f 0,.int .u8<|f 1,.int .u8<|f 2,.int .u8<|f 3,.int .u8<|f 4,.int .u8<|f 5,.int .u8<|f 6,.int .u8<|f 7] 183).frozen? ⟨b,0,none⟩=false:=by
  rw[<-hz];exact World.frozen?_alloc_old _ _ _<|Nat.ne_of_lt hb
 have HC:=Lib.hid hcell;clear hcell;have HO:=Lib.hid hold;clear hold;have HF:=Lib.hid hfz;clear hfz
 go_enter Tryz.func60,Tryz.ntmps60
 go_wp2
 generalize hW:w.alloc (.cells #[.int .u8<|f 0,.int .u8<|f 1,.int .u8<|f 2,.int .u8<|f 3,.int .u8<|f 4,.int .u8<|f 5,.int .u8<|f 6,.int .u8<|f 7] 183)=W at HC HO HF⊢
 go_loopw [4,7] (λa i wr=>∃k:Nat,k<=8/\i=.int .i64 k/\a=.int .u64 (ZOo f k)/\wr=W) (λ_ i _=>8-(intOf i).toNat)
 case atStart=>exact⟨0,Nat.zero_le _,rfl,rfl,rfl⟩
 case round=>
  obtain⟨k,hk,rfl,rfl,rfl⟩:=hrel;by_cases hlt:k<8
  .have hck:wr.cell? ⟨w.heap.size,k,none⟩=some (.int .u8<|f k):=HC.out k hlt;have hf0:=(hf k).1;have hf1:=(hf k).2;have HS:Hid (ZOo f (k+1)=bits .or .u64 (IntKind.u64.wrap<|ZOo f k*256) (f k)):=Lib.hid rfl;generalize ZOo f k=a at HS⊢
   go_wp2
   go_roundw
   case rel=>exact⟨k+1,by omega,by go_num,by rw[HS.out],by first|rfl|trivial⟩
   case measure=>simp[intOf];omega
  .obtain rfl:k=8:=by omega
   have ho:=HO.out;have hfz:=HF.out
   go_wp2
   refine⟨rfl,.tuple #[],by simp[results,Tryz.results60,go_sem],rfl,.cells #[.int .u8<|f 0,.int .u8<|f 1,.int .u8<|f 2,.int .u8<|f 3,.int .u8<|f 4,.int .u8<|f 5,.int .u8<|f 6,.int .u8<|f 7] 183,?_⟩
   rw[hW];simp only[ZOK,ZP5,ZP6]
def ZRP{P:Program}{ops:Array Oper}{o:Oper}{a:Act}{w:World}{K:Act->World->Prop}{Q:Exit->Act->World->Prop}{E:Prop}
 (hg:o.guard=none) (d x:Operand) (dT sT:TypeId) (hop:o.op=Op.call {callee:=Callee.builtin Builtin.copy,args:=#[d,x],argTypes:=#[dT,sT]})
 (elem:TypeId) (hu:P.underlying dT=some (.slice elem)) (hz:∀w,(Go.sizeOf elem).run P w=.ok 1 w)
 (b n:Nat) (hd:a.eval d=.slice (some ⟨b,0,none⟩) n n) (t:ByteArray) (hx:a.eval x=.string t)
 (hc:∀j,j<n->(w.cell? ⟨b,j,none⟩).isSome=true) (hf:∀j,j<n->w.frozen? ⟨b,j,none⟩=false)
 (hK:K (a.put o.dst<|goInt ((t.size.min n:Nat):Int))<|w.setCells b 0<|(t.data.toList.map λx=>Value.int .u8 (x.toNat:Int)).take n):
 if Region.wanted o (yielded ops a.tmps)=true then Oper.wp P o a w K Q else E:=by
 have hw:Region.wanted o (yielded ops a.tmps)=true:=by simp[Region.wanted,hg]
 rw[if_pos hw];have hrun:(Builtin.copy_ #[dT,sT] o.type #[.slice (some ⟨b,0,none⟩) n n,.string t]).run P w=.ok (goInt ((t.size.min n:Nat):Int)) (w.setCells b 0<|(t.data.toList.map λx=>Value.int .u8 (x.toNat:Int)).take n):=by
  have e:(t.data.toList.map λx=>Value.int .u8 (x.toNat:Int)).take (t.size.min n)=(t.data.toList.map λx=>Value.int .u8 (x.toNat:Int)).take n:=by
   rcases Nat.le_total t.size n with h|h
   .rw[show t.size.min n=t.size from Nat.min_eq_left h,List.take_of_length_le (by rw[List.length_map,<-Lib.size_eq];exact Nat.le_refl _),List.take_of_length_le<|by rw[List.length_map,<-Lib.size_eq];exact h]
   .rw[show t.size.min n=n from Nat.min_eq_right h]
  have hl:((t.data.toList.map λx=>Value.int .u8 (x.toNat:Int)).take n).length<=n:=by rw[List.length_take];exact Nat.min_le_left _ _
  have hone:∀v∈(t.data.toList.map λx=>Value.int .u8 (x.toNat:Int)).take n,v.oneCell'=true:=by
   intro v hv;obtain⟨x,_,rfl⟩:=List.mem_map.1<|List.mem_of_mem_take hv;rfl
  have hst:=run_storeCells_cells (P:=P) b 0 ((t.data.toList.map λx=>Value.int .u8 (x.toNat:Int)).take n) 0 w (by intro j hj;rw[Nat.zero_add];exact hc j<|by omega) (by intro j hj;rw[Nat.zero_add];exact hf j<|by omega) hone
  simp[Builtin.copy_,run_underlying hu,Builtin.lenOf,Builtin.firstCells,hz];rw[e,hst];rfl
 unfold Oper.wp;simp[execOp,hop,resolve,invoke,builtin,hd,hx,hrun,Result.andThen];exact hK
def ZRQ(l:List UInt8)(i:Nat):0<=ZOk l i/\ZOk l i<256:=by
 unfold ZOk;cases l[i]? with
 |none=>exact⟨by decide,by decide⟩
 |some b=>exact⟨by simp,by have:=b.toNat_lt;simp;omega⟩
def ZRR(bk:Nat)(l:List UInt8)(V:World)(h:∀j,j<8->V.cell? ⟨bk,j,none⟩=some (.int .u8 0))(j:Nat)(hj:j<8):
 (V.setCells bk 0<|(l.map λx=>Value.int .u8 (x.toNat:Int)).take 8).cell? ⟨bk,j,none⟩=some (.int .u8<|ZOk l j):=by
 have hl:((l.map λx=>Value.int .u8 (x.toNat:Int)).take 8).length=min 8 l.length:=by rw[List.length_take,List.length_map]
 by_cases hlt:j<l.length
 .have:=World.cell?_setCells_in bk ((l.map λx=>Value.int .u8 (x.toNat:Int)).take 8) 0 V (by rw[hl];intro i hi;rw[Nat.zero_add,h i<|by omega];rfl) j (by rw[hl];omega)
  rw[Nat.zero_add]at this;rw[this];unfold ZOk;rw[List.getElem?_eq_getElem hlt];simp
 .rw[World.cell?_setCells_out bk _ 0 V ⟨bk,j,none⟩<|λ_ _=>Or.inr<|by rw[hl];show 0+min 8 l.length<=j;omega,h j hj]
  unfold ZOk;rw[List.getElem?_eq_none<|by omega]
def ZRS(s:ByteArray)(hs:s.size<=140737488355328)(B b:Nat)(x:Int)(w:World)(hx:w.cell? ⟨b,0,none⟩=some (.int .u64 x))(hb:b<w.heap.size)(hB:B<=b)(hz:w.frozen? ⟨b,0,none⟩=false):
 Calls Tryz.prog 59 #[.string s,.func (.func 60) #[.pointer<|some ⟨b,0,none⟩] #[]] w λe w'=>e=.returned (.tuple #[])/\Below B w w'/\b<w'.heap.size/\w'.frozen? ⟨b,0,none⟩=false/\w'.cell? ⟨b,0,none⟩=some (.int .u64<|ZOl s.data.toList x<|s.size/8+1):=by
 have HX:=Lib.hid hx;clear hx;have HZ:=Lib.hid hz;clear hz
 go_enter Tryz.func59,Tryz.ntmps59
 go_wp2
 go_loopw [4] (λi wr=>∃k:Nat,k<=s.size/8+1/\i=.int .i64 ((8*k:Nat):Int)/\Below B w wr/\b<wr.heap.size/\wr.frozen? ⟨b,0,none⟩=false/\wr.cell? ⟨b,0,none⟩=some (.int .u64<|ZOl s.data.toList x k)) (λi _=>s.size+16-(intOf i).toNat)
 case atStart=>exact⟨0,Nat.zero_le _,rfl,Below.refl _ _,hb,HZ.out,HX.out⟩
 case round=>
  obtain⟨k,hk,rfl,h1,h2,h3,h4⟩:=hrel;by_cases hlt:8*k<=s.size
  .have H3:=Lib.hid h3;clear h3;have H4:=Lib.hid h4;clear h4;have hdec:decide (8*(k:Int)<=(s.size:Int))=true:=by simp;omega
   have hc8:8*(k:Int)+8<=9000000000000000000:=by omega
   have hc1:8*(k:Int)<=(s.size:Int):=by omega
   have hc0:0<=8*(k:Int):=by omega
   have hcn:(8*(k:Int)).toNat=8*k:=by omega
   have hnew:∀j,j<8->((wr.alloc<|Obj.cells #[Value.int IntKind.u8 0,Value.int IntKind.u8 0,Value.int IntKind.u8 0,Value.int IntKind.u8 0,Value.int IntKind.u8 0,Value.int IntKind.u8 0,Value.int IntKind.u8 0,Value.int IntKind.u8 0] 183).drew).cell? ⟨wr.heap.size,j,none⟩=some (.int .u8 0):=by
    intro j hj;show(wr.alloc _).cell? _=_
    rw[World.cell?_alloc_at _ _ _ _ rfl]
    match j,hj with
    |0,_=>rfl|1,_=>rfl|2,_=>rfl|3,_=>rfl|4,_=>rfl|5,_=>rfl|6,_=>rfl|7,_=>rfl
   have HNW:=Lib.hid hnew;clear hnew;have hu83:Tryz.prog.underlying 83=some (.slice 5):=by kernel_rfl
   have hz5:∀w,(sizeOf 5).run Tryz.prog w=.ok 1 w:=λw=>by kernel_rfl
   go_wp2
   go_region_law (refine ZRP rfl (.tmp 12) (.tmp 15) 83 9 rfl 5 hu83 hz5 wr.heap.size 8 (by simp[Act.eval,Act.put]) (s.extract (8*k) s.size) (by simp[Act.eval,Act.put]) (λj hj=>by rw[HNW.out j hj];rfl) (λj hj=>by show(wr.alloc _).frozen? _=_;rw[World.frozen?_alloc_at _ _ _ _ rfl]) ?_)
   have hlen:s.data.toList.length=s.size:=(Lib.size_eq s).symm;have hext:(s.extract (8*k) s.size).data.toList=s.data.toList.drop (8*k):=by
    rw[Lib.extract_to_end]
   have hL:List.take 8 (List.take (s.size-8*k)<|List.drop (8*k)<|List.map (λx:UInt8=>Value.int .u8 (x.toNat:Int)) s.data.toList)=List.take 8 ((s.data.toList.drop<|8*k).map λx=>Value.int .u8 (x.toNat:Int)):=by
    rw[List.map_drop];have e:List.take (s.size-8*k) (List.drop (8*k)<|List.map (λx:UInt8=>Value.int .u8 (x.toNat:Int)) s.data.toList)=List.drop (8*k) (List.map (λx:UInt8=>Value.int .u8 (x.toNat:Int)) s.data.toList):=List.take_of_length_le<|by rw[List.length_drop,List.length_map];omega
    rw[e]
   have hcells:=ZRR wr.heap.size (s.data.toList.drop<|8*k) _ HNW.out;rw[hL];have hbV:((wr.alloc<|Obj.cells #[Value.int IntKind.u8 0,Value.int IntKind.u8 0,Value.int IntKind.u8 0,Value.int IntKind.u8 0,Value.int IntKind.u8 0,Value.int IntKind.u8 0,Value.int IntKind.u8 0,Value.int IntKind.u8 0] 183).drew.setCells wr.heap.size 0 (List.take 8<|(s.data.toList.drop<|8*k).map λx=>Value.int .u8 (x.toNat:Int))).cell? ⟨b,0,none⟩=some (.int .u64<|ZOl s.data.toList x k):=by
    rw[World.cell?_setCells_out wr.heap.size _ 0 _ ⟨b,0,none⟩<|λh _=>absurd h<|by show b≠wr.heap.size;omega]
    show(wr.alloc _).cell? _=_
    rw[World.cell?_alloc_old _ _ _<|by show b≠wr.heap.size;omega]
    exact H4.out
   have hfV:((wr.alloc<|Obj.cells #[Value.int IntKind.u8 0,Value.int IntKind.u8 0,Value.int IntKind.u8 0,Value.int IntKind.u8 0,Value.int IntKind.u8 0,Value.int IntKind.u8 0,Value.int IntKind.u8 0,Value.int IntKind.u8 0] 183).drew.setCells wr.heap.size 0 (List.take 8<|(s.data.toList.drop<|8*k).map λx=>Value.int .u8 (x.toNat:Int))).frozen? ⟨b,0,none⟩=false:=by
    rw[World.frozen?_setCells];show(wr.alloc _).frozen? _=_
    rw[World.frozen?_alloc_old _ _ _<|by show b≠wr.heap.size;omega]
    exact H3.out
   have hBV:Below B w ((wr.alloc<|Obj.cells #[Value.int IntKind.u8 0,Value.int IntKind.u8 0,Value.int IntKind.u8 0,Value.int IntKind.u8 0,Value.int IntKind.u8 0,Value.int IntKind.u8 0,Value.int IntKind.u8 0,Value.int IntKind.u8 0] 183).drew.setCells wr.heap.size 0 (List.take 8<|(s.data.toList.drop<|8*k).map λx=>Value.int .u8 (x.toNat:Int))):=
    below_setCells (by omega) _ 0 _ ((h1.alloc (by omega) _).drew)
   have hsV:b<((wr.alloc<|Obj.cells #[Value.int IntKind.u8 0,Value.int IntKind.u8 0,Value.int IntKind.u8 0,Value.int IntKind.u8 0,Value.int IntKind.u8 0,Value.int IntKind.u8 0,Value.int IntKind.u8 0,Value.int IntKind.u8 0] 183).drew.setCells wr.heap.size 0 (List.take 8<|(s.data.toList.drop<|8*k).map λx=>Value.int .u8 (x.toNat:Int))).heap.size:=by
    have:=(Lib.below_setCells_w (Nat.le_refl _) (List.take 8<|(s.data.toList.drop<|8*k).map λx=>Value.int .u8 (x.toNat:Int)) 0 ((wr.alloc<|Obj.cells #[Value.int IntKind.u8 0,Value.int IntKind.u8 0,Value.int IntKind.u8 0,Value.int IntKind.u8 0,Value.int IntKind.u8 0,Value.int IntKind.u8 0,Value.int IntKind.u8 0,Value.int IntKind.u8 0] 183).drew) (g:=wr.heap.size) (B:=wr.heap.size)).size
    have e:((wr.alloc<|Obj.cells #[Value.int IntKind.u8 0,Value.int IntKind.u8 0,Value.int IntKind.u8 0,Value.int IntKind.u8 0,Value.int IntKind.u8 0,Value.int IntKind.u8 0,Value.int IntKind.u8 0,Value.int IntKind.u8 0] 183).drew).heap.size=wr.heap.size+1:=by simp[World.drew]
    omega
   generalize((wr.alloc<|Obj.cells #[Value.int IntKind.u8 0,Value.int IntKind.u8 0,Value.int IntKind.u8 0,Value.int IntKind.u8 0,Value.int IntKind.u8 0,Value.int IntKind.u8 0,Value.int IntKind.u8 0,Value.int IntKind.u8 0] 183).drew.setCells wr.heap.size 0 (List.take 8<|(s.data.toList.drop<|8*k).map λx=>Value.int .u8 (x.toNat:Int)))=V at hcells hbV hfV hBV hsV⊢
   have d0:=hcells 0 (by omega);have d1:=hcells 1 (by omega);have d2:=hcells 2 (by omega);have d3:=hcells 3<|by omega
   have d4:=hcells 4 (by omega);have d5:=hcells 5 (by omega);have d6:=hcells 6 (by omega);have d7:=hcells 7<|by omega
   have HT:=ZRO b (ZOl s.data.toList x k) (ZOk<|s.data.toList.drop<|8*k) (ZRQ _) V hbV hsV hfV;have HBV:=Lib.hid hBV;have HbV:=Lib.hid hbV;have HfV:=Lib.hid hfV;clear hcells hL HNW hbV hfV hBV
   go_wp2_with (go_at_call 60;refine HT.mono ?_;rintro e w' ⟨rfl,o,rfl⟩)
   go_roundw
   case rel=>
    refine⟨k+1,by omega,by go_num,?_,?_,?_,?_⟩
    .exact(HBV.out.setCell hB _).alloc (by simp;omega) _
    .simp;omega
    .rw[World.frozen?_alloc_old _ _ _ (by simp;omega),World.frozen?_setCell];exact HfV.out
    .rw[World.cell?_alloc_old _ _ _ (by simp;omega),World.cell?_setCell_same' _ _ _<|by rw[HbV.out];rfl];rfl
   case measure=>simp[intOf];omega
  .have hk1:k=s.size/8+1:=by omega
   have H1:=Lib.hid h1;clear h1;have H3:=Lib.hid h3;clear h3;have H4:=Lib.hid h4;clear h4
   go_wp2
   exact⟨rfl,.tuple #[],by simp[results,Tryz.results59,go_sem],rfl,H1.out,h2,H3.out,by rw[<-hk1];exact H4.out⟩
def ZRT(w:World)(hT:w.cell? ⟨7,15,none⟩=some (.int .u8 4)):
 Calls Tryz.prog 310 #[.int .u64 16] w λe w'=>e=.returned (.int .i64 4)/\w=w':=by
 have h1:bits .and .u64 16 (IntKind.u64.wrap<|-16)=16:=by decide +kernel
 have h2:IntKind.u64.wrap (16*285870213051353865)/288230376151711744=15:=by decide +kernel
 go_enter Tryz.func310,Tryz.ntmps310
 go_wp2
 go_ret
 exact⟨rfl,rfl⟩
def ZRU(w:World):
 Calls Tryz.prog 309 #[.int .i64 16] w λe w'=>e=.returned (.bool true)/\w=w':=by
 have h1:(bits .and .i64 16 15==0)=true:=by decide +kernel
 go_enter Tryz.func309,Tryz.ntmps309
 go_wp2
 go_ret
 exact⟨rfl,rfl⟩
def ZPo(u:Nat):∀k,(ZOr u k).length=k
 |0=>rfl
 |k+1=>by simp[ZOr,ZPo u k]
def ZPp:∀(f u k:Nat),k<ZO5 f u->16<=u/16 ^ k
 |0,u,k,h=>by simp[ZO5]at h
 |f+1,u,k,h=>by
  unfold ZO5 at h;split at h
  .cases k with
   |zero=>simpa using ‹16<=u›
   |succ k=>
    have:=ZPp f (u/16) k<|by omega
    rw[Nat.div_div_eq_div_mul]at this;rw[Nat.pow_succ,Nat.mul_comm];exact this
  .omega
def ZQo:∀(f u:Nat),u<16 ^ (f+1)->u/16 ^ ZO5 f u<16
 |0,u,h=>by simpa[ZO5]using h
 |f+1,u,h=>by
  unfold ZO5;split
  .have:=ZQo f (u/16) (by rw[Nat.div_lt_iff_lt_mul<|by decide];rw[<-Nat.pow_succ];exact h)
   rw[Nat.div_div_eq_div_mul]at this;rw[Nat.pow_succ,Nat.mul_comm];exact this
  .simpa using ‹¬16<=u›
def ZQp:∀(f u:Nat),ZO5 f u<=f
 |0,u=>Nat.le_refl _
 |f+1,u=>by
  unfold ZO5;split
  .have:=ZQp f<|u/16;omega
  .omega
def ZOi(u k j:Nat):Value:=if 65-k<=j then .int .u8 ((((ZOr u k)[j+k-65]?).getD 0).toNat:Int)else .int .u8 0
def ZRV(u j:Nat)(hj:j<65):ZOi u 0 j=.int .u8 0:=by unfold ZOi;rw[if_neg<|by omega]
def ZQq(u k:Nat)(hk:k<65)(j:Nat)(hj:j<65):(if j=64-k then Value.int .u8 ((ZP7<|u/16 ^ k%16).toNat:Int)else ZOi u k j)=ZOi u (k+1) j:=by
 unfold ZOi;by_cases h:j=64-k
 .rw[if_pos h,if_pos (by omega),show j+(k+1)-65=0 by omega]
  rfl
 .rw[if_neg h];by_cases h2:65-k<=j
  .rw[if_pos h2,if_pos (by omega),show j+(k+1)-65=(j+k-65)+1 by omega]
   rfl
  .rw[if_neg h2,if_neg<|by omega]
def ZRW(x:Nat)(h:x<18446744073709551616):bits .and .u64 (x:Int) 15=((x%16:Nat):Int):=by
 have:=bits_and_u64_nat x 15 h<|by decide
 rw[show((15:Nat):Int)=15 from rfl]at this
 rw[this,show(15:Nat)=2 ^ 4-1 from rfl,Nat.and_two_pow_sub_one_eq_mod]
def ZQr(y:Nat)(h:y<16)(h2:y<(⟨#[48,49,50,51,52,53,54,55,56,57,97,98,99,100,101,102,103,104,105,106,107,108,109,110,111,112,113,114,115,116,117,118,119,120,121,122]⟩:ByteArray).size):(⟨#[48,49,50,51,52,53,54,55,56,57,97,98,99,100,101,102,103,104,105,106,107,108,109,110,111,112,113,114,115,116,117,118,119,120,121,122]⟩:ByteArray)[y]'h2=ZP7 y:=by
 match y,h,h2 with
 |0,_,_=>rfl|1,_,_=>rfl|2,_,_=>rfl|3,_,_=>rfl|4,_,_=>rfl|5,_,_=>rfl|6,_,_=>rfl|7,_,_=>rfl|8,_,_=>rfl|9,_,_=>rfl|10,_,_=>rfl|11,_,_=>rfl|12,_,_=>rfl|13,_,_=>rfl|14,_,_=>rfl|15,_,_=>rfl
 |n+16,h,_=>exact absurd h<|by omega
set_option maxRecDepth 100000 in
def ZRX(u:Nat)(hu:u<18446744073709551616)(w:World)(hT:w.cell? ⟨7,15,none⟩=some (.int .u8 4)):
 Calls Tryz.prog 204 #[.slice none 0 0,.int .u64 u,.int .i64 16,.bool false,.bool false] w λe w'=>e=.returned (.tuple #[.slice none 0 0,.string ⟨(ZO6 u).toArray⟩])/\Below w.heap.size w w':=by
 have HT:=Lib.hid hT;clear hT
 go_enter Tryz.func204,Tryz.ntmps204
 go_wp2_with (first|(go_at_call 309;refine(ZRU _).mono ?_;rintro e w' ⟨rfl,rfl⟩)|(go_at_call 310;refine(ZRT _ ?_).mono ?_))
 .rw[World.cell?_alloc_some _ _ _<|by rw[HT.out];rfl];exact HT.out
 rintro e w' ⟨rfl,rfl⟩
 go_wp2
 have hrow0:(w.alloc<|.cells Tryz.zeroCells348 348).rowIs w.heap.size 348 65 (ZOi u 0):=by
  have e:Tryz.zeroCells348=Array.replicate 65 (.int .u8 0):=by kernel_rfl
  have h:=World.rowIs_alloc w (Array.replicate 65<|Value.int .u8 0) 348 (λ_=>.int .u8 0)<|λi hi=>by rw[Array.getElem?_eq_getElem hi,Array.getElem_replicate]
  rw[Array.size_replicate]at h;rw[e];exact h.congr<|λi hi=>(ZRV u i hi).symm
 have HR0:=Lib.hid hrow0;clear hrow0;have hN:=ZQp 16 u
 go_loopw [1,13] (λv i wr=>∃k:Nat,k<=ZO5 16 u/\v=.int .u64 ((u/16 ^ k:Nat):Int)/\i=.int .i64 (65-(k:Int))/\Below w.heap.size w wr/\wr.rowIs w.heap.size 348 65 (ZOi u k)) (λ_ i _=>(intOf i).toNat)
 case atStart=>exact⟨0,Nat.zero_le _,by simp,rfl,(Below.refl _ _).alloc (Nat.le_refl _) _,HR0.out⟩
 case round=>
  obtain⟨k,hk,rfl,rfl,h1,h2⟩:=hrel;have hx64:u/16 ^ k<18446744073709551616:=Nat.lt_of_le_of_lt (Nat.div_le_self _ _) hu;have hand:=ZRW _ hx64;have hmod:u/16 ^ k%16<16:=Nat.mod_lt _<|by decide
  have H1:=Lib.hid h1;clear h1;have H2:=Lib.hid h2;clear h2;by_cases hlt:k<ZO5 16 u
  .have hge:=ZPp 16 u k hlt;have hc:=H2.out.cell (i:=65-k-1) (by omega)
   have hf:=H2.out.frozen<|65-k-1;have hdv:u/16 ^ k/16=u/16 ^ (k+1):=by rw[Nat.div_div_eq_div_mul,<-Nat.pow_succ]
   have HDV:=Lib.hid hdv;clear hdv;have HAND:=Lib.hid hand;clear hand;obtain⟨x,hx⟩:∃x,u/16 ^ k=x:=⟨_,rfl⟩;have hand:=HAND.out;rw[hx]at hand hge hx64 hmod⊢;have HX:=Lib.hid hx;clear hx HAND;obtain⟨y,hy⟩:∃y,x%16=y:=⟨_,rfl⟩;rw[hy]at hand hmod;have HY:=Lib.hid hy;clear hy
   go_wp2
   refine⟨⟨k+1,by omega,by rw[<-HDV.out,HX.out];rfl,by congr 1;omega,H1.out.setCell (Nat.le_refl _) _,(H2.out.set _ _).congr (λj hj=>?_)⟩,by simp[intOf];omega⟩
   rw[<-ZQq u k (by omega) j hj,HX.out,HY.out,show 65-k-1=64-k by omega]
   congr 2;exact congrArg (λb:UInt8=>(b.toNat:Int))<|ZQr y hmod _
  .have hk1:k=ZO5 16 u:=by omega
   have hlt16:=ZQo 16 u<|by omega
   have hk16:k<=16:=by omega
   have HE:Hid (ZOr u (k+1)=ZO6 u):=Lib.hid<|by rw[hk1];rfl
   have HL:=ZPo u<|k+1;rw[<-hk1]at hlt16;have hc:=H2.out.cell (i:=65-k-1)<|by omega
   have hf:=H2.out.frozen<|65-k-1;have HK1:=Lib.hid hk1;clear hk1;obtain⟨x,hx⟩:∃x,u/16 ^ k=x:=⟨_,rfl⟩;rw[hx]at hand hx64 hmod hlt16⊢;have HX:=Lib.hid hx;clear hx;have hxs:x<(⟨#[48,49,50,51,52,53,54,55,56,57,97,98,99,100,101,102,103,104,105,106,107,108,109,110,111,112,113,114,115,116,117,118,119,120,121,122]⟩:ByteArray).size:=Nat.lt_of_lt_of_le hlt16<|by decide
   have hR:(wr.setCell ⟨w.heap.size,65-k-1,none⟩<|.int .u8 (((⟨#[48,49,50,51,52,53,54,55,56,57,97,98,99,100,101,102,103,104,105,106,107,108,109,110,111,112,113,114,115,116,117,118,119,120,121,122]⟩:ByteArray)[x]'hxs).toNat:Int)).rowIs w.heap.size 348 65 (ZOi u<|k+1):=(H2.out.set _ _).congr (λj hj=>by
    rw[<-ZQq u k (by omega) j hj,HX.out,Nat.mod_eq_of_lt hlt16,show 65-k-1=64-k by omega]
    congr 2;exact congrArg (λb:UInt8=>(b.toNat:Int))<|ZQr x hlt16 _)
   have hB:Below w.heap.size w (wr.setCell ⟨w.heap.size,65-k-1,none⟩<|.int .u8 (((⟨#[48,49,50,51,52,53,54,55,56,57,97,98,99,100,101,102,103,104,105,106,107,108,109,110,111,112,113,114,115,116,117,118,119,120,121,122]⟩:ByteArray)[x]'hxs).toNat:Int)):=H1.out.setCell (Nat.le_refl _) _;have hal:Tryz.prog.arrayLen 348=65:=by kernel_rfl
   have hsl:∀W,(Instr.sliceAt 348 (.pointer<|some ⟨w.heap.size,0,none⟩) (some<|.int .i64<|65-(k:Int)-1) none none).run Tryz.prog W=.ok (.slice (some ⟨w.heap.size,65-k-1,none⟩) (k+1)<|k+1) W:=λW=>by
    have h348:Tryz.prog.underlying 348=some (.array 65 5):=by kernel_rfl
    have hz5:∀w,(sizeOf 5).run Tryz.prog w=.ok 1 w:=λw=>by kernel_rfl
    rw[run_sliceAt_array_l W 348 ⟨w.heap.size,0,none⟩ (by simp[Program.arrayLen,Program.elem,h348]) .i64 (65-(k:Int)-1) (by omega)<|by rw[hal];omega]
    simp only[Program.elem,Program.arrayLen,h348,hz5,Result.andThen,slicedAt];have e1:(65-(k:Int)-1).toNat=65-k-1:=by omega
    rw[e1,if_neg (by omega),show 65-(65-k-1)=k+1 by omega,Lib.add_plain,Nat.mul_one,Nat.zero_add]
   have hcv:=run_convert_bytes_back (P:=Tryz.prog) (wr.setCell ⟨w.heap.size,65-k-1,none⟩<|.int .u8 (((⟨#[48,49,50,51,52,53,54,55,56,57,97,98,99,100,101,102,103,104,105,106,107,108,109,110,111,112,113,114,115,116,117,118,119,120,121,122]⟩:ByteArray)[x]'hxs).toNat:Int)) 83 9 5 ⟨w.heap.size,65-k-1,none⟩ (k+1) (ZO6 u) (by kernel_rfl) (by kernel_rfl) (by kernel_rfl) (λj hj=>by
    have hj2:j<k+1:=by rw[<-HL,HE.out];exact hj
    rw[Lib.add_plain,hR.cell (i:=65-k-1+j)<|by omega]
    unfold ZOi;rw[if_pos (by omega),show 65-k-1+j+(k+1)-65=j by omega,HE.out,List.getElem?_eq_getElem hj]
    rfl)
   have hlL:(ZO6 u).length=k+1:=by rw[<-HE.out];exact HL
   rw[hlL]at hcv;have HB:=Lib.hid hB;clear hR hB hal HL hlL
   go_wp2
   go_ret2
   exact⟨rfl,HB.out⟩
def ZRY(a b:Int):∃u:Nat,u<18446744073709551616/\bits .xor .u64 a b=(u:Int):=by
 have h:bits .xor .u64 a b=IntKind.u64.wrap ((BitVec.ofInt 64 a ^^^ BitVec.ofInt 64 b).toNat:Int):=rfl;rw[h,IntKind.wrap_u64];refine⟨((BitVec.ofInt 64 a ^^^ BitVec.ofInt 64 b).toNat%18446744073709551616),Nat.mod_lt _ (by decide),by omega⟩
def ZRZ(u:Nat)(hu:u<18446744073709551616)(w:World)(hT:w.cell? ⟨7,15,none⟩=some (.int .u8 4)):
 Calls Tryz.prog 114 #[.int .u64 u,.int .i64 16] w λe w'=>e=.returned (.string ⟨(ZO6 u).toArray⟩)/\Below w.heap.size w w':=by
 have HF:=ZRX u hu w hT;clear hT
 go_enter Tryz.func114,Tryz.ntmps114
 go_wp2_with (go_at_call 204;refine HF.mono ?_;rintro e w' ⟨rfl,hB⟩)
 go_ret
 exact⟨rfl,hB⟩
def ZS0(u:Nat)(hu:u<18446744073709551616)(w:World)(hT:w.cell? ⟨7,15,none⟩=some (.int .u8 4)):
 Calls Tryz.prog 61 #[.int .u64 u,.int .i64 16] w λe w'=>e=.returned (.string ⟨(ZO6 u).toArray⟩)/\Below w.heap.size w w':=by
 have HF:=ZRZ u hu w hT;clear hT
 go_enter Tryz.func61,Tryz.ntmps61
 go_wp2_with (go_at_call 114;refine HF.mono ?_;rintro e w' ⟨rfl,hB⟩)
 go_ret
 exact⟨rfl,hB⟩
def ZS1(x n:Int):∃u:Nat,u<18446744073709551616/\ZOK x n=(u:Int):=ZRY _ _
def ZS2(l:List UInt8):∃u:Nat,u<18446744073709551616/\ZOs l=(u:Int):=by
 unfold ZOs;rw[ZOl];exact ZS1 _ _
def ZS3(u:Nat)(h:u<18446744073709551616):(ZO6 u).length<=16:=by
 unfold ZO6;rw[ZPo];have h2:ZO5 16 u<=15:=by
  rcases Nat.lt_or_ge 15 (ZO5 16 u)with h3|h3
  .have:=ZPp 16 u 15 h3;have h4:u/16 ^ 15<16:=by rw[Nat.div_lt_iff_lt_mul<|by decide];exact h
   omega
  .exact h3
 omega
def ZS4(hrep:∀(s:ByteArray)(c:Nat)(w:World),c<=9223372036854775807->s.size*c<=140737488355328->Calls Tryz.prog 62 #[.string s,.int .i64 c] w λe w'=>e=.returned (.string ⟨(Lib.repeatL s.data.toList c).toArray⟩)/\Below w.heap.size w w')
 (s:ByteArray) (hs:s.size<=140737488355328) (w:World) (hT:w.cell? ⟨7,15,none⟩=some (.int .u8 4)):
 Calls Tryz.prog 32 #[.string s] w λe w'=>e=.returned (.string ⟨(ZOD s.data.toList).toArray⟩)/\Below w.heap.size w w':=by
 have HT:=Lib.hid hT;clear hT;have HR:=Lib.hid hrep;clear hrep
 go_enter Tryz.func32,Tryz.ntmps32
 go_wp2_with fail
 have h7:(7:Nat)<w.heap.size:=by
  rcases Nat.lt_or_ge 7 w.heap.size with h|h
  .exact h
  .exfalso;have:=HT.out;unfold World.cell? at this;rw[Array.getElem?_eq_none h]at this;cases this
 obtain⟨u,hu,hue⟩:=ZS2 s.data.toList;have hlen:s.data.toList.length=s.size:=(Lib.size_eq s).symm;have HB:=ZRS s hs w.heap.size w.heap.size (bits .xor .u64 7640891576956012809 (s.size:Int)) (w.alloc<|.cells #[.int .u64<|bits .xor .u64 7640891576956012809 (s.size:Int)] 129) (by rw[World.cell?_alloc_at _ _ _ _ rfl];rfl) (by simp) (Nat.le_refl _)<|by rw[World.frozen?_alloc_at _ _ _ _ rfl]
 rw[show ZOl s.data.toList (bits .xor .u64 7640891576956012809 (s.size:Int)) (s.size/8+1)=ZOs s.data.toList by unfold ZOs;rw[hlen],hue]at HB
 refine HB.mono ?_;rintro e w1 ⟨rfl,hB1,hsz1,hf1,hc1⟩;have hB0:Below w.heap.size w w1:=Below.trans ((Below.refl _ _).alloc (Nat.le_refl _) _) hB1;have hT1:w1.cell? ⟨7,15,none⟩=some (.int .u8 4):=by rw[hB0.cell (p:=⟨7,15,none⟩) h7];exact HT.out
 have HF:=ZS0 u hu w1 hT1;have HB0:=Lib.hid hB0;clear hB0 hT1 hf1 hB1 HB;have HU:=Lib.hid hue;clear hue;have hle:=ZS3 u hu;have hz1:(⟨(ZO6 u).toArray⟩:ByteArray).size=(ZO6 u).length:=by simp[ByteArray.size]
 have HL:Hid (ZOD s.data.toList=Lib.repeatL [48] (16-(ZO6 u).length)++ZO6 u):=Lib.hid<|by unfold ZOD;rw[HU.out];rfl
 generalize ZO6 u=t at*
 go_wp2_with fail
 refine HF.mono ?_;rintro e w2 ⟨rfl,hB2⟩;have HB2:=Lib.hid (Below.trans HB0.out<|hB2.mono<|by omega);clear hB2 HF
 go_wp2_with fail
 rw[show(16:Int)-(t.length:Int)=((16-t.length:Nat):Int)by omega]
 refine(HR.out ⟨#[48]⟩ (16-t.length) w2 (by omega)<|by show 1*(16-t.length)<=_;omega).mono ?_
 rintro e w3 ⟨rfl,hB3⟩;have hsz2:w.heap.size<=w2.heap.size:=HB2.out.size;have HB3:=Lib.hid<|Below.trans HB2.out<|hB3.mono hsz2;clear hB3;have hrl:(Lib.repeatL (⟨#[48]⟩:ByteArray).data.toList<|16-t.length).length<=16:=by rw[Lib.repeatL_length];show(16-t.length)*1<=16;omega
 have hst:(⟨(Lib.repeatL (⟨#[48]⟩:ByteArray).data.toList<|16-t.length).toArray⟩:ByteArray).size<=16:=by simpa[ByteArray.size]using hrl
 have hst2:(⟨t.toArray⟩:ByteArray).size<=16:=by rw[hz1];exact hle
 have HE:Hid ((⟨(Lib.repeatL (⟨#[48]⟩:ByteArray).data.toList<|16-t.length).toArray⟩:ByteArray)++⟨t.toArray⟩=⟨(ZOD s.data.toList).toArray⟩):=Lib.hid (by
  rw[HL.out];apply ByteArray.ext;simp)
 generalize(⟨(Lib.repeatL (⟨#[48]⟩:ByteArray).data.toList<|16-t.length).toArray⟩:ByteArray)=r at*
 go_wp2
 go_ret
 exact⟨congrArg (λx=>Ending.returned<|.string x) HE.out,HB3.out⟩
def ZS5{B b:Nat}{bs:List Value}{w w':World}(h:Lib.IsBuilder 85 5 B b bs w)(hb:Below w.heap.size w w'):Lib.IsBuilder 85 5 B b bs w':=by
 have hg:w.grownBy w' none:=⟨hb.os,hb.tape,hb.output,hb.size,λk hk _=>hb.block k hk⟩
 have one:∀p,Lib.BuilderAt 85 5 B b p bs w->Lib.BuilderAt 85 5 B b p bs w':=by
  rintro p ⟨hB,v,hbk,hown,hne⟩;have hlt:b<w.heap.size:=by
   rcases Nat.lt_or_ge b w.heap.size with h|h
   .exact h
   .rw[Array.getElem?_eq_none h]at hbk;cases hbk
  refine⟨hB,v,by rw[hb.block b hlt];exact hbk,hown.kept hg ?_,hne⟩
  cases v.ownBlock with
  |none=>exact Or.inl rfl
  |some k=>exact Or.inr<|by simp
 exact h.elim (λh=>Or.inl<|one _ h)<|λh=>Or.inr<|one _ h
def ZS6(ss:List ByteArray)(k:Nat)(s:ByteArray)(h:ss[k]?=some s):joinL (ss.take<|k+1)=joinL (ss.take k)++Lib.itoa (s.size:Int)++[58]++s.data.toList:=by
 induction ss generalizing k with
 |nil=>cases h
 |cons a r ih=>
  cases k with
  |zero=>
   rw[List.getElem?_cons_zero]at h;obtain rfl:=Option.some.inj h;simp[joinL]
  |succ k=>
   rw[List.getElem?_cons_succ]at h;rw[List.take_succ_cons,List.take_succ_cons,joinL,joinL,ih k h];simp
def ZS7(ss:List ByteArray)(k:Nat):(joinL<|ss.take k).length<=(joinL ss).length:=by
 induction ss generalizing k with
 |nil=>simp
 |cons a r ih=>
  cases k with
  |zero=>simp[joinL]
  |succ k=>
   have:=ih k;rw[List.take_succ_cons,joinL,joinL];simp only[List.length_append,List.length_cons];omega
def ZPq(l:List UInt8):(Lib.byteCells l).length=l.length:=by simp[Lib.byteCells]
set_option maxRecDepth 100000 in
def ZSp
 (hrep:∀(s:ByteArray)(c:Nat)(w:World),c<=9223372036854775807->s.size*c<=140737488355328->Calls Tryz.prog 62 #[.string s,.int .i64 c] w λe w'=>e=.returned (.string ⟨(Lib.repeatL s.data.toList c).toArray⟩)/\Below w.heap.size w w')
 (hito:∀(n:Int)(w:World),-9223372036854775808<=n->n<=9223372036854775807->Lib.TabIs Tryz.prog w "internal/strconv.uint64pow10" .u64 Lib.pow10Tab->Calls Tryz.prog 30 #[.int .i64 n] w λe w'=>e=.returned (.string ⟨(Lib.itoa n).toArray⟩)/\∃k os,w'=grow (w.drewN k) os)
 (hwb:∀(B b:Nat)(bs:List Value)(c:Int)(w:World),Lib.IsBuilder 85 5 B b bs w->bs.length+1<=140737488355328->B<=w.heap.size->Calls Tryz.prog 31 #[.pointer<|some ⟨b,0,none⟩,.int .u8 c] w λe w'=>e=.returned .nilIface/\(Lib.BuilderAt 85 5 B b (.pointer<|some ⟨b,0,none⟩) (bs++[.int .u8 c]) w'/\Below B w w'))
 (hws:∀(B b:Nat)(bs:List Value)(s:ByteArray)(w:World),Lib.IsBuilder 85 5 B b bs w->bs.length+s.size<=140737488355328->B<=w.heap.size->Calls Tryz.prog 29 #[.pointer<|some ⟨b,0,none⟩,.string s] w λe w'=>e=.returned (.tuple #[.int .i64 s.size,.nilIface])/\(Lib.BuilderAt 85 5 B b (.pointer<|some ⟨b,0,none⟩) (bs++Lib.strCells s) w'/\Below B w w'))
 (hstr:∀(B b:Nat)(l:List UInt8)(w:World),Lib.IsBuilder 85 5 B b (Lib.byteCells l) w->B<=w.heap.size->Calls Tryz.prog 33 #[.pointer<|some ⟨b,0,none⟩] w λe w'=>e=.returned (.string ⟨l.toArray⟩)/\Below B w w')
 (ss:List ByteArray) (ad:Addr) (cap:Nat) (w:World) (hcell:∀j s,ss[j]?=some s->w.cell? (ad.add j)=some (.string s)) (hblk:ad.block<w.heap.size) (hsz:∀s∈ss,s.size<=140737488355328) (hj:(joinL ss).length<=140737488355328) (hn:ss.length<=140737488355328)
 (hT:w.cell? ⟨7,15,none⟩=some (.int .u8 4)) (hP:Lib.TabIs Tryz.prog w "internal/strconv.uint64pow10" .u64 Lib.pow10Tab):
 Calls Tryz.prog 13 #[.slice (some ad) ss.length cap] w λe w'=>e=.returned (.string ⟨(ZOL ss).toArray⟩)/\Below w.heap.size w w':=by
 have h7:(7:Nat)<w.heap.size:=by
  rcases Nat.lt_or_ge 7 w.heap.size with h|h
  .exact h
  .exfalso;have:=hT;unfold World.cell? at this;rw[Array.getElem?_eq_none h]at this;cases this
 have HT:=Lib.hid hT;clear hT;have HP:=Lib.hid hP;clear hP;have HI:=Lib.hid hito;clear hito;have HB:=Lib.hid hwb;clear hwb;have HS:=Lib.hid hws;clear hws;have HX:=Lib.hid hstr;clear hstr;have HR:=Lib.hid hrep;clear hrep;have HC:=Lib.hid hcell;clear hcell;have HZ:=Lib.hid hsz;clear hsz;have HJ:=Lib.hid hj;clear hj
 go_enter Tryz.func13,Tryz.ntmps13
 go_wp2
 go_loopw [8] (λi wr=>∃k:Nat,k<=ss.length/\i=.int .i64 k/\Below w.heap.size w wr/\Lib.IsBuilder 85 5 w.heap.size w.heap.size (Lib.byteCells<|joinL<|ss.take k) wr) (λi _=>ss.length-(intOf i).toNat)
 case atStart=>exact⟨0,Nat.zero_le _,rfl,(Below.refl _ _).alloc (Nat.le_refl _) _,Lib.fresh_isBuilder 85 5 w⟩
 case round=>
  obtain⟨k,hk,rfl,h1,h2⟩:=hrel;have H1:=Lib.hid h1;clear h1;have H2:=Lib.hid h2;clear h2;by_cases hlt:k<ss.length
  .obtain⟨s,hs⟩:∃s,ss[k]?=some s:=⟨_,List.getElem?_eq_getElem hlt⟩;have HCK:Hid (wr.cell? (ad.add k)=some (.string s)):=Lib.hid (by rw[H1.out.cell (p:=ad.add k)<|by unfold Addr.add;split<;>exact hblk];exact HC.out k s hs)
   have hjk:=ZS6 ss k s hs;have hjl:=ZS7 ss<|k+1;have hj0:=HJ.out;have hlens:(joinL<|ss.take k).length+(Lib.itoa (s.size:Int)).length+1+s.size<=140737488355328:=by
    rw[hjk]at hjl;simp only[List.length_append,List.length_cons,List.length_nil]at hjl;have:=Lib.size_eq s;omega
   have HJK:=Lib.hid hjk;clear hjk hjl hj0;have HSK:=Lib.hid hs;clear hs;have hsz1:=HZ.out s<|List.mem_of_getElem? HSK.out;have hc:=HCK.out
   go_wp2_with fail
   clear hc;have hB0:=H1.out;have hsw:w.heap.size<=wr.heap.size:=hB0.size;have hPw:Lib.TabIs Tryz.prog wr "internal/strconv.uint64pow10" .u64 Lib.pow10Tab:=Go.Joins.tab_stays (g:=2) (by kernel_rfl) HP.out hB0<|Nat.le_refl _
   refine(HI.out (s.size:Int) wr (by omega) (by omega) hPw).mono ?_
   rintro e w1 ⟨rfl,n,os,rfl⟩;have hB1:Below w.heap.size w (grow (wr.drewN n) os):=hB0.trans<|Lib.below_grow _ wr hsw n os;have hI1:Lib.IsBuilder 85 5 w.heap.size w.heap.size (Lib.byteCells<|joinL<|ss.take k) (grow (wr.drewN n) os):=ZS5 H2.out<|Lib.below_grow _ wr (Nat.le_refl _) n os;have HB1:=Lib.hid hB1;clear hB1 hB0 hPw;generalize grow (wr.drewN n) os=w1 at HB1 hI1⊢;have hw1:w.heap.size<=w1.heap.size:=HB1.out.size
   go_wp2_with fail
   refine(HS.out w.heap.size w.heap.size (Lib.byteCells<|joinL<|ss.take k) ⟨(Lib.itoa (s.size:Int)).toArray⟩ w1 hI1 (by rw[ZPq];show _+(Lib.itoa (s.size:Int)).toArray.size<=_;rw[List.size_toArray];omega) hw1).mono ?_
   rintro e w2 ⟨rfl,hA2,hB2⟩;have HB2:=Lib.hid<|Below.trans HB1.out hB2;clear hB2 hI1;have HA2:=Lib.hid hA2;clear hA2;have hw2:w.heap.size<=w2.heap.size:=HB2.out.size
   go_wp2_with fail
   refine(HB.out w.heap.size w.heap.size _ 58 w2 (Or.inr HA2.out) (by rw[List.length_append,ZPq,Lib.strCells_length];show _+(Lib.itoa (s.size:Int)).toArray.size+1<=_;rw[List.size_toArray];omega) hw2).mono ?_
   rintro e w3 ⟨rfl,hA3,hB3⟩;have HB3:=Lib.hid<|Below.trans HB2.out hB3;clear hB3;have HA3:=Lib.hid hA3;clear hA3;have hw3:w.heap.size<=w3.heap.size:=HB3.out.size
   go_wp2_with fail
   refine(HS.out w.heap.size w.heap.size _ s w3 (Or.inr HA3.out) (by rw[List.length_append,List.length_append,ZPq,Lib.strCells_length];show _+(Lib.itoa (s.size:Int)).toArray.size+1+s.size<=_;rw[List.size_toArray];omega) hw3).mono ?_
   rintro e w4 ⟨rfl,hA4,hB4⟩;have HB4:=Lib.hid<|Below.trans HB3.out hB4;clear hB4;have HA4:=Lib.hid hA4;clear hA4
   go_wp2_with fail
   go_roundw
   case rel=>exact⟨k+1,by omega,by go_num,HB4.out,by rw[HJK.out];unfold Lib.byteCells;rw[List.map_append,List.map_append,List.map_append];exact Or.inr HA4.out⟩
   case measure=>simp[intOf];omega
  .have hkl:ss.take k=ss:=List.take_of_length_le (by omega)
   rw[hkl]at H2;have hB0:=H1.out;have hw1:w.heap.size<=wr.heap.size:=hB0.size;have HB0:=Lib.hid hB0;clear hB0
   go_wp2_with fail
   refine(HX.out w.heap.size w.heap.size (joinL ss) wr H2.out hw1).mono ?_;rintro e w1 ⟨rfl,hB1⟩;have HB1:=Lib.hid<|Below.trans HB0.out hB1;clear hB1
   go_wp2_with fail
   have hT1:w1.cell? ⟨7,15,none⟩=some (.int .u8 4):=by rw[HB1.out.cell (p:=⟨7,15,none⟩) h7];exact HT.out
   refine(ZS4 HR.out ⟨(joinL ss).toArray⟩ (by show(joinL ss).toArray.size<=_;rw[List.size_toArray];exact HJ.out) w1 hT1).mono ?_
   rintro e w2 ⟨rfl,hB2⟩;have HB2:=Lib.hid<|Below.trans HB1.out<|hB2.mono HB1.out.size;clear hB2 hT1
   go_wp2_with fail
   go_ret
   exact⟨by unfold ZOL;rfl,HB2.out⟩
end Go.Proofs
namespace Go.Proofs
open Go Go.RowKit Go.Sort
set_option linter.unusedVariables false
set_option maxHeartbeats 1000000 in
set_option maxRecDepth 100000 in
def Bl.copyCheck_used(b:Nat)(w:World)(h0:w.cell? ⟨b,0,none⟩=some (.pointer<|some ⟨b,0,none⟩)):
 Calls Tryz.prog 57 #[.pointer<|some ⟨b,0,none⟩] w λe w'=>e=.returned (.tuple #[])/\w'=w:=by
 obtain⟨j,hj,_⟩:=Option.map_eq_some_iff.1 (show(Tryz.prog.info? 85).map (·.size)=some 2 by kernel_rfl)
 go_enter Tryz.func57,Tryz.ntmps57
 go_wp2
 rw[Lib.run_neq_ptr_same w _ Tryz.underlying82 hj]
 go_wp2
 go_end0
 exact⟨rfl,rfl⟩
set_option maxHeartbeats 1000000 in
set_option maxRecDepth 100000 in
def Bl.copyCheck_fresh(b:Nat)(w:World)(h0:w.cell? ⟨b,0,none⟩=some (.pointer none))(hsh:w.shape? b=some (85,2))(hfz:w.frozen? ⟨b,0,none⟩=false):
 Calls Tryz.prog 57 #[.pointer<|some ⟨b,0,none⟩] w λe w'=>e=.returned (.tuple #[])/\w'=w.setCell ⟨b,0,none⟩ (.pointer<|some ⟨b,0,none⟩):=by
 obtain⟨j,hj,hjs⟩:=Option.map_eq_some_iff.1 (show(Tryz.prog.info? 85).map (·.size)=some 2 by kernel_rfl)
 go_enter Tryz.func57,Tryz.ntmps57
 go_wp2
 rw[Lib.run_to_unsafe w ⟨b,0,none⟩ Tryz.underlying82 Tryz.underlying180 hj (by rw[hjs];decide) hsh<|Nat.zero_lt_succ 1]
 simp only[Result.andThen];rw[Oper.upon_value]
 go_wp2
 rw[run_callFunc_extern Tryz.func112 (by kernel_rfl) (by kernel_rfl) (by kernel_rfl) (e:=Extern.AbiNoEscape.same)<|by kernel_rfl]
 rw[Lib.run_noEscape];simp only[Result.andThen];rw[Oper.upon_value]
 go_wp2
 rw[Lib.run_from_unsafe w ⟨b,0,none⟩ Tryz.underlying180 Tryz.underlying82 hj hsh<|by kernel_rfl]
 simp only[Result.andThen];rw[Oper.upon_value]
 go_wp2
 go_end0
 exact⟨rfl,rfl⟩
def Bl.copyCheck(B b:Nat)(bs:List Value)(w:World)(h:Lib.IsBuilder 85 5 B b bs w):
 Calls Tryz.prog 57 #[.pointer<|some ⟨b,0,none⟩] w λe w'=>e=.returned (.tuple #[])/\(Lib.BuilderAt 85 5 B b (.pointer<|some ⟨b,0,none⟩) bs w'/\Below B w w'):=by
 rcases h with h|h
 .refine(Bl.copyCheck_fresh b w h.cell0 h.shape h.frozen0).mono ?_;rintro e w' ⟨rfl,rfl⟩;exact⟨rfl,h.used _,(Below.refl B w).setCell (p:=⟨b,0,none⟩) h.1 _⟩
 .refine(Bl.copyCheck_used b w h.cell0).mono ?_;rintro e w' ⟨rfl,rfl⟩;exact⟨rfl,h,Below.refl B _⟩
set_option maxHeartbeats 2000000 in
set_option maxRecDepth 100000 in
def Bl.WriteByte(B b:Nat)(bs:List Value)(c:Int)(w:World)(h:Lib.IsBuilder 85 5 B b bs w)(hlen:bs.length+1<=140737488355328)(hBw:B<=w.heap.size):
 Calls Tryz.prog 31 #[.pointer<|some ⟨b,0,none⟩,.int .u8 c] w λe w'=>e=.returned .nilIface/\(Lib.BuilderAt 85 5 B b (.pointer<|some ⟨b,0,none⟩) (bs++[.int .u8 c]) w'/\Below B w w'):=by
 obtain⟨i0,hi,hz0,hz1,hz2⟩:=info_parts (show(Tryz.prog.info? 5).map (λi=>(i.zero,i.size,i.bytes))=some (some<|.int .u8 0,1,1)by kernel_rfl)
 go_enter Tryz.func31,Tryz.ntmps31
 go_wp2_with (go_at_call 57;refine(Bl.copyCheck B b bs _ h).mono ?_)
 rintro e w1 ⟨rfl,h1,hb1⟩;obtain⟨hB,v,hbk,hown,hne⟩:=h1;have c0:w1.cell? ⟨b,0,none⟩=some (.pointer<|some ⟨b,0,none⟩):=by rw[Lib.cell_of_heap hbk];rfl
 have c1:w1.cell? ⟨b,1,none⟩=some v:=by rw[Lib.cell_of_heap hbk];rfl
 go_wp2_with (at_builtin;refine wpList_append_own _ rfl _ _ 83 rfl B 5 i0 (.int .u8 0) 1 1 Tryz.underlying83 hi hz0 hz1 hz2 rfl (by decide) _ _ _ rfl (hown.alloc _) ⟨w1.heap.size,0,none⟩ 1 1 [.int .u8 c] rfl rfl ?c1 ?c2 ?c3 ?c4 ?c5 ?_)
 case c1=>
  intro j u hj
  match j,hj with
  |0,hj=>simp at hj;subst hj;simp[Addr.add]
 case c2=>intro u hu;simp at hu;subst hu;rfl
 case c3=>unfold maxLen;omega
 case c4=>omega
 case c5=>have:=hb1.size;simp;omega
 intro v' w2 hown' hgrow _;have hlt:b<w1.heap.size:=by
  rcases Nat.lt_or_ge b w1.heap.size with h'|h'
  .exact h'
  .simp[Array.getElem?_eq_none h']at hbk
 have hb2:w2.heap[b]?=some (.cells #[.pointer<|some ⟨b,0,none⟩,v] 85 (0,0)):=by
  rw[hgrow.block b (by simp;omega)<|λe=>hne e.symm,Lib.alloc_old w1 _ b hlt]
  exact hbk
 have d0:w2.cell? ⟨b,0,none⟩=some (.pointer<|some ⟨b,0,none⟩):=by rw[Lib.cell_of_heap hb2];rfl
 have d1:w2.cell? ⟨b,1,none⟩=some v:=by rw[Lib.cell_of_heap hb2];rfl
 have f1:w2.frozen? ⟨b,1,none⟩=false:=Lib.frozen_of_heap hb2 1;obtain⟨g,cap,rfl⟩:∃g cap,v'=.slice (some ⟨g,0,none⟩) (bs.length+1) cap:=by
  rcases hown'.2 with⟨_,h0⟩|⟨g,cap,cur,hv,_⟩
  .omega
  .exact⟨g,cap,hv⟩
 go_wp2
 go_ret
 refine⟨rfl,?_,?_⟩
 .exact Lib.BuilderAt.put (T:=85) (e:=5) hB hb2 (bs':=bs++[.int .u8 c]) (by simpa using hown')<|by decide
 .exact((hb1.alloc (by have:=hb1.size;omega) _).grown hgrow (by have:=hb1.size;simp;omega) (λk hk=>(hown.lt k hk).1)).setCell (p:=⟨b,1,none⟩) hB _
set_option maxHeartbeats 2000000 in
set_option maxRecDepth 100000 in
def Bl.WriteString(B b:Nat)(bs:List Value)(s:ByteArray)(w:World)(h:Lib.IsBuilder 85 5 B b bs w)(hlen:bs.length+s.size<=140737488355328)(hBw:B<=w.heap.size):
 Calls Tryz.prog 29 #[.pointer<|some ⟨b,0,none⟩,.string s] w λe w'=>e=.returned (.tuple #[.int .i64 s.size,.nilIface])/\(Lib.BuilderAt 85 5 B b (.pointer<|some ⟨b,0,none⟩) (bs++Lib.strCells s) w'/\Below B w w'):=by
 obtain⟨i0,hi,hz0,hz1,hz2⟩:=info_parts (show(Tryz.prog.info? 5).map (λi=>(i.zero,i.size,i.bytes))=some (some<|.int .u8 0,1,1)by kernel_rfl)
 go_enter Tryz.func29,Tryz.ntmps29
 go_wp2_with (go_at_call 57;refine(Bl.copyCheck B b bs _ h).mono ?_)
 rintro e w1 ⟨rfl,h1,hb1⟩;obtain⟨hB,v,hbk,hown,hne⟩:=h1;have c0:w1.cell? ⟨b,0,none⟩=some (.pointer<|some ⟨b,0,none⟩):=by rw[Lib.cell_of_heap hbk];rfl
 have c1:w1.cell? ⟨b,1,none⟩=some v:=by rw[Lib.cell_of_heap hbk];rfl
 go_wp2_with (at_builtin;refine Lib.wpList_append_own_string _ rfl _ _ 83 9 rfl B 5 i0 Tryz.underlying83 Tryz.underlying9 hi hz0 hz1 hz2 _ _ _ rfl hown s rfl ?c3 ?c4 ?c5 ?_)
 case c3=>unfold maxLen;omega
 case c4=>omega
 case c5=>have:=hb1.size;omega
 intro v' w2 hown' hgrow _;have hlt:b<w1.heap.size:=by
  rcases Nat.lt_or_ge b w1.heap.size with h'|h'
  .exact h'
  .simp[Array.getElem?_eq_none h']at hbk
 have hb2:w2.heap[b]?=some (.cells #[.pointer<|some ⟨b,0,none⟩,v] 85 (0,0)):=by
  rw[hgrow.block b hlt<|λe=>hne e.symm]
  exact hbk
 have d0:w2.cell? ⟨b,0,none⟩=some (.pointer<|some ⟨b,0,none⟩):=by rw[Lib.cell_of_heap hb2];rfl
 have d1:w2.cell? ⟨b,1,none⟩=some v:=by rw[Lib.cell_of_heap hb2];rfl
 have f1:w2.frozen? ⟨b,1,none⟩=false:=Lib.frozen_of_heap hb2 1;obtain⟨ao,n',cap,rfl⟩:∃ao n' cap,v'=.slice ao n' cap:=by
  rcases hown'.2 with⟨hv,_⟩|⟨g,cap,cur,hv,_⟩
  .exact⟨_,_,_,hv⟩
  .exact⟨_,_,_,hv⟩
 go_wp2
 go_ret2
 refine⟨rfl,?_,?_⟩
 .exact Lib.BuilderAt.put (T:=85) (e:=5) hB hb2 (bs':=bs++Lib.strCells s) (by simpa[Lib.strCells_length]using hown')<|by decide
 .exact(hb1.grown hgrow (by have:=hb1.size;omega)<|λk hk=>(hown.lt k hk).1).setCell (p:=⟨b,1,none⟩) hB _
end Go.Proofs
namespace Go.Proofs.YtnjibjdmniajjaaGreatDoor
open Go.Proofs.Tryz
open Go.AM
def JN{P:Go.Program}{e:Go.TypeId}{sz bytes:Nat}(h:(match P.info? e with|some i=>(match i.zero with|some z=>z.cells.size==sz&&(i.size==sz&&i.bytes==bytes)|none=>false)|none=>false)=true):
 ∃i0 z,P.info? e=some i0/\i0.zero=some z/\i0.size=sz/\i0.bytes=bytes/\z.cells.size=sz:=by
 split at h
 .rename_i i hi;split at h
  .rename_i z hz;simp only[Bool.and_eq_true,beq_iff_eq]at h;exact⟨i,z,hi,hz,h.2.1,h.2.2,h.1⟩
  .cases h
 .cases h
def ZCa:OkL Tryz.prog Zz9:=ZCg _<|by kernel_rfl
def ZIA:OkL Tryz.prog ZGv:=ZCg _<|by kernel_rfl
def ZCb(f:Nat)(q:AFun)(h:Zza f=some q):Z0 Tryz.prog f q:=ZjX ZCa h
def ZIB(f:Nat)(q:AFun)(h:ZGw f=some q):Z0 Tryz.prog f q:=ZjX ZIA h
def ZCc:@EnvOk dT Tryz.prog e0:=@EnvOk.mk dT Tryz.prog e0 (λ_=>rfl) (λf q h=>ZCb f q h) (λf s h=>by cases h)<|λf s h=>by cases h
def lfS{P:Go.Program}{E:Env}{f k:Nat}{a q:List AV->Hp->Option (AV×Hp)}{r:Option (List AV->Hp->Option (AV×Hp))}(h:(bif Nat.beq f k then some a else r)=some q)(g:Qn P E k a)(e:r=some q->Qn P E f q):Qn P E f q:=by
 cases hb:Nat.beq f k with
 |true=>
  rw[hb]at h;obtain rfl:a=q:=Option.some.inj h;rw[Nat.eq_of_beq_eq_true hb];exact g
 |false=>
  rw[hb]at h;exact e h
def nnS{f:Nat}{q:List AV->Hp->Option (AV×Hp)}{P:Go.Program}{E:Env}(h:(none:Option<|List AV->Hp->Option (AV×Hp))=some q):Qn P E f q:=by cases h
def Z6Q:Qn Tryz.prog e1 97 (ZEt 98<|ckS 44):=ZGL ZCc (λ_=>rfl) rfl (Go.Proofs.enters_of func97 (by kernel_rfl) rfl) ZR1
 (λenc h1 cf hO cb blk off cap d w hcmp hH hblk hsz=>Go.Proofs.Tryz.yj enc h1 cf hO 98 cb blk off cap d w (Go.Proofs.enters_of func98 (by kernel_rfl) rfl) hcmp hH hblk hsz)
 (λp cap fv w=>Go.Proofs.Tryz.yb p cap fv w)
def Z6T:Qn Tryz.prog e1 100 (ZvW 101 3 ZEm):=ZzO (by decide) ZCc (λ_=>rfl) rfl (Go.Proofs.enters_of func100 (by kernel_rfl) rfl) ZR2
 (λenc hk h1 cf hO cb blk off cap d w hcmp hH hblk hsz=>Go.Proofs.Tryz.yv 3 (λw=>by kernel_rfl) (λw=>by kernel_rfl) enc hk h1 cf hO 101 cb blk off cap d w (Go.Proofs.enters_of func101 (by kernel_rfl) rfl) hcmp hH hblk hsz)
 (λp cap fv w=>Go.Proofs.Tryz.yh p cap fv w)
def ZIE(f:Nat)(s:List AV->Hp->Option (AV×Hp))(h:e1.sum f=some s):Qn Tryz.prog e1 f s:=by
 change ZFE f=some s at h;unfold ZFE at h;exact lfS h Z6Q λh=>lfS h Z6T nnS
def ZQs(g:Nat):clean (glT g)=true:=by
 match g with
 |0|1|2|3|4|5|6|7=>rfl
 |g+8=>rfl
def ZGs:EnvOk Tryz.prog e1:=⟨ZQs,λf q h=>ZIB f q h,ZIE,λf s h=>by cases h⟩
variable [REdz]
def ZQt:ZEs Tryz.prog rE 43 (ZE7 44):=ZFH (E:=rE) (E1:=e1) ZGs (λ_=>rfl) ZR3
def ZQu:ZEs Tryz.prog rE 45 (ZEe 46 3 ZEf):=ZFH (E:=rE) (E1:=e1) ZGs (λ_=>rfl) ZR4
def ZS8:Qn Tryz.prog rE 257 J7:=EV (Go.Proofs.enters_of func257 (by kernel_rfl) rfl) Go.Proofs.Tryz.yl Go.Proofs.Tryz.yf
def ZS9:Qn Tryz.prog rE 258 J8:=EY (Go.Proofs.enters_of func258 (by kernel_rfl) rfl) Go.Proofs.Tryz.yg Go.Proofs.Tryz.ya
def Z7B:Qn Tryz.prog rE 192 U9:=EK (Go.Proofs.enters_of func192 (by kernel_rfl) rfl) Go.Proofs.Tryz.yp
def Z8a:Qn Tryz.prog rE 246 J9:=by
 obtain⟨i0,z,a1,a2,a3,a4,a5⟩:=JN (P:=Tryz.prog) (e:=9) (sz:=1) (bytes:=16)<|by kernel_rfl
 exact EZ (A:=9) (Go.Proofs.enters_of func246 (by kernel_rfl) rfl) (λb off n c news w h1 h2 h3 h4 h5=>Go.Proofs.Tryz.xi i0 z 1 16 a1 a2 a3 a4 a5 (by decide) (λw=>by kernel_rfl) b off n c news w h1 h2 h3 h4 h5)
  Go.Proofs.Tryz.ye Go.Proofs.Tryz.yd
def ZhW:Qn Tryz.prog rE 52 Ja:=I2 (A:=9) (Go.Proofs.enters_of func52 (by kernel_rfl) rfl)<|λs x w hs=>Go.Proofs.Z9R Go.Proofs.Tryz.wk (by kernel_rfl) s x w hs
abbrev cR(f a b:Nat):Go.Shelf.Ren:=⟨λ|41=>f|n=>n,λ|22=>a|23=>b|4=>4|n=>n,λ|n=>n⟩
def ZCn(f a b k y:Nat)(L:Go.Proofs.SlLaysE0.n41 Tryz.prog (cR f a b):=by exact Go.Proofs.Lz)(h:∃i0 z,Tryz.prog.info? b=some i0/\i0.zero=some z/\i0.size=k/\i0.bytes=y/\z.cells.size=k:=by exact JN (by kernel_rfl))(h0:0<k:=by decide)(hy:y<=1000:=by decide)(hz:∀w,(Go.sizeOf b).run Tryz.prog w=.ok k w:=by intro w;kernel_rfl):Qn Tryz.prog rE f (ZO3 k):=by
 obtain⟨i0,z,a1,a2,a3,a4,a5⟩:=h
 exact ZOv (bytes:=y) h0 hy (L.f41.enters rfl) (Go.Proofs.AnyE.slices_Clone L i0 z k y a1 a2 a3 a4 a5 h0 hz) (Go.Proofs.AnyE.slices_Clone_nil L)<|Go.Proofs.ZSo L i0 z k y a1 a2 a3 a4 a5 h0 hz
def ZSa:Qn Tryz.prog rE 250 (ZO3 2):=ZCn 250 100 71 2 16
def Z8d:Qn Tryz.prog rE 261 (ZO3 6):=ZCn 261 42 210 6 88
def Z8g:Qn Tryz.prog rE 264 (ZO3 5):=ZCn 264 43 220 5 80
def Z8j:Qn Tryz.prog rE 269 (ZO3 16):=ZCn 269 45 73 16 184
def Z8m:Qn Tryz.prog rE 272 (ZO3 4):=ZCn 272 44 222 4 56
def Z8p:Qn Tryz.prog rE 275 (ZO3 6):=ZCn 275 46 225 6 72
def ZSb:Qn Tryz.prog rE 252 (ZoZ 338):=Zq6 (i:=3) (by kernel_rfl) (Go.Proofs.enters_of func252 (by kernel_rfl) rfl) Go.Proofs.Tryz.xy
def Z7C:Qn Tryz.prog rE 193 J6:=EN (Go.Proofs.enters_of func193 (by kernel_rfl) rfl)<|λs c w hs h2 ha=>Go.Proofs.Z9S Go.Proofs.Tryz.wg (by kernel_rfl) (by kernel_rfl) s c w hs h2 ha
def ZSc:Qn Tryz.prog rE 65 (ZvW 66 2 ZvF):=ZzO (by decide) ZCc (λ_=>rfl) rfl (Go.Proofs.enters_of func65 (by kernel_rfl) rfl) ZA8
 (λenc hk h1 cf hO cb blk off cap d w hcmp hH hblk hsz=>Go.Proofs.Tryz.yz 2 (λw=>by kernel_rfl) (λw=>by kernel_rfl) enc hk h1 cf hO 66 cb blk off cap d w (Go.Proofs.enters_of func66 (by kernel_rfl) rfl) hcmp hH hblk hsz)
 (λp cap fv w=>Go.Proofs.Tryz.yc p cap fv w)
def ZQv{T:Ty}{X:Xt}{w:Go.World}(h:GlR rE T X w):Go.Lib.TabIs Tryz.prog w "internal/strconv.uint64pow10" .u64 Go.Lib.pow10Tab:=by
 have h2:R T X w (.iptr false<|Go.Lib.pow10Tab.map<|.int .u64) (.pointer<|some ⟨2,0,none⟩)/\GlS w 2 (.iptr false<|Go.Lib.pow10Tab.map<|.int .u64):=h 2;obtain⟨⟨r,o,e,_,_,_,_,hc⟩,cs,t,f,hh,hl⟩:=h2;cases e;rw[List.length_map]at hl;have hg:Tryz.prog.globalNamed "internal/strconv.uint64pow10" = some 2:=by kernel_rfl
 have hcs:cs=(Go.Lib.pow10Tab.map λz=>Go.Value.int .u64 z).toArray:=by
  apply Array.ext_getElem?;intro i;have ee:((Go.Lib.pow10Tab.map λz=>Go.Value.int .u64 z).toArray)[i]?=(Go.Lib.pow10Tab[i]?).map (λz=>Go.Value.int .u64 z):=by simp
  rw[ee];rcases Nat.lt_or_ge i Go.Lib.pow10Tab.length with hi|hi
  .obtain⟨v,h1,h2⟩:=Cj hc (i:=i) (a:=.int .u64 Go.Lib.pow10Tab[i]) (by rw[List.getElem?_map,List.getElem?_eq_getElem hi];rfl)
   cases h2;rw[Nat.zero_add]at h1;have h1':w.cell? ⟨2,i,none⟩=_:=h1;rw[Go.Lib.cell_of_heap hh]at h1';rw[List.getElem?_eq_getElem hi];simpa using h1'
  .rw[List.getElem?_eq_none hi,Array.getElem?_eq_none<|by omega]
   rfl
 unfold Go.Lib.TabIs Go.World.var?;rw[hg,Option.bind_some,hh,hcs]
def ZSd{T:Ty}{X:Xt}{w:Go.World}(h:GlR rE T X w):w.cell? ⟨7,15,none⟩=some (.int .u8 4):=by
 have h2:R T X w (.iptr false<|ZP9.map<|.int .u8) (.pointer<|some ⟨7,0,none⟩):=(h 7).1;obtain⟨r,o,e,_,_,_,_,hc⟩:=h2;cases e;obtain⟨v,h1,h2⟩:=Cj hc (i:=15) (a:=.int .u8 4) rfl;cases h2;have h1':w.cell? ⟨7,0+15,none⟩=_:=h1;exact h1'
def ZQw{T:Ty}{X:Xt}{w:Go.World}(h:GlR rE T X w)(g:Nat)(hg:g<2):∃x,w.cell? ⟨g,0,none⟩=some (.iface 373 x):=by
 have h2:R T X w (.iptr false [.ifc 373 .bot]) (.pointer<|some ⟨g,0,none⟩):=by
  have:=(h g).1
  match g,hg with
  |0,_=>exact this
  |1,_=>exact this
 obtain⟨r,o,e,_,_,_,_,⟨v,h3,u,rfl,_⟩,_⟩:=h2;cases e;exact⟨u,h3⟩
def Z6o:Qn Tryz.prog rE 30 ZON:=ZQO (Q:=λw=>Go.Lib.TabIs Tryz.prog w "internal/strconv.uint64pow10" .u64 Go.Lib.pow10Tab) (Go.Proofs.enters_of func30 (by kernel_rfl) rfl) (λT X w h=>ZQv h)
 (λn w h0 h1 hq=>(Go.Proofs.Tryz.xh n h0 h1 w hq).mono (by
  rintro e w' ⟨rfl,k,os,rfl⟩;exact⟨rfl,Go.Lib.below_grow _ w (Nat.le_refl _) k os⟩))
def Z6W:Qn Tryz.prog rE 103 ZOO:=ZQN (Go.Proofs.enters_of func103 (by kernel_rfl) rfl) Go.Proofs.Tryz.xk
def Z72:Qn Tryz.prog rE 111 ZOt:=ZQP (Go.Proofs.enters_of func111 (by kernel_rfl) rfl)<|λs cs w h1 h2 h3=>Go.Proofs.Any.strings_Trim_laid Go.Proofs.Tryz.wh (by kernel_rfl) s cs w h1 h2 h3
def ZSe:Qn Tryz.prog rE 13 ZOM:=ZQM (Q:=λw=>w.cell? ⟨7,15,none⟩=some (.int .u8 4)/\Go.Lib.TabIs Tryz.prog w "internal/strconv.uint64pow10" .u64 Go.Lib.pow10Tab) (Go.Proofs.enters_of func13 (by kernel_rfl) rfl) (λT X w h=>⟨ZSd h,ZQv h⟩)
 (λss r o cap w h1 h2 h3 h4 h5 hq=>Go.Proofs.ZSp Go.Proofs.Tryz.xb (λn w h0 h1 ht=>Go.Proofs.Tryz.xh n h0 h1 w ht) (λB b bs c w h1 h2 h3=>Go.Proofs.Bl.WriteByte B b bs c w h1 h2 h3) (λB b bs s w h1 h2 h3=>Go.Proofs.Bl.WriteString B b bs s w h1 h2 h3) Go.Proofs.Tryz.yn
  ss ⟨r,o,none⟩ cap w (λj s hj=>by
   have:=h1 j s hj;unfold Go.Addr.add;split
   .rename_i e;subst e;exact this
   .exact this) h2 h3 h4 h5 hq.1 hq.2)
def ZSf:Qn Tryz.prog rE 53 ZOu:=ZQQ (Q:=λw=>(∃x,w.cell? ⟨0,0,none⟩=some (.iface 373 x))/\∃x,w.cell? ⟨1,0,none⟩=some (.iface 373 x)) (Go.Proofs.enters_of func53 (by kernel_rfl) rfl) (λT X w h=>⟨ZQw h 0 (by decide),ZQw h 1<|by decide⟩)
 (λs n w h1 h2=>(Go.Proofs.Tryz.xm s n h1 h2 w).mono (by
  rintro e w' ⟨rfl,t,rfl⟩;exact⟨rfl,Go.Lib.bytesWorld_below w _ t⟩))
 (λs n w h1 h2=>(Go.Proofs.Tryz.xa s (by omega) n h2 w).mono (by
  rintro e w' ⟨rfl,rfl|⟨t,rfl⟩⟩
  .exact⟨rfl,Go.RowKit.Below.refl _ _⟩
  .exact⟨rfl,Go.Lib.bytesWorld_below w _ t⟩))
 (λs w h1 h2 hq=>by
  obtain⟨x,hx⟩:=hq.1;refine(Go.Proofs.Tryz.yi s h1 h2 _ w hx<|.inr ⟨_,_,rfl⟩).mono ?_;rintro e w' ⟨N,rfl,_,_,hb⟩;exact⟨_,rfl,hb⟩)
 (λs w h1 h2 hq=>by
  obtain⟨x,hx⟩:=hq.2;refine(Go.Proofs.Tryz.yo s h1 h2 _ w hx<|.inr ⟨_,_,rfl⟩).mono ?_;rintro e w' ⟨N,rfl,_,_,hb⟩;exact⟨_,rfl,hb⟩)
end Go.Proofs.YtnjibjdmniajjaaGreatDoor
namespace Go.Proofs.YtnjibjdmniajjaaGreatDoor
open Go.AM
def brS{α:Type}{b:Bool}{x y:Option α}{q:α}{G:Prop}(h:(bif b then x else y)=some q)(h1:x=some q->G)(h2:y=some q->G):G:=by
 cases b with
 |true=>exact h1 h
 |false=>exact h2 h
def ZQx{P:Go.Program}{E E':Env}{f:Nat}{s:List AV->Hp->Option (AV×Hp)}(hgl:∀g,E.gl g=E'.gl g)(h:Qn P E f s):Qn P E' f s:=
 λargs hp v h' hs T X w rargs hcr c hr=>h args hp v h' hs T X w rargs hcr (c.env hgl) hr
def ZQy{P:Go.Program}{E E':Env}{f:Nat}{s:List AV->Nat->List AV->Option (List AV)}(hgl:∀g,E.gl g=E'.gl g)(h:ZEs P E f s):ZEs P E' f s:=
 λargs hp v wr hs T X w rargs hcr c hr=>h args hp v wr hs T X w rargs hcr (c.env hgl) hr
def Z6v[REdz]:Qn Tryz.prog rE 43 (ZEo<|ZE7 44):=ZFI ZQt
def ZSg[REdz]:Qn Tryz.prog rE 45 (ZEo<|ZEe 46 3 ZEf):=ZFI ZQu
def ZIF[REdz](f:Nat)(s:List AV->Hp->Option (AV×Hp))(h:N8 f=some s):Qn Tryz.prog rE f s:=by
 unfold N8 at h;exact(brS h (λh=>(brS h (λh=>(brS h (λh=>(lfS h ZhW nnS))<|λh=>(brS h (λh=>(lfS h ZSf nnS))<|λh=>(lfS h ZSc nnS))))<|λh=>(brS h (λh=>(brS h (λh=>(lfS h Z7B nnS))<|λh=>(lfS h Z7C nnS)))<|λh=>(brS h (λh=>(lfS h Z8a nnS))<|λh=>(lfS h ZSa nnS)))))<|λh=>(brS h (λh=>(brS h (λh=>(brS h (λh=>(lfS h ZSb nnS))<|λh=>(lfS h ZS8 nnS)))<|λh=>(brS h (λh=>(lfS h ZS9 nnS))<|λh=>(lfS h Z8d nnS))))<|λh=>(brS h (λh=>(brS h (λh=>(lfS h Z8g nnS))<|λh=>(lfS h Z8j nnS)))<|λh=>(brS h (λh=>(lfS h Z8m nnS))<|λh=>(lfS h Z8p nnS)))))
def ZSh[REdz](f:Nat)(s:List AV->Hp->Option (AV×Hp))(h:ZP8 f=some s):Qn Tryz.prog rE f s:=by
 unfold ZP8 at h;exact brS h (λh=>lfS h ZSe λh=>lfS h Z6o λh=>lfS h Z6v λh=>lfS h ZSg λh=>ZIF f s h)<|λh=>lfS h Z6W λh=>lfS h Z72 λh=>ZIF f s h
def ZSi[REdz](f:Nat)(s:List AV->Nat->List AV->Option (List AV))(h:ZF1 f=some s):ZEs Tryz.prog rE f s:=by
 unfold ZF1 at h;cases h1:Nat.beq f 43 with
 |true=>
  rw[h1]at h;obtain rfl:=Option.some.inj h;rw[Nat.eq_of_beq_eq_true h1];exact ZQt
 |false=>
  rw[h1,cond_false]at h;cases h2:Nat.beq f 45 with
  |true=>
   rw[h2]at h;obtain rfl:=Option.some.inj h;rw[Nat.eq_of_beq_eq_true h2];exact ZQu
  |false=>rw[h2]at h;cases h
def lfO{P:Go.Program}{E:Env}{f k:Nat}{x r:Option (List AV->Hp->Option (AV×Hp))}{q:List AV->Hp->Option (AV×Hp)}(h:(bif Nat.beq f k then x else r)=some q)(g:x=some q->Qn P E k q)(e:r=some q->Qn P E f q):Qn P E f q:=by
 cases hb:Nat.beq f k with
 |true=>
  rw[hb]at h;rw[Nat.eq_of_beq_eq_true hb];exact g h
 |false=>
  rw[hb]at h;exact e h
def ZQz[REdz](g:∀q,REdz.hd=some q->Qn Tryz.prog rE 8 q):EnvOk Tryz.prog rE:=
 ⟨ZQs,λf q h=>Z98 f q h,λf s h=>lfO h (g s)<|ZSh f s,λf s h=>ZSi f s h⟩
def ZOn:EnvOk Tryz.prog (@rE ZOg):=@ZQz ZOg<|λq h=>nomatch (show(none:Option _)=some q from h)
def ZSj(args:List AV)(v:AV)(h:ZPi args=some v):pfn (@rE ZOg) 55 args=some v:=by
 unfold ZPi at h;split at h
 .cases h;exact @Z1W ZOg _
 .cases h
def ZP2:EnvOk Tryz.prog ZO2:=
 ⟨ZOn.gl,ZOn.fn,λf s h=>lfS h (ZOB (E:=ZO2) ZOn (λ_=>rfl) ZSj) λh=>ZQx (E:=@rE ZOg) (E':=ZO2) (λ_=>rfl)<|ZOn.sum f s h,λf s h=>ZQy (E:=@rE ZOg) (E':=ZO2) (λ_=>rfl)<|ZOn.rs f s h⟩
def ZSk:EnvOk Tryz.prog ZOh:=
 ⟨ZOn.gl,ZOn.fn,λf s h=>lfS h (ZOB (E:=ZOh) ZP2 (λ_=>rfl)<|ZP4 ZRy) λh=>lfS h (ZOB (E:=ZOh) ZP2 (λ_=>rfl)<|ZP4 ZRE) λh=>lfS h (ZOB (E:=ZOh) ZP2 (λ_=>rfl)<|ZP4 ZRH) λh=>ZQx (E:=ZO2) (E':=ZOh) (λ_=>rfl)<|ZP2.sum f s h,
  λf s h=>ZQy (E:=@rE ZOg) (E':=ZOh) (λ_=>rfl)<|ZOn.rs f s h⟩
def ZOG(args:List AV):Option AV:=match args with|[]=>some (.bool true)|_=>none
def ZSl(args:List AV)(v:AV)(h:ZOG args=some v):pfn ZOh 8 args=some v:=by
 unfold ZOG at h;split at h
 .cases h;exact ZRJ
 .cases h
@[reducible] def R1:REdz:=⟨some<|ZOe ZOG⟩
def ZSm:EnvOk Tryz.prog (@rE R1):=@ZQz R1 (λq h=>by
 obtain rfl:ZOe ZOG=q:=Option.some.inj h;exact ZOB (E:=@rE R1) ZSk (λ_=>rfl) ZSl)
def ZSn:pfn (@rE R1) 8 []=some (.bool true):=by
 unfold pfn;rw[V8 (E:=@rE R1) (s:=ZOe ZOG) rfl];rfl
end Go.Proofs.YtnjibjdmniajjaaGreatDoor
namespace Go.Proofs.YtnjibjdmniajjaaGreatDoor
open Go.AM
def Zoo:sig Tryz.prog 10 Tryz.f4.params.toList=some ZPn:=by kernel_rfl
def Z9l(W:Go.World)(h:Go.laidMetH Tryz.prog Rows.ticketLaterRow.laid W):GlR (@rE R1) T0 (X0 Tryz.prog) W:=by
 rw[Z65]at h;exact λg=>ZRN h g
theorem ticketLater_card:Rows.TicketLaterCardSaid:=Zom ZSm Z9l (n:=10) (S:=ZPn) rfl Zoo (@Zon R1 ZSn)
end Go.Proofs.YtnjibjdmniajjaaGreatDoor
