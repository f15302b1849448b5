/- RouteEnds holds for all its arguments. No condition. -/
import Derived.Test.YtaeppjlndecijabGreatDoorT3
import Derived.Test.YtaeppjlndecijabGreatDoorQ5
import Derived.Test.YtaeppjlndecijabGreatDoorP3d
import Derived.Test.YtaeppjlndecijabGreatDoorH3e
import Derived.Test.YtaeppjlndecijabGreatDoorR3
import Derived.Stop.LaidErr
import Derived.Lib.LaidTab
import Derived.Shelf.Strings.Builder1
import Derived.Shelf.Strings.Builder2
import Derived.Shelf.Strings.OnBuilder
import Derived.Shelf.Strings.Trim
import Derived.Shelf.Small.Utf8
import Derived.Shelf.Small.Bits
import Derived.Shelf.Small.Strs
import Derived.Shelf.Small.Wraps
import Derived.Shelf.Strings.BuilderF
import Derived.Shelf.Strings.BuilderK
import Derived.Shelf.Utf8.RuneCount
import Derived.Shelf.Strings.Builder2Cap
import Derived.Shelf.Strconv.Atoi
import Derived.Shelf.Strconv.Itoa0
import Derived.Shelf.Strconv.Itoa1
import Derived.Shelf.LaysM
import Derived.Shelf.Strconv.Itoa2
import Derived.Shelf.Strconv.Itoa3
import Derived.Shelf.Strconv.AtoiErrFast
import Derived.Shelf.Strconv.ParseIntEmpty
import Derived.Shelf.Strconv.AtoiFail
import Derived.Shelf.Strconv.Clone
import Derived.Shelf.Strconv.SyntaxError
import Derived.Shelf.LaysC
import Derived.Shelf.Strconv.ToError
import Derived.Shelf.Strconv.AtoiErr
import Derived.Shelf.Strconv.ErrVar
import Derived.Shelf.Strconv.Lower
import Derived.Shelf.Strconv.ParseUint10
import Derived.Shelf.Strconv.ParseUint10Empty
import Derived.Shelf.Strconv.ParseUint10Any
import Derived.Shelf.Strconv.ParseInt10
import Derived.Shelf.Strconv.AtoiLong
import Derived.Shelf.Strconv.AtoiInnerAll
import Derived.Shelf.Strconv.RangeError
import Derived.Shelf.Strconv.ToErrorRange
import Derived.Shelf.Strconv.AtoiAll
import Derived.Shelf.Strconv.ParseUintEmpty
import Derived.Shelf.Strconv.ParseUint10b64
import Derived.Shelf.Strconv.ParseUint10b32
import Derived.Shelf.Strconv.ParseUint10b16
import Derived.Shelf.Strconv.ParseUint10b8
import Derived.Shelf.Strconv.ParseUint10At
import Derived.Shelf.Strconv.ParseInt10At64
import Derived.Shelf.Strconv.ParseInt10At32
import Derived.Shelf.Strconv.ParseInt10At16
import Derived.Shelf.Strconv.ParseInt10At8
import Derived.Shelf.Strconv.ParseInt10All
import Derived.Shelf.Strings.Search1
import Derived.Shelf.Strings.Search2
import Derived.Shelf.Strings.Search3
import Derived.Shelf.Strings.Count
import Derived.Shelf.Strings.Shaped
import Derived.Shelf.Sort.Plain
import Derived.Shelf.Strings.Prefix
import Derived.Shelf.Strings.Split
import Derived.Shelf.Strings.SplitShaped
import Derived.Shelf.Unicode.Decode
import Derived.Shelf.Strings.Runes
import Derived.Shelf.Strings.RuneCount
import Derived.Shelf.Strings.IndexAny
import Derived.Shelf.Strings.AsciiSet
import Derived.Shelf.Strings.IndexAnyAll
import Derived.Shelf.Strings.Explode
import Derived.Shelf.Bits.Mul64
import Derived.Shelf.Strings.Repeat
import Derived.Shelf.Unicode.DecodeSlow
import Derived.Shelf.Unicode.DecodeAny
import Derived.Shelf.Unicode.DecodeLast
import Derived.Shelf.Slices.Turned
import Derived.Ground.Names2Prog
import Derived.Shelf.Slices.Clone
import Derived.Shelf.Slices.CompactI
import Derived.Shelf.Slices.CompactS
import Derived.Shelf.Slices.SearchI
import Derived.Shelf.Slices.Cells
import Derived.Shelf.Slices.In.SortNone
import Derived.Ground.SlgnProg
import Derived.Shelf.SlicesE.Clone
import Derived.Ground.SlsfProg
import Derived.Shelf.SlSortCmp.Insertion
import Derived.Shelf.SlSortCmp.InsertionK
import Derived.Shelf.SlSortCmp.SiftDownK
import Derived.Shelf.SlSortCmp.HeapSortK
import Derived.Shelf.SlSortCmp.MedianK
import Derived.Shelf.SlSortCmp.PivotK
import Derived.Shelf.SlSortCmp.ReverseRangeK
import Derived.Shelf.SlSortCmp.PartialInsertionK
import Derived.Shelf.SlSortCmp.PartitionEqualK
import Derived.Shelf.SlSortCmp.PartitionK
import Derived.Shelf.SlSortCmp.PdqK
import Derived.Shelf.SlSortCmp.WholeK
import Derived.Shelf.SlSortCmp.SiftDown1
import Derived.Shelf.SlSortCmp.HeapSort1
import Derived.Shelf.SlSortCmp.Insertion1
import Derived.Shelf.SlSortCmp.Median1
import Derived.Shelf.SlSortCmp.Pivot1
import Derived.Shelf.SlSortCmp.ReverseRange1
import Derived.Shelf.SlSortCmp.PartialInsertion1
import Derived.Shelf.SlSortCmp.PartitionEqual1
import Derived.Shelf.SlSortCmp.Partition1
import Derived.Shelf.SlSortCmp.Pdq1
import Derived.Shelf.SlSortCmp.Whole1
import Derived.Shelf.SlSortCmp.NoneTotal
import Derived.Ground.GgzProg
import Derived.Ground.SlgmProg
import Derived.Shelf.SlIterI.Nil
import Derived.Shelf.SortM.Plain
import Derived.Shelf.SortM.SortNone
import Derived.Lib.AtoiErrMem
import Derived.Shelf.Strings.SlTrimAscii
import Derived.Lib.AppendIntMem
set_option linter.unusedVariables false
set_option linter.defProp false
set_option linter.unusedSimpArgs false
set_option linter.unusedSectionVars false
namespace Go.AM
open Go
def Mb{α:Type}{f:α->AV}:∀{l:List AV},(∀x∈l,∃y,x=f y)->∃m:List α,l=m.map f
 |[],_=>⟨[],rfl⟩
 |x::r,h=>by
  obtain⟨y,rfl⟩:=h x<|List.mem_cons_self ..;obtain⟨m,rfl⟩:=Mb<|λz hz=>h z<|List.mem_cons_of_mem _ hz
  exact⟨y::m,rfl⟩
def YY{s:CSh}{ss:List CSh}{l:List AV}:Wcs (s::ss) l↔∃a r,l=a::r/\Wc s a/\Wcs ss r:=by rw[Wcs]
def Xo{l:List AV}:Wcs [] l↔l=[]:=by rw[Wcs]
def ZQ{k:IntKind}{a:AV}(h:Wc (.int k) a):∃n,a=.int k n:=by rw[Wc]at h;obtain⟨n,h,_⟩:=h;exact⟨n,h⟩
def Y4{a:AV}(h:Wc .str a):∃s:ByteArray,a=.str s:=by rw[Wc]at h;obtain⟨n,h,_⟩:=h;exact⟨n,h⟩
def YB{α:Type}{f:α->AV}{es:List CSh}{a:AV}(hd:∀cs,Wcs es cs->∃y,AV.agg cs=f y)(h:Wc (.sl true es) a):∃m:List α,a=.isl false false es.length (m.map f):=by
 rw[Wc]at h;obtain⟨xs,rfl,_,h2⟩:=h;obtain⟨m,rfl⟩:=Mb (f:=f) (l:=xs) (λx hx=>by
  obtain⟨cs,rfl,h3⟩:=(h2 x hx).1 rfl;exact hd cs h3)
 exact⟨m,rfl⟩
def C8{α:Type}{f:α->AV}{s:CSh}{a:AV}(hd:∀x,Wc s x->∃y,x=f y)(h:Wc (.sl false [s]) a):∃m:List α,a=.isl false false 1 (m.map f):=by
 rw[Wc]at h;obtain⟨xs,rfl,_,h2⟩:=h;obtain⟨m,rfl⟩:=Mb (f:=f) (l:=xs) (λx hx=>by
  have h3:=(h2 x hx).2 rfl;rw[YY]at h3;obtain⟨a,r,h4,h5,h6⟩:=h3;rw[Xo]at h6;subst h6;cases h4;exact hd x h5)
 exact⟨m,rfl⟩
abbrev iS:CSh:=.int .i64
abbrev ptS:List CSh:=[iS,iS]
abbrev nmS:List CSh:=[.str,iS,.str]
abbrev enS:List CSh:=[.str,iS,.str,iS,iS,iS,iS]
abbrev evS:List CSh:=[iS,iS,iS,iS,iS,.str,.str,.str,.sl false [.str],.sl true nmS,iS,.str,iS,iS,iS,iS,.sl true ptS,.sl true enS]
def HQ(cs:List AV)(h:Wcs ptS cs):∃y:Pt,AV.agg cs=y.enc:=by
 simp only[YY,Xo]at h;obtain⟨a,_,rfl,h1,b,_,rfl,h2,rfl⟩:=h;obtain⟨x,rfl⟩:=ZQ h1;obtain⟨y,rfl⟩:=ZQ h2;exact⟨⟨x,y⟩,rfl⟩
def Mc(cs:List AV)(h:Wcs nmS cs):∃y:Nm,AV.agg cs=y.enc:=by
 simp only[YY,Xo]at h;obtain⟨a,_,rfl,h1,b,_,rfl,h2,c,_,rfl,h3,rfl⟩:=h;obtain⟨x,rfl⟩:=Y4 h1;obtain⟨y,rfl⟩:=ZQ h2;obtain⟨z,rfl⟩:=Y4 h3;exact⟨⟨x,y,z⟩,rfl⟩
def Z6e(cs:List AV)(h:Wcs enS cs):∃y:Ent,AV.agg cs=y.enc:=by
 simp only[YY,Xo]at h;obtain⟨_,_,rfl,h1,_,_,rfl,h2,_,_,rfl,h3,_,_,rfl,h4,_,_,rfl,h5,_,_,rfl,h6,_,_,rfl,h7,rfl⟩:=h;obtain⟨a,rfl⟩:=Y4 h1;obtain⟨b,rfl⟩:=ZQ h2;obtain⟨c,rfl⟩:=Y4 h3;obtain⟨d,rfl⟩:=ZQ h4;obtain⟨e,rfl⟩:=ZQ h5;obtain⟨f,rfl⟩:=ZQ h6;obtain⟨g,rfl⟩:=ZQ h7;exact⟨⟨a,⟨b,c,d,e⟩,⟨f,g⟩⟩,rfl⟩
def Cb(x:AV)(h:Wc .str x):∃y:Str,x=encS y:=Y4 h
def Z6l(cs:List AV)(h:Wcs evS cs):∃e:Gt,AV.agg cs=evA e:=by
 simp only[YY,Xo]at h;obtain⟨_,_,rfl,h1,_,_,rfl,h2,_,_,rfl,h3,_,_,rfl,h4,_,_,rfl,h5,_,_,rfl,h6,_,_,rfl,h7,_,_,rfl,h8,_,_,rfl,h9,_,_,rfl,h10,_,_,rfl,h11,_,_,rfl,h12,_,_,rfl,h13,_,_,rfl,h14,_,_,rfl,h15,_,_,rfl,h16,_,_,rfl,h17,_,_,rfl,h18,rfl⟩:=h;obtain⟨a1,rfl⟩:=ZQ h1;obtain⟨a2,rfl⟩:=ZQ h2;obtain⟨a3,rfl⟩:=ZQ h3;obtain⟨a4,rfl⟩:=ZQ h4;obtain⟨a5,rfl⟩:=ZQ h5;obtain⟨a6,rfl⟩:=Y4 h6;obtain⟨a7,rfl⟩:=Y4 h7;obtain⟨a8,rfl⟩:=Y4 h8;obtain⟨a9,rfl⟩:=C8 Cb h9;obtain⟨a10,rfl⟩:=YB Mc h10;obtain⟨a11,rfl⟩:=ZQ h11;obtain⟨a12,rfl⟩:=Y4 h12;obtain⟨a13,rfl⟩:=ZQ h13;obtain⟨a14,rfl⟩:=ZQ h14;obtain⟨a15,rfl⟩:=ZQ h15;obtain⟨a16,rfl⟩:=ZQ h16;obtain⟨a17,rfl⟩:=YB HQ h17;obtain⟨a18,rfl⟩:=YB Z6e h18;exact⟨⟨a1,a2,a3,a4,a5,a6,a7,a8,⟨false,a9⟩,⟨false,a10⟩,⟨a11,a12,a13,a14⟩,⟨a15,a16⟩,⟨false,a17⟩,⟨false,a18⟩⟩,rfl⟩
def Zz7{α:Type}{f:α->AV}{Q:α->Prop}{es:List CSh}{a:AV}(hd:∀cs,Wcs es cs->∃y,AV.agg cs=f y/\Q y)(h:Wc (.sl true es) a):∃m:List α,a=.isl false false es.length (m.map f)/\m.length*byS es<=reachBytes/\∀y∈m,Q y:=by
 rw[Wc]at h;obtain⟨xs,rfl,hl,h2⟩:=h
 suffices G:∀l:List AV,(∀x∈l,∃y,x=f y/\Q y)->∃m:List α,l=m.map f/\∀y∈m,Q y by
  obtain⟨m,rfl,hm⟩:=G xs (λx hx=>by
   obtain⟨cs,rfl,h3⟩:=(h2 x hx).1 rfl;exact hd cs h3)
  exact⟨m,rfl,by rw[List.length_map]at hl;exact hl,hm⟩
 intro l;induction l with
 |nil=>intro _;exact⟨[],rfl,λy hy=>by cases hy⟩
 |cons x r ih=>
  intro h;obtain⟨y,rfl,hq⟩:=h x<|List.mem_cons_self ..;obtain⟨m,rfl,hm⟩:=ih<|λz hz=>h z<|List.mem_cons_of_mem _ hz
  refine⟨y::m,rfl,λz hz=>?_⟩
  rcases List.mem_cons.1 hz with rfl|hz
  .exact hq
  .exact hm z hz
abbrev veS:List CSh:=[iS,iS,iS,.str,.sl true evS,iS,.sl false [.str],.sl false [.str]]
def ZWL{n:Nat}(h:n*byS evS<=reachBytes):n<=140737488355328:=by
 have e:0<byS evS:=by decide
 have e2:reachBytes<=140737488355328:=by decide
 have:=Nat.le_mul_of_pos_right n e;omega
def ZAV(cs:List AV)(h:Wcs veS cs):∃v:Ver,AV.agg cs=v.enc/\v.bc.l.length<=140737488355328:=by
 simp only[YY,Xo]at h;obtain⟨_,_,rfl,h1,_,_,rfl,h2,_,_,rfl,h3,_,_,rfl,h4,_,_,rfl,h5,_,_,rfl,h6,_,_,rfl,h7,_,_,rfl,h8,rfl⟩:=h;obtain⟨a1,rfl⟩:=ZQ h1;obtain⟨a2,rfl⟩:=ZQ h2;obtain⟨a3,rfl⟩:=ZQ h3;obtain⟨a4,rfl⟩:=Y4 h4;obtain⟨a5,rfl,hl,_⟩:=Zz7 (f:=λe=>evA e) (Q:=λ_=>True) (λcs h=>by obtain⟨y,hy⟩:=Z6l cs h;exact⟨y,hy,trivial⟩) h5
 obtain⟨a6,rfl⟩:=ZQ h6;obtain⟨a7,rfl⟩:=C8 Cb h7;obtain⟨a8,rfl⟩:=C8 Cb h8;exact⟨⟨a1,a2,a3,a4,⟨false,a5⟩,a6,⟨false,a7⟩,⟨false,a8⟩⟩,rfl,ZWL hl⟩
def Zxg{s:CSh}{a:AV}(h:Wcs [s] [a]):Wc s a:=by
 rw[YY]at h;obtain⟨_,_,e,k,_⟩:=h;cases e;exact k
def ZAW{a:AV}(h:Wcs [.sl true veS] [a]):∃V:NL Ver,a=vsA V/\∀v∈V.l,v.bc.l.length<=140737488355328:=by
 obtain⟨m,rfl,_,hm⟩:=Zz7 ZAV<|Zxg h;exact⟨⟨false,m⟩,rfl,hm⟩
abbrev ofS:List CSh:=[.sl false [iS],.sl false [.str]]
abbrev orS:List CSh:=[.str,.str,.str,.str,iS,iS]
def inv_of(cs:List AV)(h:Wcs ofS cs):∃y:Off,AV.agg cs=y.enc:=by
 simp only[YY,Xo]at h;obtain⟨a,_,rfl,h1,b,_,rfl,h2,rfl⟩:=h;obtain⟨x,rfl⟩:=C8 (f:=I) (λ_ h=>ZQ h) h1
 obtain⟨y,rfl⟩:=C8 Cb h2;exact⟨⟨false,x,false,y⟩,rfl⟩
def ZWM(cs:List AV)(h:Wcs orS cs):∃y:Ord,AV.agg cs=y.enc:=by
 simp only[YY,Xo]at h;obtain⟨_,_,rfl,h1,_,_,rfl,h2,_,_,rfl,h3,_,_,rfl,h4,_,_,rfl,h5,_,_,rfl,h6,rfl⟩:=h;obtain⟨a,rfl⟩:=Y4 h1;obtain⟨b,rfl⟩:=Y4 h2;obtain⟨c,rfl⟩:=Y4 h3;obtain⟨d,rfl⟩:=Y4 h4;obtain⟨e,rfl⟩:=ZQ h5;obtain⟨f,rfl⟩:=ZQ h6;exact⟨⟨a,b,c,d,e,f⟩,rfl⟩
def ZWN{n:Nat}(h:n*byS ofS<=reachBytes):n<=140737488355328:=by
 have e:0<byS ofS:=by decide
 have e2:reachBytes<=140737488355328:=by decide
 have:=Nat.le_mul_of_pos_right n e;omega
abbrev ZRb:List (Bool×List CSh):=[(false,[.sl true ofS]),(false,[.sl true veS]),(false,[.sl false [iS]]),(false,[.sl true orS]),(false,[.str]),(false,[iS]),(false,[iS]),(false,[.str])]
def ZCJ[REdz](hup:pfn rE 4 []=some (.bool true))(hB:ZQV)(xs:List AV)(h:Wvs ZRb xs):pfn rE 3 xs=some (.bool true):=by
 obtain⟨x,_,rfl,_,h1,y,_,rfl,_,h2,z,_,rfl,_,h3,u,_,rfl,_,h4,v,_,rfl,_,h5,w,_,rfl,_,h6,t,_,rfl,_,h7,s,_,rfl,_,h8,h9⟩:=h;have h9':_=[]:=h9;subst h9';obtain⟨l,rfl,hl,_⟩:=Zz7 (f:=Off.enc) (Q:=λ_=>True) (λcs h=>by obtain⟨y,hy⟩:=inv_of cs h;exact⟨y,hy,trivial⟩)<|Zxg<|h1 rfl
 obtain⟨V,rfl,hV⟩:=ZAW<|h2 rfl;obtain⟨C,rfl⟩:=C8 (f:=I) (λ_ h=>ZQ h)<|Zxg<|h3 rfl
 obtain⟨os,rfl⟩:=YB (f:=Ord.enc) ZWM<|Zxg<|h4 rfl;obtain⟨p,rfl⟩:=Y4<|Zxg<|h5 rfl;obtain⟨day,rfl⟩:=ZQ<|Zxg<|h6 rfl;obtain⟨home,rfl⟩:=ZQ<|Zxg<|h7 rfl;obtain⟨door,rfl⟩:=Y4<|Zxg<|h8 rfl;exact ZCp hup hB false false false l (ZWN hl) V hV C os p day home door
def ZTh{T:Ty}{X:Xt}{w:World}{r:Nat}{k:IntKind}:∀(zs:List Int)(o:Nat),(∀i z,zs[i]?=some z->w.cell? ⟨r,o+i,none⟩=some (.int k z))->ZV T X w r (zs.map<|.int k) o
 |[],o,_=>trivial
 |z::zs,o,h=>⟨⟨.int k z,h 0 z rfl,rfl⟩,ZTh zs (o+1) λi x hx=>by have:=h (i+1) x hx;rw[show o+(i+1)=o+1+i by omega]at this;exact this⟩
def ZTi{k:IntKind}:∀zs:List Int,Z4 (zs.map<|.int k)=true
 |[]=>rfl
 |_::zs=>by simp only[List.map_cons,Z4,clean,Bool.true_and];exact ZTi zs
def lt_of_cell{w:World}{r o:Nat}{v:Value}(h:w.cell? ⟨r,o,none⟩=some v):r<w.heap.size:=by
 rcases Nat.lt_or_ge r w.heap.size with hl|hl
 .exact hl
 .unfold World.cell? at h;rw[Array.getElem?_eq_none hl]at h;cases h
def ZTj{P:Program}{w:World}{n:String}{g:Nat}{a:Array Value}(h:w.var? P n=some a)(hg:P.globalNamed n=some g):∃t f,w.heap[g]?=some (.cells a t f):=by
 unfold World.var? at h;rw[hg]at h;simp only[Option.bind_some]at h;split at h
 .rename_i cs t f hh;cases h;exact⟨t,f,hh⟩
 .cases h
def ZWO{P:Program}{w:World}{n:String}{k:IntKind}{zs:List Int}{g:Nat}(hn:0<zs.length)(h:Go.Lib.TabIs P w n k zs)(hg:P.globalNamed n=some g){X:Xt}(hX:∀r,¬X r):R T0 X w (.iptr false<|zs.map<|.int k) (.pointer<|some ⟨g,0,none⟩)/\GlS w g (.iptr false<|zs.map<|.int k):=by
 obtain⟨t,f,hv⟩:=ZTj h hg;have hc:∀i z,zs[i]?=some z->w.cell? ⟨g,0+i,none⟩=some (.int k z):=λi z hz=>by
  have hi:i<zs.length:=(List.getElem?_eq_some_iff.1 hz).1;have:=h.cell hg i hi;rw[Nat.zero_add,this];simp[List.getD,hz]
 exact⟨⟨g,0,rfl,JM g,λ_=>hX g,ZTi zs,lt_of_cell<|hc 0 zs[0]<|List.getElem?_eq_getElem hn,ZTh zs 0 hc⟩,_,t,f,hv,by simp⟩
def ZTk{P:Program}{w:World}{n:String}{g tp:Nat}{a:Addr}(h:w.var? P n=some #[.iface tp<|.pointer<|some a])(hg:P.globalNamed n=some g){X:Xt}(hX:∀r,¬X r):R T0 X w (.iptr false [.ifc tp .bot]) (.pointer<|some ⟨g,0,none⟩)/\GlS w g (.iptr false [.ifc tp .bot]):=by
 obtain⟨t,f,hv⟩:=ZTj h hg;have hc:w.cell? ⟨g,0,none⟩=some (.iface tp<|.pointer<|some a):=by simpa using World.var?_cell hg h 0
 exact⟨⟨g,0,rfl,JM g,λ_=>hX g,rfl,lt_of_cell hc,⟨_,hc,_,rfl,trivial⟩,trivial⟩,_,t,f,hv,rfl⟩
end Go.AM
namespace Go.Proofs.YtaeppjlndecijabGreatDoor
open Go Go.AM Go.RowKit
def ZTl:"*errors.errorString" = "*"++"errors.errorString":=by kernel_rfl
def ZTm(u:TypeId)(h:Tryz.prog.typeName? 3 u=some "*errors.errorString"):u=467:=
 typeName_ptr_named (nm:="errors.errorString") (by rw[<-ZTl];kernel_rfl) (by kernel_rfl) (by decide) u (by rw[<-ZTl];exact h)
set_option maxRecDepth 100000 in
def ZWP{W:World}(h:laidMet Tryz.prog Rows.routeEndsRow.laid W)(g:Nat):R T0 (X0 Tryz.prog) W (glT g) (.pointer<|some ⟨g,0,none⟩)/\GlS W g (glT g):=by
 have h3:=laidMet.tail<|laidMet.tail h;have h5:=laidMet.tail<|laidMet.tail h3;have h6:=laidMet.tail h5;have t5:Go.Lib.TabIs Tryz.prog W "internal/strconv.uint64pow10" .u64 Go.Lib.pow10Tab:=Go.Lib.tabIs_of_head (g:=3) (t:=441) (e:=288) (n:=20) (by kernel_rfl) (by kernel_rfl) (by kernel_rfl) (by kernel_rfl) (by kernel_rfl) (by kernel_rfl) h3
 obtain⟨a1,s1,s1h,_⟩:=laid_sentinel (te:=469) h5 (g:=5) (by kernel_rfl) (ti:=297) (by kernel_rfl) Tryz.underlying297 ZTm Tryz.underlying467 Tryz.underlying469 rfl rfl Tryz.underlying9 (by kernel_rfl) (by kernel_rfl)
 obtain⟨a0,s0,s0h,_⟩:=laid_sentinel (te:=469) h6 (g:=4) (by kernel_rfl) (ti:=297) (by kernel_rfl) Tryz.underlying297 ZTm Tryz.underlying467 Tryz.underlying469 rfl rfl Tryz.underlying9 (by kernel_rfl) (by kernel_rfl)
 have hX:∀r,¬(X0 Tryz.prog) r:=λ_ h=>h
 match g with
 |0|1|2=>exact⟨trivial,trivial⟩
 |3=>exact ZWO (by decide) t5 (by kernel_rfl) hX
 |4=>exact ZTk s0h (by kernel_rfl) hX
 |5=>exact ZTk s1h (by kernel_rfl) hX
 |g+6=>exact⟨trivial,trivial⟩
end Go.Proofs.YtaeppjlndecijabGreatDoor
namespace Go.Proofs
open Go.Proofs.Tryz
open Go.Shelf
def Bz{i:FuncId}{B:Func}(h:((Tryz.prog.funcs[i]?.map Func.name).getD ""=="runtime.NumGoroutine")=false/\Tryz.prog.funcs[i]?=some {B with name:=(Tryz.prog.funcs[i]?.map Func.name).getD ""}):Bears Tryz.prog i B:=⟨_,h⟩
def Lz{p:Prop}(h:p:=by repeat' first|(intros;kernel_rfl)|exact Bz ⟨by kernel_rfl,by kernel_rfl⟩|decide|constructor):p:=h
def Tryz.xr:Go.Shelf.Ren:=⟨λ|156=>111|165=>203|166=>204|169=>205|240=>297|241=>298|276=>357|277=>358|n=>n,λ|31=>44|9=>9|3=>3|4=>4|0=>0|20=>20|72=>294|76=>298|70=>291|37=>292|75=>297|127=>356|164=>394|5=>5|80=>138|n=>n,λ|n=>n⟩
def Tryz.wl:Go.Proofs.Lays.n156 Tryz.prog Tryz.xr:=Lz
def Tryz.yt:Builder.Extra Tryz.prog Tryz.xr:=Lz
def Tryz.xi:=Any.strings_Join Tryz.wl Tryz.yt
def Tryz.xu:Go.Shelf.Ren:=⟨λ|160=>58|232=>121|231=>120|227=>122|234=>124|233=>123|236=>126|235=>125|228=>214|271=>217|151=>216|197=>215|120=>307|152=>303|260=>306|137=>210|119=>369|224=>370|225=>371|217=>300|266=>363|n=>n,λ|9=>9|4=>4|3=>3|5=>5|117=>208|116=>207|0=>0|124=>211|21=>21|105=>306|46=>188|119=>407|139=>410|138=>409|n=>n,λ|3=>0|4=>1|n=>n⟩
def Tryz.wj:Go.Proofs.Lays.n160 Tryz.prog Tryz.xu:=Lz
def Tryz.xo:Go.Shelf.Ren:=⟨λ|137=>210|217=>300|266=>363|n=>n,λ|9=>9|5=>5|3=>3|n=>n,λ|n=>n⟩
def Tryz.wm:Go.Proofs.Lays.n137 Tryz.prog Tryz.xo:=Lz
def Tryz.ys:=Any.strings_IndexByte Tryz.wm
def Tryz.xy:Go.Shelf.Ren:=⟨λ|172=>211|244=>301|245=>302|247=>364|279=>365|280=>366|281=>367|282=>368|287=>404|316=>405|171=>112|205=>406|321=>424|322=>425|243=>206|246=>299|283=>359|284=>360|285=>361|286=>362|129=>202|317=>400|318=>401|319=>402|320=>403|337=>422|338=>423|n=>n,λ|9=>9|3=>3|75=>297|76=>298|4=>4|5=>5|167=>401|37=>292|0=>0|85=>402|2=>2|168=>404|53=>288|175=>443|46=>188|210=>446|127=>356|145=>469|143=>467|21=>21|171=>397|173=>399|212=>441|51=>286|20=>20|213=>442|232=>474|233=>475|80=>138|n=>n,λ|15=>4|16=>5|17=>3|18=>6|19=>7|n=>n⟩
def Tryz.wo:Go.Proofs.Lays.n172 Tryz.prog Tryz.xy:=Lz
def Tryz.xk:=Any.strconv_Atoi Tryz.wo
def Tryz.xj:Go.Shelf.Ren:=⟨λ|172=>211|244=>301|245=>302|247=>364|279=>365|280=>366|281=>367|282=>368|287=>404|316=>405|171=>112|205=>406|321=>424|322=>425|243=>206|246=>299|283=>359|284=>360|285=>361|286=>362|129=>202|317=>400|318=>401|319=>402|320=>403|337=>422|338=>423|n=>n,λ|9=>9|3=>3|75=>297|76=>298|4=>4|5=>5|167=>401|37=>292|0=>0|85=>402|2=>2|168=>404|53=>288|175=>443|46=>188|210=>446|127=>356|145=>469|143=>467|21=>21|171=>397|173=>399|212=>441|51=>286|20=>20|213=>442|232=>474|233=>475|80=>138|n=>n,λ|15=>4|16=>5|17=>3|18=>6|19=>7|n=>n⟩
def Tryz.we:Go.Proofs.LaysC.n172 Tryz.prog Tryz.xj:=Lz
def Tryz.wd:Go.Proofs.LaysM.n171 Tryz.prog Tryz.xj:={Tryz.we with}
def Tryz.xm:=Any.strconv_Itoa Tryz.wd
def Tryz.xa:=Any.strconv_Atoi_ok Tryz.we
def Tryz.yl:=Any.strconv_Atoi_syntax Tryz.we
def Tryz.yo:=Any.strconv_Atoi_range Tryz.we
def Tryz.xx:Go.Shelf.Ren:=⟨λ|190=>263|125=>106|258=>334|128=>201|129=>202|302=>382|303=>383|304=>384|305=>385|306=>386|307=>387|308=>388|309=>389|310=>390|333=>415|329=>293|330=>294|334=>416|335=>417|336=>286|344=>432|n=>n,λ|31=>44|9=>9|3=>3|46=>188|0=>0|51=>286|53=>288|4=>4|183=>280|182=>279|131=>130|5=>5|218=>350|222=>354|228=>391|229=>392|n=>n,λ|n=>n⟩
def Tryz.wf:Go.Proofs.Lays.n190 Tryz.prog Tryz.xx:=Lz
def Tryz.yp:=Any.slices_Sort_string Tryz.wf
def Tryz.xq:Go.Shelf.Ren:=⟨λ|146=>377|221=>413|268=>429|138=>430|143=>431|195=>433|197=>215|218=>434|219=>435|260=>306|217=>300|225=>371|224=>370|267=>436|266=>363|314=>437|n=>n,λ|9=>9|31=>44|3=>3|4=>4|0=>0|105=>306|21=>21|5=>5|46=>188|119=>407|139=>410|138=>409|146=>360|51=>286|n=>n,λ|1=>2|3=>0|4=>1|n=>n⟩
def Tryz.wi:Go.Proofs.Lays.n146 Tryz.prog Tryz.xq:=Lz
def Tryz.xp:Go.Shelf.Ren:=⟨λ|153=>212|152=>303|226=>304|227=>122|228=>214|137=>210|119=>369|224=>370|225=>371|217=>300|266=>363|n=>n,λ|9=>9|3=>3|4=>4|5=>5|21=>21|117=>208|116=>207|0=>0|46=>188|124=>211|n=>n,λ|n=>n⟩
def Tryz.wp:Go.Proofs.Lays.n153 Tryz.prog Tryz.xp:=Lz
def Tryz.xt:Go.Shelf.Ren:=⟨λ|105=>127|212=>218|99=>213|165=>203|166=>204|170=>219|169=>205|263=>308|264=>309|206=>305|240=>297|241=>298|276=>357|277=>358|n=>n,λ|9=>9|3=>3|4=>4|20=>20|0=>0|46=>188|109=>309|5=>5|72=>294|76=>298|51=>286|146=>360|53=>288|148=>362|70=>291|37=>292|75=>297|127=>356|164=>394|80=>138|n=>n,λ|n=>n⟩
def Tryz.wk:Go.Proofs.Lays.n105 Tryz.prog Tryz.xt:=Lz
def Tryz.yr:Builder.Extra Tryz.prog Tryz.xt:=Lz
def Tryz.xb:=Any.strings_Repeat Tryz.wk Tryz.yr
def Tryz.xf:Go.Shelf.Ren:=⟨λ|16=>255|n=>n,λ|24=>44|9=>9|4=>4|n=>n,λ|n=>n⟩
def Tryz.wb:Go.Proofs.Lays2.n16 Tryz.prog Tryz.xf:=Lz
def Tryz.yf:=Any.slices_Clone_string_nil Tryz.wb
def Tryz.yc:=Any.slices_Clone_string_zero Tryz.wb
def Tryz.xg:Go.Shelf.Ren:=⟨λ|20=>20|n=>n,λ|22=>24|3=>3|4=>4|0=>0|n=>n,λ|n=>n⟩
def Tryz.wa:Go.Proofs.Lays2.n20 Tryz.prog Tryz.xg:=Lz
def Tryz.ym:=Any.slices_Compact_int Tryz.wa
def Tryz.ye:=Any.slices_Compact_int_empty Tryz.wa
def Tryz.xs:Go.Shelf.Ren:=⟨λ|194=>264|n=>n,λ|31=>44|9=>9|3=>3|4=>4|0=>0|n=>n,λ|n=>n⟩
def Tryz.wn:Go.Proofs.Lays.n194 Tryz.prog Tryz.xs:=Lz
def Tryz.yh:=Any.slices_Compact_string Tryz.wn
def Tryz.ya:=Any.slices_Compact_string_empty Tryz.wn
def Tryz.yg:=Any.slices_Sort_string_none Tryz.wf
def Tryz.yk:Go.Shelf.Ren:=⟨λ|41=>255|n=>n,λ|22=>44|23=>9|4=>4|n=>n,λ|n=>n⟩
def Tryz.yz:Go.Proofs.SlLaysE0.n41 Tryz.prog Tryz.yk:=Lz
def Tryz.xn:=AnyE.slices_Clone Tryz.yz
def Tryz.yw:=AnyE.slices_Clone_nil Tryz.yz
def Tryz.yv:Go.Shelf.Ren:=⟨λ|6=>62|15=>106|14=>129|28=>201|29=>202|20=>220|21=>221|22=>222|23=>223|24=>224|25=>225|26=>226|27=>227|46=>310|47=>293|48=>294|49=>311|50=>312|57=>372|n=>n,λ|22=>57|24=>102|25=>145|3=>3|39=>188|0=>0|53=>286|55=>288|4=>4|46=>280|45=>279|50=>130|5=>5|9=>9|66=>350|70=>354|76=>391|77=>392|n=>n,λ|n=>n⟩
def Tryz.xh:Go.Proofs.SlLaysF0.n6 Tryz.prog Tryz.yv:=Lz
def Tryz.yy{α:Type}[Inhabited α]:=AnyQ.slices_SortFunc (α:=α) Tryz.xh
def Tryz.yu:Go.Shelf.Ren:=⟨λ|6=>183|15=>106|14=>285|28=>201|29=>202|20=>339|21=>340|22=>341|23=>342|24=>343|25=>344|26=>345|27=>346|46=>391|47=>293|48=>294|49=>392|50=>393|57=>418|n=>n,λ|22=>44|24=>9|25=>272|3=>3|39=>188|0=>0|53=>286|55=>288|4=>4|46=>280|45=>279|50=>130|5=>5|9=>9|66=>350|70=>354|76=>391|77=>392|n=>n,λ|n=>n⟩
def Tryz.xe:Go.Proofs.SlLaysF.n6 Tryz.prog Tryz.yu:=Lz
def Tryz.yj{α:Type}[Inhabited α]:=Any.slices_SortFunc (α:=α) Tryz.xe
def Tryz.yd:=AnyF.slices_SortFunc_none Tryz.xh
def Tryz.yn:Go.Shelf.Ren:=⟨λ|6=>183|15=>106|14=>285|28=>201|29=>202|20=>339|21=>340|22=>341|23=>342|24=>343|25=>344|26=>345|27=>346|46=>391|47=>293|48=>294|49=>392|50=>393|57=>418|n=>n,λ|22=>44|24=>9|25=>272|3=>3|39=>188|0=>0|53=>286|55=>288|4=>4|46=>280|45=>279|50=>130|5=>5|9=>9|66=>350|70=>354|76=>391|77=>392|n=>n,λ|n=>n⟩
def Tryz.xd:Go.Proofs.SlLaysF0.n6 Tryz.prog Tryz.yn:=Lz
def Tryz.yb:=AnyF.slices_SortFunc_none Tryz.xd
end Go.Proofs
namespace Go.Proofs
open Go.Proofs.Tryz
open Go.RowKit Go.Maps Go.Sort Go.Shelf
def Tryz.xw:Go.Shelf.Ren:=⟨λ|7=>261|10=>332|n=>n,λ|23=>328|26=>3|3=>4|28=>67|0=>0|27=>66|33=>96|4=>4|n=>n,λ|n=>n⟩
def Tryz.wh:Go.Proofs.SlLaysZI.n7 Tryz.prog Tryz.xw:=Lz
def Tryz.xl:Go.Shelf.Ren:=⟨λ|6=>18|8=>42|9=>43|11=>104|13=>106|12=>105|23=>201|24=>202|14=>192|15=>193|16=>194|17=>195|18=>196|19=>197|20=>198|21=>199|22=>200|25=>292|26=>293|27=>294|28=>295|29=>296|30=>130|31=>356|n=>n,λ|26=>3|28=>67|24=>24|0=>0|3=>3|37=>188|48=>286|50=>288|4=>4|40=>280|39=>279|45=>130|5=>5|9=>9|51=>350|55=>354|57=>391|58=>392|33=>96|n=>n,λ|n=>n⟩
def Tryz.wc:Go.Proofs.SlLaysZI.n6 Tryz.prog Tryz.xl:=Lz
def Tryz.xz:Go.Shelf.Ren:=⟨λ|5=>43|8=>106|7=>105|19=>201|20=>202|10=>192|11=>193|12=>194|13=>195|14=>196|15=>197|16=>198|17=>199|18=>200|30=>292|31=>293|32=>294|33=>295|34=>296|35=>130|40=>356|n=>n,λ|23=>24|25=>3|3=>3|32=>188|22=>24|0=>0|44=>286|46=>288|4=>4|36=>280|35=>279|41=>130|5=>5|9=>9|53=>350|57=>354|63=>391|64=>392|n=>n,λ|n=>n⟩
def Tryz.wq:Go.Proofs.SlLaysM.n5 Tryz.prog Tryz.xz:=Lz
def Tryz.yq:Go.Shelf.Ren:=⟨λ|6=>186|15=>106|14=>287|28=>201|29=>202|20=>347|21=>348|22=>349|23=>350|24=>351|25=>352|26=>353|27=>354|46=>394|47=>293|48=>294|49=>395|50=>396|57=>419|n=>n,λ|22=>106|24=>173|25=>274|3=>3|39=>188|0=>0|53=>286|55=>288|4=>4|46=>280|45=>279|50=>130|5=>5|9=>9|66=>350|70=>354|76=>391|77=>392|n=>n,λ|n=>n⟩
def Tryz.xc:Go.Proofs.SlLaysF0.n6 Tryz.prog Tryz.yq:=Lz
def Tryz.wg(m:Nat):AnyZI.SortsIn Tryz.prog Tryz.xl Fence.wide m:=
 ⟨λblk off cap ss W hH hblk hsz=>callsIn_wide.2<|AnyM.slices_Sort_int Tryz.wq blk off cap ss W hH hblk hsz,
  λp cap W=>callsIn_wide.2<|AnyM.slices_Sort_int_none Tryz.wq p cap W⟩
set_option maxHeartbeats 1000000 in
def Tryz.xv(Bm o b nn:Nat)(D0:DataW Unit)(R:Value->Option (DataW Unit×List MemPlace))(w:World)(hBm:Bm<w.heap.size)(hm:w.cell? ⟨Bm,o,none⟩=some (.map<|some b))(hown:w.ownsMap Tryz.prog 3 R b nn D0)(hmax:Maps.size D0<=maxLen)(hbytes:Maps.size D0*8<=140737488355328):
 Calls Tryz.prog 18 #[.func (.func 332) #[] #[.pointer<|some ⟨Bm,o,none⟩]] w λe w'=>∃(v:Value)(ss:List Int),e=.returned v/\ss.Perm (intKeys D0)/\
  w'.ownsRow w.heap.size 3 1 v ss.length ((ss.mergeSort<|λx y=>decide (x<=y)).map encZ)/\(v=.slice none 0 0↔ss=[])/\Below w.heap.size w w':=by
 refine(callsIn_wide (n:=5)).1 ?_;have hseq:SeqGives Fence.wide 2 Tryz.prog 332 #[.pointer<|some ⟨Bm,o,none⟩] encZ (λss=>ss.Perm<|intKeys D0) (Maps.size D0) w:=
  ZTR (ρ:=Tryz.xw) {Tryz.wh with} Fence.wide _ trivial rfl (by omega) Bm o b nn D0 w hBm hm hown
 exact AnyZI.sorted_in Tryz.wc Fence.wide 5 trivial trivial trivial trivial rfl (by omega) (Tryz.wg _) (enters_of func43 (by kernel_rfl) rfl) 332 #[.pointer<|some ⟨Bm,o,none⟩] trivial (enters_of func332 (by kernel_rfl) rfl) _ _ hmax hbytes _ hseq
def Tryz.yx{α:Type}[Inhabited α]:=AnyQ.slices_SortFunc (α:=α) Tryz.xc
def Tryz.yi:=AnyF.slices_SortFunc_none Tryz.xc
end Go.Proofs
namespace Go.Proofs.YtaeppjlndecijabGreatDoor
open Go.Proofs.Tryz
open Go.AM
def JN{P:Go.Program}{e:Go.TypeId}{sz bytes:Nat}(h:(match P.info? e with|some i=>(match i.zero with|some z=>z.cells.size==sz&&(i.size==sz&&i.bytes==bytes)|none=>false)|none=>false)=true):
 ∃i0 z,P.info? e=some i0/\i0.zero=some z/\i0.size=sz/\i0.bytes=bytes/\z.cells.size=sz:=by
 split at h
 .rename_i i hi;split at h
  .rename_i z hz;simp only[Bool.and_eq_true,beq_iff_eq]at h;exact⟨i,z,hi,hz,h.2.1,h.2.2,h.1⟩
  .cases h
 .cases h
def ZCa:OkL Tryz.prog Zz9:=ZCg _<|by kernel_rfl
def ZIA:OkL Tryz.prog ZGv:=ZCg _<|by kernel_rfl
def ZCb(f:Nat)(q:AFun)(h:Zza f=some q):Z0 Tryz.prog f q:=ZjX ZCa h
def ZIB(f:Nat)(q:AFun)(h:ZGw f=some q):Z0 Tryz.prog f q:=ZjX ZIA h
def ZCc:@EnvOk dT Tryz.prog e0:=@EnvOk.mk dT Tryz.prog e0 (λ_=>rfl) (λf q h=>ZCb f q h) (λf s h=>by cases h)<|λf s h=>by cases h
def lfS{P:Go.Program}{E:Env}{f k:Nat}{a q:List AV->Hp->Option (AV×Hp)}{r:Option (List AV->Hp->Option (AV×Hp))}(h:(bif Nat.beq f k then some a else r)=some q)(g:Qn P E k a)(e:r=some q->Qn P E f q):Qn P E f q:=by
 cases hb:Nat.beq f k with
 |true=>
  rw[hb]at h;obtain rfl:a=q:=Option.some.inj h;rw[Nat.eq_of_beq_eq_true hb];exact g
 |false=>
  rw[hb]at h;exact e h
def nnS{f:Nat}{q:List AV->Hp->Option (AV×Hp)}{P:Go.Program}{E:Env}(h:(none:Option<|List AV->Hp->Option (AV×Hp))=some q):Qn P E f q:=by cases h
def Z7s:Qn Tryz.prog e1 183 (ZEt 184<|ckS 97):=ZGL ZCc (λ_=>rfl) rfl (Go.Proofs.enters_of func183 (by kernel_rfl) rfl) ZUz
 (λenc h1 cf hO cb blk off cap d w hcmp hH hblk hsz=>Go.Proofs.Tryz.yj enc h1 cf hO 184 cb blk off cap d w (Go.Proofs.enters_of func184 (by kernel_rfl) rfl) hcmp hH hblk hsz)
 (λp cap fv w=>Go.Proofs.Tryz.yb p cap fv w)
def Z7v:Qn Tryz.prog e1 186 (ZvW 187 3 ZEm):=ZzO (by decide) ZCc (λ_=>rfl) rfl (Go.Proofs.enters_of func186 (by kernel_rfl) rfl) ZUA
 (λenc hk h1 cf hO cb blk off cap d w hcmp hH hblk hsz=>Go.Proofs.Tryz.yx 3 (λw=>by kernel_rfl) (λw=>by kernel_rfl) enc hk h1 cf hO 187 cb blk off cap d w (Go.Proofs.enters_of func187 (by kernel_rfl) rfl) hcmp hH hblk hsz)
 (λp cap fv w=>Go.Proofs.Tryz.yi p cap fv w)
def ZIE(f:Nat)(s:List AV->Hp->Option (AV×Hp))(h:e1.sum f=some s):Qn Tryz.prog e1 f s:=by
 change ZFE f=some s at h;unfold ZFE at h;exact lfS h Z7s λh=>lfS h Z7v nnS
def ZTn(g:Nat):clean (glT g)=true:=by
 match g with
 |0|1|2|3|4|5|6|7=>rfl
 |g+8=>rfl
def ZGs:EnvOk Tryz.prog e1:=⟨ZTn,λf q h=>ZIB f q h,ZIE,λf s h=>by cases h⟩
variable [REdz]
def ZTo:ZEs Tryz.prog rE 96 (ZE7 97):=ZFH (E:=rE) (E1:=e1) ZGs (λ_=>rfl) ZUB
def ZTp:ZEs Tryz.prog rE 98 (ZEe 99 3 ZEf):=ZFH (E:=rE) (E1:=e1) ZGs (λ_=>rfl) ZUC
def Z8f:Qn Tryz.prog rE 263 J7:=EV (Go.Proofs.enters_of func263 (by kernel_rfl) rfl) Go.Proofs.Tryz.yp Go.Proofs.Tryz.yg
def Z8g:Qn Tryz.prog rE 264 J8:=EY (Go.Proofs.enters_of func264 (by kernel_rfl) rfl) Go.Proofs.Tryz.yh Go.Proofs.Tryz.ya
def Z7T:Qn Tryz.prog rE 210 U9:=EK (Go.Proofs.enters_of func210 (by kernel_rfl) rfl) Go.Proofs.Tryz.ys
def ZWT:Qn Tryz.prog rE 255 J9:=by
 obtain⟨i0,z,a1,a2,a3,a4,a5⟩:=JN (P:=Tryz.prog) (e:=9) (sz:=1) (bytes:=16)<|by kernel_rfl
 exact EZ (el:=9) (Go.Proofs.enters_of func255 (by kernel_rfl) rfl) (λb off n c news w h1 h2 h3 h4 h5=>Go.Proofs.Tryz.xn i0 z 1 16 a1 a2 a3 a4 a5 (by decide) (λw=>by kernel_rfl) b off n c news w h1 h2 h3 h4 h5)
  Go.Proofs.Tryz.yf Go.Proofs.Tryz.yc
def ZWU:Qn Tryz.prog rE 377 Ja:=I2 (el:=9) (Go.Proofs.enters_of func377 (by kernel_rfl) rfl)<|λs x w hs=>Go.Proofs.Z9R Go.Proofs.Tryz.wi (by kernel_rfl) s x w hs
abbrev cR(f a b:Nat):Go.Shelf.Ren:=⟨λ|41=>f|n=>n,λ|22=>a|23=>b|4=>4|n=>n,λ|n=>n⟩
def ZCn(f a b k y:Nat)(L:Go.Proofs.SlLaysE0.n41 Tryz.prog (cR f a b):=by exact Go.Proofs.Lz)(h:∃i0 z,Tryz.prog.info? b=some i0/\i0.zero=some z/\i0.size=k/\i0.bytes=y/\z.cells.size=k:=by exact JN (by kernel_rfl))(h0:0<k:=by decide)(hy:y<=1000:=by decide)(hz:∀w,(Go.sizeOf b).run Tryz.prog w=.ok k w:=by intro w;kernel_rfl):Qn Tryz.prog rE f (ZOi k):=by
 obtain⟨i0,z,a1,a2,a3,a4,a5⟩:=h
 exact ZPq (bytes:=y) h0 hy (L.f41.enters rfl) (Go.Proofs.AnyE.slices_Clone L i0 z k y a1 a2 a3 a4 a5 h0 hz) (Go.Proofs.AnyE.slices_Clone_nil L)<|Go.Proofs.ZXe L i0 z k y a1 a2 a3 a4 a5 h0 hz
def ZWV:Qn Tryz.prog rE 259 (ZOi 2):=ZCn 259 77 81 2 16
def Z8h:Qn Tryz.prog rE 267 (ZOi 6):=ZCn 267 52 226 6 88
def Z8k:Qn Tryz.prog rE 270 (ZOi 5):=ZCn 270 53 234 5 80
def Z8p:Qn Tryz.prog rE 275 (ZOi 16):=ZCn 275 55 167 16 184
def Z8s:Qn Tryz.prog rE 278 (ZOi 4):=ZCn 278 54 236 4 56
def Z8w:Qn Tryz.prog rE 282 (ZOi 6):=ZCn 282 56 239 6 72
def ZWW:Qn Tryz.prog rE 18 (ZoZ 332):=Zq6 (kt:=3) (by kernel_rfl) (Go.Proofs.enters_of func18 (by kernel_rfl) rfl) Go.Proofs.Tryz.xv
def Z7V:Qn Tryz.prog rE 212 J6:=EN (Go.Proofs.enters_of func212 (by kernel_rfl) rfl)<|λs c w hs h2 ha=>Go.Proofs.Z9S Go.Proofs.Tryz.wp (by kernel_rfl) (by kernel_rfl) s c w hs h2 ha
def ZWX:Qn Tryz.prog rE 62 (ZvW 63 2 ZvF):=ZzO (by decide) ZCc (λ_=>rfl) rfl (Go.Proofs.enters_of func62 (by kernel_rfl) rfl) ZA8
 (λenc hk h1 cf hO cb blk off cap d w hcmp hH hblk hsz=>Go.Proofs.Tryz.yy 2 (λw=>by kernel_rfl) (λw=>by kernel_rfl) enc hk h1 cf hO 63 cb blk off cap d w (Go.Proofs.enters_of func63 (by kernel_rfl) rfl) hcmp hH hblk hsz)
 (λp cap fv w=>Go.Proofs.Tryz.yd p cap fv w)
def ZWY{T:Ty}{X:Xt}{w:Go.World}(h:GlR rE T X w):Go.Lib.TabIs Tryz.prog w "internal/strconv.uint64pow10" .u64 Go.Lib.pow10Tab:=by
 have h2:R T X w (.iptr false<|Go.Lib.pow10Tab.map<|.int .u64) (.pointer<|some ⟨3,0,none⟩)/\GlS w 3 (.iptr false<|Go.Lib.pow10Tab.map<|.int .u64):=h 3;obtain⟨⟨r,o,e,_,_,_,_,hc⟩,cs,t,f,hh,hl⟩:=h2;cases e;rw[List.length_map]at hl;have hg:Tryz.prog.globalNamed "internal/strconv.uint64pow10" = some 3:=by kernel_rfl
 have hcs:cs=(Go.Lib.pow10Tab.map λz=>Go.Value.int .u64 z).toArray:=by
  apply Array.ext_getElem?;intro i;have ee:((Go.Lib.pow10Tab.map λz=>Go.Value.int .u64 z).toArray)[i]?=(Go.Lib.pow10Tab[i]?).map (λz=>Go.Value.int .u64 z):=by simp
  rw[ee];rcases Nat.lt_or_ge i Go.Lib.pow10Tab.length with hi|hi
  .obtain⟨v,h1,h2⟩:=Cj hc (i:=i) (a:=.int .u64 Go.Lib.pow10Tab[i]) (by rw[List.getElem?_map,List.getElem?_eq_getElem hi];rfl)
   cases h2;rw[Nat.zero_add]at h1;have h1':w.cell? ⟨3,i,none⟩=_:=h1;rw[Go.Lib.cell_of_heap hh]at h1';rw[List.getElem?_eq_getElem hi];simpa using h1'
  .rw[List.getElem?_eq_none hi,Array.getElem?_eq_none<|by omega]
   rfl
 unfold Go.Lib.TabIs Go.World.var?;rw[hg,Option.bind_some,hh,hcs]
def ZTq{T:Ty}{X:Xt}{w:Go.World}(h:GlR rE T X w)(g:Nat)(hg:g=4\/g=5):∃x,w.cell? ⟨g,0,none⟩=some (.iface 467 x):=by
 have h2:R T X w (.iptr false [.ifc 467 .bot]) (.pointer<|some ⟨g,0,none⟩):=by
  have:=(h g).1;rcases hg with rfl|rfl
  .exact this
  .exact this
 obtain⟨r,o,e,_,_,_,_,⟨v,h3,u,rfl,_⟩,_⟩:=h2;cases e;exact⟨u,h3⟩
def Z73:Qn Tryz.prog rE 112 ZPl:=ZTN (Q:=λw=>Go.Lib.TabIs Tryz.prog w "internal/strconv.uint64pow10" .u64 Go.Lib.pow10Tab) (Go.Proofs.enters_of func112 (by kernel_rfl) rfl) (λT X w h=>ZWY h)
 (λn w h0 h1 hq=>(Go.Proofs.Tryz.xm n h0 h1 w hq).mono (by
  rintro e w' ⟨rfl,k,os,rfl⟩;exact⟨rfl,Go.Lib.below_grow _ w (Nat.le_refl _) k os⟩))
def Z72:Qn Tryz.prog rE 111 ZPm:=ZTM (Go.Proofs.enters_of func111 (by kernel_rfl) rfl) Go.Proofs.Tryz.xi
def Z6x:Qn Tryz.prog rE 58 ZPn:=ZTO (Go.Proofs.enters_of func58 (by kernel_rfl) rfl)<|λs cs w h1 h2 h3=>Go.Proofs.Any.strings_Trim_laid Go.Proofs.Tryz.wj (by kernel_rfl) s cs w h1 h2 h3
def Z7U:Qn Tryz.prog rE 211 ZPo:=ZTP (Q:=λw=>(∃x,w.cell? ⟨4,0,none⟩=some (.iface 467 x))/\∃x,w.cell? ⟨5,0,none⟩=some (.iface 467 x)) (Go.Proofs.enters_of func211 (by kernel_rfl) rfl) (λT X w h=>⟨ZTq h 4 (by decide),ZTq h 5<|by decide⟩)
 (λs n w h1 h2=>(Go.Proofs.Tryz.xk s n h1 h2 w).mono (by
  rintro e w' ⟨rfl,t,rfl⟩;exact⟨rfl,Go.Lib.bytesWorld_below w _ t⟩))
 (λs n w h1 h2=>(Go.Proofs.Tryz.xa s (by omega) n h2 w).mono (by
  rintro e w' ⟨rfl,rfl|⟨t,rfl⟩⟩
  .exact⟨rfl,Go.RowKit.Below.refl _ _⟩
  .exact⟨rfl,Go.Lib.bytesWorld_below w _ t⟩))
 (λs w h1 h2 hq=>by
  obtain⟨x,hx⟩:=hq.1;refine(Go.Proofs.Tryz.yl s h1 h2 _ w hx<|.inr ⟨_,_,rfl⟩).mono ?_;rintro e w' ⟨N,rfl,_,_,hb⟩;exact⟨_,rfl,hb⟩)
 (λs w h1 h2 hq=>by
  obtain⟨x,hx⟩:=hq.2;refine(Go.Proofs.Tryz.yo s h1 h2 _ w hx<|.inr ⟨_,_,rfl⟩).mono ?_;rintro e w' ⟨N,rfl,_,_,hb⟩;exact⟨_,rfl,hb⟩)
def Z75:Qn Tryz.prog rE 127 ZPp:=ZTS (Go.Proofs.enters_of func127 (by kernel_rfl) rfl) Go.Proofs.Tryz.xb
def ZWZ:Qn Tryz.prog rE 20 ZvY:=ZzZ (Go.Proofs.enters_of func20 (by kernel_rfl) rfl) Go.Proofs.Tryz.ym Go.Proofs.Tryz.ye
end Go.Proofs.YtaeppjlndecijabGreatDoor
namespace Go.Proofs.YtaeppjlndecijabGreatDoor
open Go.AM
def brS{α:Type}{b:Bool}{x y:Option α}{q:α}{G:Prop}(h:(bif b then x else y)=some q)(h1:x=some q->G)(h2:y=some q->G):G:=by
 cases b with
 |true=>exact h1 h
 |false=>exact h2 h
def ZPg{P:Go.Program}{E E':Env}{f:Nat}{s:List AV->Hp->Option (AV×Hp)}(hgl:∀g,E.gl g=E'.gl g)(h:Qn P E f s):Qn P E' f s:=
 λargs hp v h' hs T X w rargs hcr c hr=>h args hp v h' hs T X w rargs hcr (c.env hgl) hr
def ZPh{P:Go.Program}{E E':Env}{f:Nat}{s:List AV->Nat->List AV->Option (List AV)}(hgl:∀g,E.gl g=E'.gl g)(h:ZEs P E f s):ZEs P E' f s:=
 λargs hp v wr hs T X w rargs hcr c hr=>h args hp v wr hs T X w rargs hcr (c.env hgl) hr
def Z6P[REdz]:Qn Tryz.prog rE 96 (ZEo<|ZE7 97):=ZFI ZTo
def Z6R[REdz]:Qn Tryz.prog rE 98 (ZEo<|ZEe 99 3 ZEf):=ZFI ZTp
def ZIF[REdz](f:Nat)(s:List AV->Hp->Option (AV×Hp))(h:N8 f=some s):Qn Tryz.prog rE f s:=by
 unfold N8 at h;exact(brS h (λh=>(brS h (λh=>(brS h (λh=>(brS h (λh=>(lfS h ZWW nnS))<|λh=>(lfS h ZWZ nnS)))<|λh=>(brS h (λh=>(lfS h Z6x nnS))<|λh=>(brS h (λh=>(lfS h ZWX nnS))<|λh=>(lfS h Z6P nnS)))))<|λh=>(brS h (λh=>(brS h (λh=>(lfS h Z6R nnS))<|λh=>(brS h (λh=>(lfS h Z72 nnS))<|λh=>(lfS h Z73 nnS))))<|λh=>(brS h (λh=>(lfS h Z75 nnS))<|λh=>(brS h (λh=>(lfS h Z7T nnS))<|λh=>(lfS h Z7U nnS))))))<|λh=>(brS h (λh=>(brS h (λh=>(brS h (λh=>(lfS h Z7V nnS))<|λh=>(lfS h ZWT nnS)))<|λh=>(brS h (λh=>(lfS h ZWV nnS))<|λh=>(brS h (λh=>(lfS h Z8f nnS))<|λh=>(lfS h Z8g nnS)))))<|λh=>(brS h (λh=>(brS h (λh=>(lfS h Z8h nnS))<|λh=>(brS h (λh=>(lfS h Z8k nnS))<|λh=>(lfS h Z8p nnS))))<|λh=>(brS h (λh=>(lfS h Z8s nnS))<|λh=>(brS h (λh=>(lfS h Z8w nnS))<|λh=>(lfS h ZWU nnS))))))
def ZX0[REdz](f:Nat)(s:List AV->Nat->List AV->Option (List AV))(h:ZF1 f=some s):ZEs Tryz.prog rE f s:=by
 unfold ZF1 at h;cases h1:Nat.beq f 96 with
 |true=>
  rw[h1]at h;obtain rfl:=Option.some.inj h;rw[Nat.eq_of_beq_eq_true h1];exact ZTo
 |false=>
  rw[h1,cond_false]at h;cases h2:Nat.beq f 98 with
  |true=>
   rw[h2]at h;obtain rfl:=Option.some.inj h;rw[Nat.eq_of_beq_eq_true h2];exact ZTp
  |false=>rw[h2]at h;cases h
def lfO{P:Go.Program}{E:Env}{f k:Nat}{x r:Option (List AV->Hp->Option (AV×Hp))}{q:List AV->Hp->Option (AV×Hp)}(h:(bif Nat.beq f k then x else r)=some q)(g:x=some q->Qn P E k q)(e:r=some q->Qn P E f q):Qn P E f q:=by
 cases hb:Nat.beq f k with
 |true=>
  rw[hb]at h;rw[Nat.eq_of_beq_eq_true hb];exact g h
 |false=>
  rw[hb]at h;exact e h
def ZTr[REdz](g:∀q,REdz.hd=some q->Qn Tryz.prog rE 4 q)(g2:∀q,REdz.bd=some q->Qn Tryz.prog rE 7 q):EnvOk Tryz.prog rE:=
 ⟨ZTn,λf q h=>Z98 f q h,λf s h=>lfO h (g s)<|λh=>lfO h (g2 s)<|ZIF f s,λf s h=>ZX0 f s h⟩
def ZO9:EnvOk Tryz.prog (@rE ZO8):=@ZTr ZO8 (λq h=>nomatch (show(none:Option _)=some q from h))<|λq h=>nomatch (show(none:Option _)=some q from h)
def ZX1(args:List AV)(v:AV)(h:ZQX args=some v):pfn (@rE ZO8) 57 args=some v:=by
 unfold ZQX at h;split at h
 .cases h;exact @Z1W ZO8 _
 .cases h
def brA{b:Bool}{x y:Option AFun}{q:AFun}{G:Prop}(h:(bif b then x else y)=some q)(h1:x=some q->G)(h2:y=some q->G):G:=by
 cases b with
 |true=>exact h1 h
 |false=>exact h2 h
def lfQ{P:Go.Program}{f k:Nat}{a q:AFun}(h:(bif Nat.beq f k then some a else none)=some q)(g:Z0 P k a):Z0 P f q:=by
 cases b:Nat.beq f k with
 |true=>rw[b,cond_true]at h;cases h;rw[Nat.eq_of_beq_eq_true b];exact g
 |false=>rw[b]at h;cases h
def ZX2:Z0 Tryz.prog 18 a18:=Z1 a18 Tryz.func18<|by kernel_rfl
def ZX3:Z0 Tryz.prog 42 a42:=Z1 a42 Tryz.func42<|by kernel_rfl
def ZX4:Z0 Tryz.prog 104 a104:=Z1 a104 Tryz.func104<|by kernel_rfl
def ZTs(f:Nat)(q:AFun)(h:ZQh f=some q):Z0 Tryz.prog f q:=by
 unfold ZQh at h;exact(brA h (λh=>lfQ h ZX2)<|λh=>brA h (λh=>lfQ h ZX3)<|λh=>lfQ h ZX4)
def ZTt:EnvOk Tryz.prog ZOF:=
 ⟨ZO9.gl,ZO9.fn,λf s h=>lfS h (ZOh (E:=ZOF) ZO9 (λ_=>rfl)<|ZOt ZWx) λh=>lfS h (ZOh (E:=ZOF) ZO9 (λ_=>rfl)<|ZOt ZWw) λh=>ZPg (E:=@rE ZO8) (E':=ZOF) (λ_=>rfl)<|ZO9.sum f s h,
  λf s h=>ZPh (E:=@rE ZO8) (E':=ZOF) (λ_=>rfl)<|ZO9.rs f s h⟩
def ZX5:Qn Tryz.prog hdQ 43 ZP6:=ZRS (Go.Proofs.enters_of Tryz.func43 (by kernel_rfl) rfl) (λblk off cap ss w hH hb hs=>AnyM.slices_Sort_int Tryz.wq blk off cap ss w hH hb hs)<|λp cap w=>AnyM.slices_Sort_int_none Tryz.wq p cap w
def ZX6:Qn Tryz.prog (@eQ ZO8) 43 ZP6:=ZRS (Go.Proofs.enters_of Tryz.func43 (by kernel_rfl) rfl) (λblk off cap ss w hH hb hs=>AnyM.slices_Sort_int Tryz.wq blk off cap ss w hH hb hs)<|λp cap w=>AnyM.slices_Sort_int_none Tryz.wq p cap w
def ZX7:EnvOk Tryz.prog (@eQ ZO8):=
 ⟨ZO9.gl,λf q h=>brA h (ZTs f q)<|ZO9.fn f q,λf s h=>brS h (λh=>nomatch (show(none:Option _)=some s from h)) λh=>lfS h ZX6 λh=>lfS h (ZOh (E:=@eQ ZO8) ZO9 (λ_=>rfl)<|λ_ _ h=>h) λh=>lfS h (ZOh (E:=@eQ ZO8) ZO9 (λ_=>rfl)<|λ_ _ h=>h) λh=>ZPg (E:=@rE ZO8) (E':=@eQ ZO8) (λ_=>rfl)<|ZO9.sum f s h,λf s h=>ZPh (E:=@rE ZO8) (E':=@eQ ZO8) (λ_=>rfl)<|ZO9.rs f s h⟩
def ZX8:EnvOk Tryz.prog hdQ:=
 ⟨ZO9.gl,λf q h=>brA h (ZTs f q)<|ZO9.fn f q,λf s h=>brS h (λh=>nomatch (show(none:Option _)=some s from h)) λh=>lfS h ZX5 λh=>ZPg (E:=ZOF) (E':=hdQ) (λ_=>rfl)<|ZTt.sum f s h,λf s h=>ZPh (E:=@rE ZO8) (E':=hdQ) (λ_=>rfl)<|ZO9.rs f s h⟩
def ZX9:EnvOk Tryz.prog ZPf:=
 ⟨ZO9.gl,ZO9.fn,λf s h=>lfS h (ZOh (E:=ZPf) ZX8 (λ_=>rfl)<|ZOt ZWy) λh=>ZPg (E:=ZOF) (E':=ZPf) (λ_=>rfl)<|ZTt.sum f s h,
  λf s h=>ZPh (E:=@rE ZO8) (E':=ZPf) (λ_=>rfl)<|ZO9.rs f s h⟩
def ZPH:EnvOk Tryz.prog ZO4:=
 ⟨ZO9.gl,ZO9.fn,λf s h=>lfS h (ZOh (E:=ZO4) ZO9 (λ_=>rfl) ZX1) λh=>ZPg (E:=ZPf) (E':=ZO4) (λ_=>rfl)<|ZX9.sum f s h,λf s h=>ZPh (E:=@rE ZO8) (E':=ZO4) (λ_=>rfl)<|ZO9.rs f s h⟩
def ZPI:EnvOk Tryz.prog ZO6:=
 ⟨ZO9.gl,ZO9.fn,λf s h=>lfS h (ZOh (E:=ZO6) ZPH (λ_=>rfl)<|ZOt ZWz) λh=>lfS h (ZOh (E:=ZO6) ZPH (λ_=>rfl)<|ZOt ZWA) λh=>lfS h (ZOh (E:=ZO6) ZPH (λ_=>rfl)<|ZOt ZWB) λh=>lfS h (ZOh (E:=ZO6) ZPH (λ_=>rfl)<|ZOt ZWC) λh=>lfS h (ZOh (E:=ZO6) ZPH (λ_=>rfl)<|ZOt ZWD) λh=>ZPg (E:=ZO4) (E':=ZO6) (λ_=>rfl)<|ZPH.sum f s h,
  λf s h=>ZPh (E:=@rE ZO8) (E':=ZO6) (λ_=>rfl)<|ZO9.rs f s h⟩
def ZXa:EnvOk Tryz.prog ZOG:=
 ⟨ZO9.gl,ZO9.fn,λf s h=>lfS h (ZOh (E:=ZOG) ZPI (λ_=>rfl)<|ZOt ZWF) λh=>lfS h (ZOh (E:=ZOG) ZPI (λ_=>rfl)<|ZOt ZWG) λh=>lfS h (ZOh (E:=ZOG) ZPI (λ_=>rfl)<|ZOt ZWE) λh=>lfS h (ZOh (E:=ZOG) ZPI (λ_=>rfl)<|ZOt ZWH) λh=>lfS h (ZOh (E:=ZOG) ZPI (λ_=>rfl)<|ZOt ZWI) λh=>ZPg (E:=ZO6) (E':=ZOG) (λ_=>rfl)<|ZPI.sum f s h,
  λf s h=>ZPh (E:=@rE ZO8) (E':=ZOG) (λ_=>rfl)<|ZO9.rs f s h⟩
def ZPY(args:List AV):Option AV:=match args with|[]=>some (.bool true)|_=>none
def ZXb(args:List AV)(v:AV)(h:ZPY args=some v):pfn ZOG 4 args=some v:=by
 unfold ZPY at h;split at h
 .cases h;exact ZWJ
 .cases h
noncomputable def bdG(args:List AV):Option AV:=pfn (@eQ ZO8) 7 args
@[reducible] noncomputable def R1:REdz:=⟨some<|ZOc ZPY,some<|ZOc bdG⟩
def ZXc:EnvOk Tryz.prog (@rE R1):=@ZTr R1 (λq h=>by
 obtain rfl:ZOc ZPY=q:=Option.some.inj h;exact ZOh (E:=@rE R1) ZXa (λ_=>rfl) ZXb) (λq h=>by
 obtain rfl:ZOc bdG=q:=Option.some.inj h;exact ZOh (E:=@rE R1) ZX7 (λ_=>rfl)<|λ_ _ h=>h)
def ZXd:pfn (@rE R1) 4 []=some (.bool true):=by
 unfold pfn;rw[V8 (E:=@rE R1) (s:=ZOc ZPY) rfl];rfl
def hB1:@ZQV R1:=λex e2 l C ho hC=>by
 letI:REdz:=R1
 have hcl:Z4 [ofA ex l,.isl false e2 1<|C.map I]=true:=by simp[Z4,clean,ZP0,ZPu]
 have h:=@ZVU ZO8 ex e2 l C ho hC;refine⟨λc=>ZQi (E:=@rE R1) (g:=bdG) rfl hcl (h.1 c) rfl,λc=>?_⟩
 obtain⟨L,G,h1,h2,h3,h4,h5⟩:=h.2 c;exact⟨L,G,h1,h2,h3,h4,ZQi (E:=@rE R1) (g:=bdG) rfl hcl h5 rfl⟩
end Go.Proofs.YtaeppjlndecijabGreatDoor
namespace Go.Proofs.YtaeppjlndecijabGreatDoor
open Go.AM
def ZCK:sig Tryz.prog 10 Tryz.f3.params.toList=some ZRb:=by kernel_rfl
def Z9l(W:Go.World)(h:Go.laidMetH Tryz.prog Rows.routeEndsRow.laid W):GlR (@rE R1) T0 (X0 Tryz.prog) W:=by
 rw[Z65]at h;exact λg=>ZWP h g
theorem routeEnds_card:Rows.RouteEndsCardSaid:=ZCI ZXc Z9l (n:=10) (S:=ZRb) rfl ZCK (@ZCJ R1 ZXd hB1)
end Go.Proofs.YtaeppjlndecijabGreatDoor
