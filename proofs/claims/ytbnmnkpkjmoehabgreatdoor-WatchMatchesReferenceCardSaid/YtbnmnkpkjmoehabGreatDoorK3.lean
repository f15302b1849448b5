/- WatchMatchesReference holds for all its arguments. No condition. -/
import Derived.Test.YtbnmnkpkjmoehabGreatDoorT3
import Derived.Test.YtbnmnkpkjmoehabGreatDoorQ5
import Derived.Test.YtbnmnkpkjmoehabGreatDoorP3d
import Derived.Test.YtbnmnkpkjmoehabGreatDoorH3
import Derived.Test.YtbnmnkpkjmoehabGreatDoorR3
import Derived.Shelf.Small.Utf8
import Derived.Shelf.Small.Bits
import Derived.Shelf.Small.Strs
import Derived.Shelf.Utf8.RuneCount
import Derived.Shelf.Strconv.Atoi
import Derived.Shelf.Strconv.Itoa0
import Derived.Shelf.Strconv.Itoa1
import Derived.Shelf.LaysM
import Derived.Shelf.Strconv.Itoa2
import Derived.Shelf.Strconv.Itoa3
import Derived.Shelf.Strconv.AtoiErrFast
import Derived.Shelf.Strconv.ParseIntEmpty
import Derived.Shelf.Strconv.AtoiFail
import Derived.Shelf.Strconv.Clone
import Derived.Shelf.Strconv.SyntaxError
import Derived.Shelf.LaysC
import Derived.Shelf.Strconv.ToError
import Derived.Shelf.Strconv.AtoiErr
import Derived.Shelf.Strconv.ErrVar
import Derived.Shelf.Strconv.Lower
import Derived.Shelf.Strconv.ParseUint10
import Derived.Shelf.Strconv.ParseUint10Empty
import Derived.Shelf.Strconv.ParseUint10Any
import Derived.Shelf.Strconv.ParseInt10
import Derived.Shelf.Strconv.AtoiLong
import Derived.Shelf.Strconv.AtoiInnerAll
import Derived.Shelf.Strconv.RangeError
import Derived.Shelf.Strconv.ToErrorRange
import Derived.Shelf.Strconv.AtoiAll
import Derived.Shelf.Strconv.ParseUintEmpty
import Derived.Shelf.Strconv.ParseUint10b64
import Derived.Shelf.Strconv.ParseUint10b32
import Derived.Shelf.Strconv.ParseUint10b16
import Derived.Shelf.Strconv.ParseUint10b8
import Derived.Shelf.Strconv.ParseUint10At
import Derived.Shelf.Strconv.ParseInt10At64
import Derived.Shelf.Strconv.ParseInt10At32
import Derived.Shelf.Strconv.ParseInt10At16
import Derived.Shelf.Strconv.ParseInt10At8
import Derived.Shelf.Strconv.ParseInt10All
import Derived.Shelf.Strings.Search1
import Derived.Shelf.Strings.Search2
import Derived.Shelf.Strings.Search3
import Derived.Shelf.Strings.Count
import Derived.Shelf.Strings.Shaped
import Derived.Shelf.Sort.Plain
import Derived.Shelf.Strings.Prefix
import Derived.Shelf.Strings.Split
import Derived.Shelf.Strings.SplitShaped
import Derived.Shelf.Unicode.Decode
import Derived.Shelf.Strings.Runes
import Derived.Shelf.Strings.RuneCount
import Derived.Shelf.Strings.IndexAny
import Derived.Shelf.Strings.AsciiSet
import Derived.Shelf.Strings.IndexAnyAll
import Derived.Shelf.Strings.Explode
import Derived.Shelf.Unicode.DecodeSlow
import Derived.Shelf.Unicode.DecodeAny
import Derived.Shelf.Slices.Turned
import Derived.Shelf.Slices.Equal
import Derived.Ground.Names2Prog
import Derived.Shelf.Slices.Clone
import Derived.Shelf.Slices.CompactS
import Derived.Shelf.Slices.Cells
import Derived.Shelf.Slices.In.SortNone
import Derived.Shelf.Slices.Empties2
import Derived.Ground.SlgnProg
import Derived.Shelf.SlicesE.Clone
import Derived.Ground.SlsfProg
import Derived.Shelf.SlSortCmp.Insertion
import Derived.Shelf.SlSortCmp.SiftDown1
import Derived.Shelf.SlSortCmp.HeapSort1
import Derived.Shelf.SlSortCmp.Insertion1
import Derived.Shelf.SlSortCmp.Median1
import Derived.Shelf.SlSortCmp.Pivot1
import Derived.Shelf.SlSortCmp.ReverseRange1
import Derived.Shelf.SlSortCmp.PartialInsertion1
import Derived.Shelf.SlSortCmp.PartitionEqual1
import Derived.Shelf.SlSortCmp.Partition1
import Derived.Shelf.SlSortCmp.Pdq1
import Derived.Shelf.SlSortCmp.Whole1
import Derived.Shelf.SlSortCmp.NoneTotal
import Derived.Shelf.SortM.Plain
import Derived.Shelf.SortM.SortNone
import Derived.Shelf.SlSortCmp.WholeK
import Derived.Lib.AtoiErrMem
set_option linter.unusedVariables false
set_option linter.defProp false
set_option linter.unusedSimpArgs false
set_option linter.unusedSectionVars false
namespace Go.AM
open Go
def Mb{α:Type}{f:α->AV}:∀{l:List AV},(∀x∈l,∃y,x=f y)->∃m:List α,l=m.map f
 |[],_=>⟨[],rfl⟩
 |x::r,h=>by
  obtain⟨y,rfl⟩:=h x<|List.mem_cons_self ..;obtain⟨m,rfl⟩:=Mb<|λz hz=>h z<|List.mem_cons_of_mem _ hz
  exact⟨y::m,rfl⟩
def YY{s:CSh}{ss:List CSh}{l:List AV}:Wcs (s::ss) l↔∃a r,l=a::r/\Wc s a/\Wcs ss r:=by rw[Wcs]
def Xo{l:List AV}:Wcs [] l↔l=[]:=by rw[Wcs]
def ZQ{k:IntKind}{a:AV}(h:Wc (.int k) a):∃n,a=.int k n:=by rw[Wc]at h;obtain⟨n,h,_⟩:=h;exact⟨n,h⟩
def Y4{a:AV}(h:Wc .str a):∃s:ByteArray,a=.str s:=by rw[Wc]at h;obtain⟨n,h,_⟩:=h;exact⟨n,h⟩
def YB{α:Type}{f:α->AV}{es:List CSh}{a:AV}(hd:∀cs,Wcs es cs->∃y,AV.agg cs=f y)(h:Wc (.sl true es) a):∃m:List α,a=.isl false false es.length (m.map f):=by
 rw[Wc]at h;obtain⟨xs,rfl,_,h2⟩:=h;obtain⟨m,rfl⟩:=Mb (f:=f) (l:=xs) (λx hx=>by
  obtain⟨cs,rfl,h3⟩:=(h2 x hx).1 rfl;exact hd cs h3)
 exact⟨m,rfl⟩
def C8{α:Type}{f:α->AV}{s:CSh}{a:AV}(hd:∀x,Wc s x->∃y,x=f y)(h:Wc (.sl false [s]) a):∃m:List α,a=.isl false false 1 (m.map f):=by
 rw[Wc]at h;obtain⟨xs,rfl,_,h2⟩:=h;obtain⟨m,rfl⟩:=Mb (f:=f) (l:=xs) (λx hx=>by
  have h3:=(h2 x hx).2 rfl;rw[YY]at h3;obtain⟨a,r,h4,h5,h6⟩:=h3;rw[Xo]at h6;subst h6;cases h4;exact hd x h5)
 exact⟨m,rfl⟩
abbrev iS:CSh:=.int .i64
abbrev ptS:List CSh:=[iS,iS]
abbrev nmS:List CSh:=[.str,iS,.str]
abbrev ZSR:List CSh:=[.str,iS,iS,.sl true ptS,.sl true nmS,iS]
abbrev C9:List CSh:=[.str,iS,.sl true ptS,.sl true nmS,iS]
abbrev buS:List CSh:=[.str,iS,.sl true ptS,iS]
abbrev ZSS:List CSh:=[.str,.str,.str,iS,iS,.str,iS,iS,iS,iS,iS,iS,.sl false [.str],iS,iS,.str]
abbrev unS:List CSh:=[.str,.str,.str,iS,iS,iS]
abbrev sS:List CSh:=[.sl true ZSR,.sl true C9,.sl true buS,.sl true ZSS,.sl true unS,.sl true ptS,.sl true ptS]
def HQ(cs:List AV)(h:Wcs ptS cs):∃y:Pt,AV.agg cs=y.enc:=by
 simp only[YY,Xo]at h;obtain⟨a,_,rfl,h1,b,_,rfl,h2,rfl⟩:=h;obtain⟨x,rfl⟩:=ZQ h1;obtain⟨y,rfl⟩:=ZQ h2;exact⟨⟨x,y⟩,rfl⟩
def Ca(cs:List AV)(h:Wcs ptS cs):∃y:bf,AV.agg cs=y.enc:=by
 simp only[YY,Xo]at h;obtain⟨a,_,rfl,h1,b,_,rfl,h2,rfl⟩:=h;obtain⟨x,rfl⟩:=ZQ h1;obtain⟨y,rfl⟩:=ZQ h2;exact⟨⟨x,y⟩,rfl⟩
def Mc(cs:List AV)(h:Wcs nmS cs):∃y:Nm,AV.agg cs=y.enc:=by
 simp only[YY,Xo]at h;obtain⟨a,_,rfl,h1,b,_,rfl,h2,c,_,rfl,h3,rfl⟩:=h;obtain⟨x,rfl⟩:=Y4 h1;obtain⟨y,rfl⟩:=ZQ h2;obtain⟨z,rfl⟩:=Y4 h3;exact⟨⟨x,y,z⟩,rfl⟩
def Cb(x:AV)(h:Wc .str x):∃y:Str,x=encS y:=Y4 h
def Z6f(cs:List AV)(h:Wcs ZSR cs):∃y:Gm,AV.agg cs=y.enc:=by
 simp only[YY,Xo]at h;obtain⟨_,_,rfl,h1,_,_,rfl,h2,_,_,rfl,h3,_,_,rfl,h4,_,_,rfl,h5,_,_,rfl,h6,rfl⟩:=h;obtain⟨a,rfl⟩:=Y4 h1;obtain⟨b,rfl⟩:=ZQ h2;obtain⟨c,rfl⟩:=ZQ h3;obtain⟨d,rfl⟩:=YB HQ h4;obtain⟨e,rfl⟩:=YB Mc h5;obtain⟨f,rfl⟩:=ZQ h6;exact⟨⟨a,b,c,⟨false,d⟩,⟨false,e⟩,f⟩,rfl⟩
def Z6g(cs:List AV)(h:Wcs C9 cs):∃y:Ev,AV.agg cs=y.enc:=by
 simp only[YY,Xo]at h;obtain⟨_,_,rfl,h1,_,_,rfl,h2,_,_,rfl,h4,_,_,rfl,h5,_,_,rfl,h6,rfl⟩:=h;obtain⟨a,rfl⟩:=Y4 h1;obtain⟨b,rfl⟩:=ZQ h2;obtain⟨d,rfl⟩:=YB HQ h4;obtain⟨e,rfl⟩:=YB Mc h5;obtain⟨f,rfl⟩:=ZQ h6;exact⟨⟨a,b,⟨false,d⟩,⟨false,e⟩,f⟩,rfl⟩
def Z6h(cs:List AV)(h:Wcs buS cs):∃y:Fa,AV.agg cs=y.enc:=by
 simp only[YY,Xo]at h;obtain⟨_,_,rfl,h1,_,_,rfl,h2,_,_,rfl,h4,_,_,rfl,h6,rfl⟩:=h;obtain⟨a,rfl⟩:=Y4 h1;obtain⟨b,rfl⟩:=ZQ h2;obtain⟨d,rfl⟩:=YB HQ h4;obtain⟨f,rfl⟩:=ZQ h6;exact⟨⟨a,b,⟨false,d⟩,f⟩,rfl⟩
def Z6i(cs:List AV)(h:Wcs unS cs):∃y:be,AV.agg cs=y.enc:=by
 simp only[YY,Xo]at h;obtain⟨_,_,rfl,h1,_,_,rfl,h2,_,_,rfl,h3,_,_,rfl,h4,_,_,rfl,h5,_,_,rfl,h6,rfl⟩:=h;obtain⟨a,rfl⟩:=Y4 h1;obtain⟨b,rfl⟩:=Y4 h2;obtain⟨c,rfl⟩:=Y4 h3;obtain⟨d,rfl⟩:=ZQ h4;obtain⟨e,rfl⟩:=ZQ h5;obtain⟨f,rfl⟩:=ZQ h6;exact⟨⟨a,b,c,d,e,f⟩,rfl⟩
def Z6j(cs:List AV)(h:Wcs ZSS cs):∃y:Gc,AV.agg cs=y.enc:=by
 simp only[YY,Xo]at h;obtain⟨_,_,rfl,h1,_,_,rfl,h2,_,_,rfl,h3,_,_,rfl,h4,_,_,rfl,h5,_,_,rfl,h6,_,_,rfl,h7,_,_,rfl,h8,_,_,rfl,h9,_,_,rfl,h10,_,_,rfl,h11,_,_,rfl,h12,_,_,rfl,h13,_,_,rfl,h14,_,_,rfl,h15,_,_,rfl,h16,rfl⟩:=h;obtain⟨a1,rfl⟩:=Y4 h1;obtain⟨a2,rfl⟩:=Y4 h2;obtain⟨a3,rfl⟩:=Y4 h3;obtain⟨a4,rfl⟩:=ZQ h4;obtain⟨a5,rfl⟩:=ZQ h5;obtain⟨a6,rfl⟩:=Y4 h6;obtain⟨a7,rfl⟩:=ZQ h7;obtain⟨a8,rfl⟩:=ZQ h8;obtain⟨a9,rfl⟩:=ZQ h9;obtain⟨a10,rfl⟩:=ZQ h10;obtain⟨a11,rfl⟩:=ZQ h11;obtain⟨a12,rfl⟩:=ZQ h12;obtain⟨a13,rfl⟩:=C8 Cb h13;obtain⟨a14,rfl⟩:=ZQ h14;obtain⟨a15,rfl⟩:=ZQ h15;obtain⟨a16,rfl⟩:=Y4 h16;exact⟨⟨a1,a2,a3,a4,⟨a5,a6,a7,a8⟩,⟨a9,a10⟩,a11,a12,⟨false,a13⟩,a14,a15,a16⟩,rfl⟩
def Z6k(cs:List AV)(h:Wcs sS cs):∃s:Sta,AV.agg cs=stA s:=by
 simp only[YY,Xo]at h;obtain⟨_,_,rfl,h1,_,_,rfl,h2,_,_,rfl,h3,_,_,rfl,h4,_,_,rfl,h5,_,_,rfl,h6,_,_,rfl,h7,rfl⟩:=h;obtain⟨a1,rfl⟩:=YB Z6f h1;obtain⟨a2,rfl⟩:=YB Z6g h2;obtain⟨a3,rfl⟩:=YB Z6h h3;obtain⟨a4,rfl⟩:=YB Z6j h4;obtain⟨a5,rfl⟩:=YB Z6i h5;obtain⟨a6,rfl⟩:=YB Ca h6;obtain⟨a7,rfl⟩:=YB Ca h7;exact⟨⟨a1,a2,a3,a4,a5,a6,a7⟩,rfl⟩
def Zxg{s:CSh}{a:AV}(h:Wcs [s] [a]):Wc s a:=by
 rw[YY]at h;obtain⟨_,_,e,k,_⟩:=h;cases e;exact k
def ZPk{ag:Bool}{es:List CSh}{n:Nat}{xs:List AV}(h:Wc (.sl ag es)<|.isl false false n xs)(hb:0<byS es):xs.length<=1152921504606846976:=by
 rw[Wc]at h;obtain⟨ys,e,hl,_⟩:=h;cases e;have e2:reachBytes<=1152921504606846976:=by decide
 have:=Nat.le_mul_of_pos_right xs.length hb;omega
def ZW4{α:Type}{f:α->AV}{Q:α->Prop}{es:List CSh}{a:AV}(hd:∀cs,Wcs es cs->∃y,AV.agg cs=f y/\Q y)(h:Wc (.sl true es) a):∃m:List α,a=.isl false false es.length (m.map f)/\∀y∈m,Q y:=by
 rw[Wc]at h;obtain⟨xs,rfl,hl,h2⟩:=h
 suffices G:∀l:List AV,(∀x∈l,∃y,x=f y/\Q y)->∃m:List α,l=m.map f/\∀y∈m,Q y by
  obtain⟨m,rfl,hm⟩:=G xs (λx hx=>by
   obtain⟨cs,rfl,h3⟩:=(h2 x hx).1 rfl;exact hd cs h3)
  exact⟨m,rfl,hm⟩
 intro l;induction l with
 |nil=>intro _;exact⟨[],rfl,λy hy=>by cases hy⟩
 |cons x r ih=>
  intro h;obtain⟨y,rfl,hq⟩:=h x<|List.mem_cons_self ..;obtain⟨m,rfl,hm⟩:=ih<|λz hz=>h z<|List.mem_cons_of_mem _ hz
  refine⟨y::m,rfl,λz hz=>?_⟩
  rcases List.mem_cons.1 hz with rfl|hz
  .exact hq
  .exact hm z hz
abbrev waS:List CSh:=[.str,.str]
abbrev edS:List CSh:=[.str,iS,iS]
abbrev plS:List CSh:=[.str,.str,.str,.str,.str,iS,.str,iS,iS,iS,iS]
abbrev ZST:List CSh:=[.sl false [.str],.sl true edS]
abbrev noS:List CSh:=[.str,.sl false [.str],.sl true edS,.sl false [.str],.sl true edS,.bool,.sl true plS,.sl true plS]
def ZMM(cs:List AV)(h:Wcs waS cs):∃w:Wch,AV.agg cs=w.enc:=by
 simp only[YY,Xo]at h;obtain⟨a,_,rfl,h1,b,_,rfl,h2,rfl⟩:=h;obtain⟨x,rfl⟩:=Y4 h1;obtain⟨y,rfl⟩:=Y4 h2;exact⟨⟨x,y⟩,rfl⟩
def ZQE(cs:List AV)(h:Wcs edS cs):∃w:Endz,AV.agg cs=w.enc:=by
 simp only[YY,Xo]at h;obtain⟨a,_,rfl,h1,b,_,rfl,h2,c,_,rfl,h3,rfl⟩:=h;obtain⟨x,rfl⟩:=Y4 h1;obtain⟨y,rfl⟩:=ZQ h2;obtain⟨z,rfl⟩:=ZQ h3;exact⟨⟨x,y,z⟩,rfl⟩
def ZQF(cs:List AV)(h:Wcs plS cs):∃w:Plc,AV.agg cs=w.enc:=by
 simp only[YY,Xo]at h;obtain⟨_,_,rfl,h1,_,_,rfl,h2,_,_,rfl,h3,_,_,rfl,h4,_,_,rfl,h5,_,_,rfl,h6,_,_,rfl,h7,_,_,rfl,h8,_,_,rfl,h9,_,_,rfl,h10,_,_,rfl,h11,rfl⟩:=h;obtain⟨a1,rfl⟩:=Y4 h1;obtain⟨a2,rfl⟩:=Y4 h2;obtain⟨a3,rfl⟩:=Y4 h3;obtain⟨a4,rfl⟩:=Y4 h4;obtain⟨a5,rfl⟩:=Y4 h5;obtain⟨a6,rfl⟩:=ZQ h6;obtain⟨a7,rfl⟩:=Y4 h7;obtain⟨a8,rfl⟩:=ZQ h8;obtain⟨a9,rfl⟩:=ZQ h9;obtain⟨a10,rfl⟩:=ZQ h10;obtain⟨a11,rfl⟩:=ZQ h11;exact⟨⟨a1,a2,a3,a4,a5,⟨a6,a7,a8,a9⟩,⟨a10,a11⟩⟩,rfl⟩
def ZW5(cs:List AV)(h:Wcs noS cs):∃n:Ntc,AV.agg cs=n.enc/\NtS n:=by
 simp only[YY,Xo]at h;obtain⟨_,_,rfl,h1,_,_,rfl,h2,_,_,rfl,h3,_,_,rfl,h4,_,_,rfl,h5,_,_,rfl,h6,_,_,rfl,h7,_,_,rfl,h8,rfl⟩:=h;obtain⟨a1,rfl⟩:=Y4 h1;obtain⟨a2,rfl⟩:=C8 Cb h2;have l2:=ZPk h2<|by decide
 obtain⟨a3,rfl⟩:=YB ZQE h3;have l3:=ZPk h3<|by decide
 obtain⟨a4,rfl⟩:=C8 Cb h4;have l4:=ZPk h4<|by decide
 obtain⟨a5,rfl⟩:=YB ZQE h5;have l5:=ZPk h5<|by decide
 rw[Wc]at h6;obtain⟨a6,rfl⟩:=h6;obtain⟨a7,rfl⟩:=YB ZQF h7;have l7:=ZPk h7<|by decide
 obtain⟨a8,rfl⟩:=YB ZQF h8;have l8:=ZPk h8<|by decide
 rw[List.length_map]at l2 l3 l4 l5 l7 l8;exact⟨⟨a1,a2,a3,a4,a5,a6,a7,a8⟩,rfl,l2,l3,l4,l5,l7,l8⟩
def ZW6{a:AV}(h:∃cs,a=.agg cs/\Wcs ZST cs):∃(D:List Str)(E:List Endz),a=ftA false false D E:=by
 obtain⟨cs,rfl,h⟩:=h;simp only[YY,Xo]at h;obtain⟨_,_,rfl,h1,_,_,rfl,h2,rfl⟩:=h;obtain⟨D,rfl⟩:=C8 Cb h1;obtain⟨E,rfl⟩:=YB ZQE h2;exact⟨D,E,rfl⟩
def ZMa{a:AV}(h:∃cs,a=.agg cs/\Wcs sS cs):∃s:Sta,a=stA s:=by
 obtain⟨cs,rfl,k⟩:=h;exact Z6k cs k
abbrev ZQG:List (Bool×List CSh):=[(true,sS),(true,sS),(false,[.sl true waS]),(true,ZST),(false,[.sl true plS]),(false,[.sl true noS])]
def ZCJ[REdz](hup:pfn rE 4 []=some (.bool true))(xs:List AV)(h:Wvs ZQG xs):pfn rE 3 xs=some (.bool true):=by
 obtain⟨x,_,rfl,h1,_,y,_,rfl,h2,_,z,_,rfl,_,h3,u,_,rfl,h4,_,v,_,rfl,_,h5,w,_,rfl,_,h6,h7⟩:=h;have h7':_=[]:=h7;subst h7';obtain⟨a,rfl⟩:=ZMa<|h1 rfl;obtain⟨b,rfl⟩:=ZMa<|h2 rfl;obtain⟨l,rfl⟩:=YB ZMM<|Zxg<|h3 rfl;obtain⟨D,E,rfl⟩:=ZW6<|h4 rfl;obtain⟨P,rfl⟩:=YB ZQF<|Zxg<|h5 rfl;obtain⟨N,rfl,hN⟩:=ZW4 ZW5<|Zxg<|h6 rfl;exact ZCp hup a b l ⟨D,E,P⟩ N hN
end Go.AM
namespace Go.Proofs
open Go.Proofs.Tryz
open Go.Shelf
def Tryz.lays137_ren:Go.Shelf.Ren:=⟨λ|137=>249|217=>290|266=>327|n=>n,λ|9=>9|5=>5|3=>3|n=>n,λ|n=>n⟩
def Tryz.lays137:Go.Proofs.Lays.n137 Tryz.prog Tryz.lays137_ren:=by
 constructor
 all_goals (intros;kernel_rfl)
open Go.RowKit in
def Tryz.strings_IndexByte(s:ByteArray)(c:Int)(w:World):
 Calls Tryz.prog 249 #[.string s,.int .u8 c] w λe w'=>e=.returned (.int .i64<|Lib.indexByte s.data.toList c.toNat.toUInt8)/\w'=w:=Any.strings_IndexByte Tryz.lays137 s c w
def Tryz.lays172_ren:Go.Shelf.Ren:=⟨λ|172=>250|244=>291|245=>292|247=>328|279=>329|280=>330|281=>331|282=>332|287=>350|316=>351|171=>353|205=>352|321=>362|322=>363|243=>364|246=>369|283=>372|284=>373|285=>374|286=>375|129=>244|317=>377|318=>378|319=>379|320=>380|337=>381|338=>382|n=>n,λ|9=>9|3=>3|75=>263|76=>264|4=>4|5=>5|167=>321|37=>322|0=>0|85=>323|2=>2|168=>325|53=>257|175=>345|46=>205|210=>348|127=>356|145=>359|143=>357|21=>21|171=>364|173=>366|212=>375|51=>255|20=>20|213=>376|232=>377|233=>378|80=>379|n=>n,λ|15=>1|16=>2|17=>5|18=>6|19=>7|n=>n⟩
def Tryz.lays172:Go.Proofs.Lays.n172 Tryz.prog Tryz.lays172_ren:=by
 constructor
 all_goals (intros;kernel_rfl)
open Go.RowKit in
def Tryz.strconv_Atoi(s:ByteArray)(n:Int)(hl:s.size<=18)(h:Lib.atoi s.data.toList=some n)(w:World):
 Calls Tryz.prog 250 #[.string s] w λe w'=>e=.returned (.tuple #[.int .i64 n,.nilIface])/\∃t,w'=Lib.bytesWorld w 5 t:=Any.strconv_Atoi Tryz.lays172 s n hl h w
def Tryz.lays190_ren:Go.Shelf.Ren:=⟨λ|190=>87|125=>163|258=>162|128=>243|129=>244|302=>234|303=>235|304=>236|305=>237|306=>238|307=>239|308=>240|309=>241|310=>242|333=>285|329=>286|330=>287|334=>288|335=>289|336=>254|344=>326|n=>n,λ|31=>31|9=>9|3=>3|46=>205|0=>0|51=>255|53=>257|4=>4|183=>247|182=>246|131=>252|5=>5|218=>281|222=>285|228=>318|229=>319|n=>n,λ|n=>n⟩
def Tryz.lays190:Go.Proofs.Lays.n190 Tryz.prog Tryz.lays190_ren:=by
 constructor
 all_goals (intros;kernel_rfl)
open Go.Sort Go.RowKit in
def Tryz.slices_Sort_string(blk off cap:Nat)(ss:List<|List UInt8)(w:World)(hH:Holds encStr w blk off ss.toArray)(hblk:blk<w.heap.size)(hsz:ss.length<4611686018427387904):
 Calls Tryz.prog 87 #[.slice (some ⟨blk,off,none⟩) ss.length cap] w λe w'=>
  e=.returned (.tuple #[])/\∃n os,w'=grow (putRow encStr (Sort.ahead w n) blk off (ss.mergeSort λx y=>decide (x<=y)).toArray) os:=Any.slices_Sort_string Tryz.lays190 blk off cap ss w hH hblk hsz
def Tryz.lays146_ren:Go.Shelf.Ren:=⟨λ|146=>320|221=>348|268=>359|138=>360|143=>361|195=>365|197=>366|218=>367|219=>368|260=>370|217=>290|225=>335|224=>334|267=>371|266=>327|314=>376|n=>n,λ|9=>9|31=>31|3=>3|4=>4|0=>0|105=>361|21=>21|5=>5|46=>205|119=>368|139=>371|138=>370|146=>372|51=>255|n=>n,λ|1=>0|3=>3|4=>4|n=>n⟩
def Tryz.lays146:Go.Proofs.Lays.n146 Tryz.prog Tryz.lays146_ren:=by
 constructor
 all_goals (intros;kernel_rfl)
def Tryz.lays153_ren:Go.Shelf.Ren:=⟨λ|153=>251|152=>293|226=>294|227=>295|228=>296|137=>249|119=>333|224=>334|225=>335|217=>290|266=>327|n=>n,λ|9=>9|3=>3|4=>4|5=>5|21=>21|117=>291|116=>290|0=>0|46=>205|124=>328|n=>n,λ|n=>n⟩
def Tryz.lays153:Go.Proofs.Lays.n153 Tryz.prog Tryz.lays153_ren:=by
 constructor
 all_goals (intros;kernel_rfl)
def Tryz.laysNm216_ren:Go.Shelf.Ren:=⟨λ|16=>86|n=>n,λ|24=>31|9=>9|4=>4|n=>n,λ|n=>n⟩
def Tryz.laysNm216:Go.Proofs.Lays2.n16 Tryz.prog Tryz.laysNm216_ren:=by
 constructor
 all_goals (intros;kernel_rfl)
open Go.RowKit Go.Lib in
def Tryz.slices_Clone_string_nil(n c:Nat)(w:World):
 Calls Tryz.prog 86 #[.slice none n c] w λe w'=>e=.returned (.slice none 0 0)/\w'=w:=Any.slices_Clone_string_nil Tryz.laysNm216 n c w
open Go.RowKit Go.Lib in
def Tryz.slices_Clone_string_zero(a:Addr)(c:Nat)(w:World):
 Calls Tryz.prog 86 #[.slice (some a) 0 c] w λe w'=>∃v',e=.returned v'/\w'.ownsRow w.heap.size 9 1 v' 0 []/\v'≠.slice none 0 0/\Below w.heap.size w w':=Any.slices_Clone_string_zero Tryz.laysNm216 a c w
def Tryz.lays194_ren:Go.Shelf.Ren:=⟨λ|194=>88|n=>n,λ|31=>31|9=>9|3=>3|4=>4|0=>0|n=>n,λ|n=>n⟩
def Tryz.lays194:Go.Proofs.Lays.n194 Tryz.prog Tryz.lays194_ren:=by
 constructor
 all_goals (intros;kernel_rfl)
open Go.RowKit Go.Lib Go.Sort in
def Tryz.slices_Compact_string(blk off cap:Nat)(zs:List<|List UInt8)(w:World)(hH:Holds encStr w blk off zs.toArray)(hsz:zs.length<=9223372036854775807)(hcap:zs.length<=cap):
 Calls Tryz.prog 88 #[.slice (some ⟨blk,off,none⟩) zs.length cap] w λe w'=>e=.returned (.slice (some ⟨blk,off,none⟩) (Lib.compact zs).length cap)/\∃q,w'=putRow encStr (Sort.ahead w q) blk off (Lib.compact zs++List.replicate (zs.length-(Lib.compact zs).length) []).toArray:=Any.slices_Compact_string Tryz.lays194 blk off cap zs w hH hsz hcap
open Go.RowKit Go.Lib Go.Sort in
def Tryz.slices_Compact_string_empty(a:Option Addr)(cap:Nat)(w:World):
 Calls Tryz.prog 88 #[.slice a 0 cap] w λe w'=>e=.returned (.slice a 0 cap)/\w'=w:=Any.slices_Compact_string_empty Tryz.lays194 a cap w
open Go.RowKit Go.Sort in
def Tryz.slices_Sort_string_none(p:Option Addr)(cap:Nat)(w:World):
 Calls Tryz.prog 87 #[.slice p 0 cap] w λe w'=>e=.returned (.tuple #[])/\w'=w:=Any.slices_Sort_string_none Tryz.lays190 p cap w
def Tryz.laysSlE041_f86_ren:Go.Shelf.Ren:=⟨λ|41=>86|n=>n,λ|22=>31|23=>9|4=>4|n=>n,λ|n=>n⟩
def Tryz.laysSlE041_f86:Go.Proofs.SlLaysE0.n41 Tryz.prog Tryz.laysSlE041_f86_ren:=by
 constructor
 case f41=>exact⟨f86.name,by decide,func86.trans<|congrArg some<|by kernel_rfl⟩
 all_goals (intros;kernel_rfl)
open Go.RowKit Go.Lib in
def Tryz.slices_Clone(i0:TypeInfo)(z:Value)(size bytes:Nat)(hi:Tryz.prog.info? 9=some i0)(hz0:i0.zero=some z)(hz1:i0.size=size)(hz2:i0.bytes=bytes)(hzs:z.cells.size=size)(hsz:0<size)(z23:∀w,(Go.sizeOf 9).run Tryz.prog w=.ok size w)(b off n c:Nat)(news:List Value)(w:World)(hl:news.length=n*size)(hn:n<=maxLen)(hbig:n*bytes<=140737488355328)(hc:∀j u,news[j]?=some u->w.cell? ⟨b,off+j,none⟩=some u)(h1:∀u∈news,u.oneCell'=true):
 Calls Tryz.prog 86 #[.slice (some ⟨b,off,none⟩) n c] w λe w'=>∃v',e=.returned v'/\w'.ownsRow w.heap.size 9 size v' n news/\v'≠.slice none 0 0/\Below w.heap.size w w':=AnyE.slices_Clone Tryz.laysSlE041_f86 i0 z size bytes hi hz0 hz1 hz2 hzs hsz z23 b off n c news w hl hn hbig hc h1
def Tryz.laysSlF6_f170_ren:Go.Shelf.Ren:=⟨λ|6=>170|15=>163|14=>253|28=>243|29=>244|20=>298|21=>299|22=>300|23=>301|24=>302|25=>303|26=>304|27=>305|46=>336|47=>286|48=>287|49=>337|50=>338|57=>354|n=>n,λ|22=>31|24=>9|25=>216|3=>3|39=>205|0=>0|53=>255|55=>257|4=>4|46=>247|45=>246|50=>252|5=>5|9=>9|66=>281|70=>285|76=>318|77=>319|n=>n,λ|n=>n⟩
def Tryz.laysSlF6_f170:Go.Proofs.SlLaysF.n6 Tryz.prog Tryz.laysSlF6_f170_ren:=by
 constructor
 case f6=>exact⟨f170.name,by decide,func170.trans<|congrArg some<|by kernel_rfl⟩
 case f14=>exact⟨f253.name,by decide,func253.trans<|congrArg some<|by kernel_rfl⟩
 case f20=>exact⟨f298.name,by decide,func298.trans<|congrArg some<|by kernel_rfl⟩
 case f21=>exact⟨f299.name,by decide,func299.trans<|congrArg some<|by kernel_rfl⟩
 case f22=>exact⟨f300.name,by decide,func300.trans<|congrArg some<|by kernel_rfl⟩
 case f23=>exact⟨f301.name,by decide,func301.trans<|congrArg some<|by kernel_rfl⟩
 case f24=>exact⟨f302.name,by decide,func302.trans<|congrArg some<|by kernel_rfl⟩
 case f25=>exact⟨f303.name,by decide,func303.trans<|congrArg some<|by kernel_rfl⟩
 case f26=>exact⟨f304.name,by decide,func304.trans<|congrArg some<|by kernel_rfl⟩
 case f27=>exact⟨f305.name,by decide,func305.trans<|congrArg some<|by kernel_rfl⟩
 case f46=>exact⟨f336.name,by decide,func336.trans<|congrArg some<|by kernel_rfl⟩
 case f49=>exact⟨f337.name,by decide,func337.trans<|congrArg some<|by kernel_rfl⟩
 case f50=>exact⟨f338.name,by decide,func338.trans<|congrArg some<|by kernel_rfl⟩
 case f57=>exact⟨f354.name,by decide,func354.trans<|congrArg some<|by kernel_rfl⟩
 all_goals (intros;kernel_rfl)
open Go.RowKit Go.Lib Go.Sort in
def Tryz.slices_SortFunc{α:Type}[Inhabited α](enc:α->Value)(h1:OneCell enc)(cf:α->α->Int)(hO:SWO<|ltOf cf)(g:Nat)(cb:Array Value)(blk off cap:Nat)(d:Array α)(w:World)(eg:∀args w,(callFunc g args).run Tryz.prog w=.ok (.enter g args) w)(hcmp:CmpLays1 Tryz.prog g cb enc cf blk off d.size w)(hH:Holds enc w blk off d)(hblk:blk<w.heap.size)(hsz:d.size<4611686018427387904):
 Calls Tryz.prog 170 #[.slice (some ⟨blk,off,none⟩) d.size cap,.func (.func g) #[] cb] w λe w'=>
  e=.returned (.tuple #[])/\∃d' n os,PermIn 0 d.size d d'/\SortedIn (ltOf cf) 0 d.size d'/\w'=sortWorld enc w blk off n d' os:=Any.slices_SortFunc Tryz.laysSlF6_f170 enc h1 cf hO g cb blk off cap d w eg hcmp hH hblk hsz
def Tryz.laysSlF06_f170_ren:Go.Shelf.Ren:=⟨λ|6=>170|15=>163|14=>253|28=>243|29=>244|20=>298|21=>299|22=>300|23=>301|24=>302|25=>303|26=>304|27=>305|46=>336|47=>286|48=>287|49=>337|50=>338|57=>354|n=>n,λ|22=>31|24=>9|25=>216|3=>3|39=>205|0=>0|53=>255|55=>257|4=>4|46=>247|45=>246|50=>252|5=>5|9=>9|66=>281|70=>285|76=>318|77=>319|n=>n,λ|n=>n⟩
def Tryz.laysSlF06_f170:Go.Proofs.SlLaysF0.n6 Tryz.prog Tryz.laysSlF06_f170_ren:=by
 constructor
 case f6=>exact⟨f170.name,by decide,func170.trans<|congrArg some<|by kernel_rfl⟩
 case f14=>exact⟨f253.name,by decide,func253.trans<|congrArg some<|by kernel_rfl⟩
 case f20=>exact⟨f298.name,by decide,func298.trans<|congrArg some<|by kernel_rfl⟩
 case f21=>exact⟨f299.name,by decide,func299.trans<|congrArg some<|by kernel_rfl⟩
 case f22=>exact⟨f300.name,by decide,func300.trans<|congrArg some<|by kernel_rfl⟩
 case f23=>exact⟨f301.name,by decide,func301.trans<|congrArg some<|by kernel_rfl⟩
 case f24=>exact⟨f302.name,by decide,func302.trans<|congrArg some<|by kernel_rfl⟩
 case f25=>exact⟨f303.name,by decide,func303.trans<|congrArg some<|by kernel_rfl⟩
 case f26=>exact⟨f304.name,by decide,func304.trans<|congrArg some<|by kernel_rfl⟩
 case f27=>exact⟨f305.name,by decide,func305.trans<|congrArg some<|by kernel_rfl⟩
 case f46=>exact⟨f336.name,by decide,func336.trans<|congrArg some<|by kernel_rfl⟩
 case f49=>exact⟨f337.name,by decide,func337.trans<|congrArg some<|by kernel_rfl⟩
 case f50=>exact⟨f338.name,by decide,func338.trans<|congrArg some<|by kernel_rfl⟩
 case f57=>exact⟨f354.name,by decide,func354.trans<|congrArg some<|by kernel_rfl⟩
 all_goals (intros;kernel_rfl)
open Go.RowKit Go.Lib Go.Sort in
def Tryz.slices_SortFunc_none{α:Type}[Inhabited α](p:Option Addr)(cap:Nat)(fv:Value)(w:World):
 Calls Tryz.prog 170 #[.slice p 0 cap,fv] w λe w'=>e=.returned (.tuple #[])/\w'=w:=AnyF.slices_SortFunc_none Tryz.laysSlF06_f170 p cap fv w
end Go.Proofs
namespace Go.Proofs
open Go.Proofs.Tryz
open Go.Shelf
def Tryz.laysSlE041_f216_ren:Go.Shelf.Ren:=⟨λ|41=>216|n=>n,λ|22=>22|23=>96|4=>4|n=>n,λ|n=>n⟩
def Tryz.laysSlE041_f216:Go.Proofs.SlLaysE0.n41 Tryz.prog Tryz.laysSlE041_f216_ren:=by
 constructor
 case f41=>exact⟨f216.name,by decide,func216.trans<|congrArg some<|by kernel_rfl⟩
 all_goals (intros;kernel_rfl)
def Tryz.laysSlE041_f217_ren:Go.Shelf.Ren:=⟨λ|41=>217|n=>n,λ|22=>23|23=>80|4=>4|n=>n,λ|n=>n⟩
def Tryz.laysSlE041_f217:Go.Proofs.SlLaysE0.n41 Tryz.prog Tryz.laysSlE041_f217_ren:=by
 constructor
 case f41=>exact⟨f217.name,by decide,func217.trans<|congrArg some<|by kernel_rfl⟩
 all_goals (intros;kernel_rfl)
def Tryz.laysSlE041_f220_ren:Go.Shelf.Ren:=⟨λ|41=>220|n=>n,λ|22=>25|23=>84|4=>4|n=>n,λ|n=>n⟩
def Tryz.laysSlE041_f220:Go.Proofs.SlLaysE0.n41 Tryz.prog Tryz.laysSlE041_f220_ren:=by
 constructor
 case f41=>exact⟨f220.name,by decide,func220.trans<|congrArg some<|by kernel_rfl⟩
 all_goals (intros;kernel_rfl)
def Tryz.laysSlE041_f224_ren:Go.Shelf.Ren:=⟨λ|41=>224|n=>n,λ|22=>24|23=>82|4=>4|n=>n,λ|n=>n⟩
def Tryz.laysSlE041_f224:Go.Proofs.SlLaysE0.n41 Tryz.prog Tryz.laysSlE041_f224_ren:=by
 constructor
 case f41=>exact⟨f224.name,by decide,func224.trans<|congrArg some<|by kernel_rfl⟩
 all_goals (intros;kernel_rfl)
def Tryz.laysSlE041_f227_ren:Go.Shelf.Ren:=⟨λ|41=>227|n=>n,λ|22=>26|23=>99|4=>4|n=>n,λ|n=>n⟩
def Tryz.laysSlE041_f227:Go.Proofs.SlLaysE0.n41 Tryz.prog Tryz.laysSlE041_f227_ren:=by
 constructor
 case f41=>exact⟨f227.name,by decide,func227.trans<|congrArg some<|by kernel_rfl⟩
 all_goals (intros;kernel_rfl)
def Tryz.laysSlF06_f173_ren:Go.Shelf.Ren:=⟨λ|6=>173|15=>163|14=>255|28=>243|29=>244|20=>306|21=>307|22=>308|23=>309|24=>310|25=>311|26=>312|27=>313|46=>339|47=>286|48=>287|49=>340|50=>341|57=>355|n=>n,λ|22=>32|24=>76|25=>218|3=>3|39=>205|0=>0|53=>255|55=>257|4=>4|46=>247|45=>246|50=>252|5=>5|9=>9|66=>281|70=>285|76=>318|77=>319|n=>n,λ|n=>n⟩
def Tryz.laysSlF06_f173:Go.Proofs.SlLaysF0.n6 Tryz.prog Tryz.laysSlF06_f173_ren:=by
 constructor
 case f6=>exact⟨f173.name,by decide,func173.trans<|congrArg some<|by kernel_rfl⟩
 case f14=>exact⟨f255.name,by decide,func255.trans<|congrArg some<|by kernel_rfl⟩
 case f20=>exact⟨f306.name,by decide,func306.trans<|congrArg some<|by kernel_rfl⟩
 case f21=>exact⟨f307.name,by decide,func307.trans<|congrArg some<|by kernel_rfl⟩
 case f22=>exact⟨f308.name,by decide,func308.trans<|congrArg some<|by kernel_rfl⟩
 case f23=>exact⟨f309.name,by decide,func309.trans<|congrArg some<|by kernel_rfl⟩
 case f24=>exact⟨f310.name,by decide,func310.trans<|congrArg some<|by kernel_rfl⟩
 case f25=>exact⟨f311.name,by decide,func311.trans<|congrArg some<|by kernel_rfl⟩
 case f26=>exact⟨f312.name,by decide,func312.trans<|congrArg some<|by kernel_rfl⟩
 case f27=>exact⟨f313.name,by decide,func313.trans<|congrArg some<|by kernel_rfl⟩
 case f46=>exact⟨f339.name,by decide,func339.trans<|congrArg some<|by kernel_rfl⟩
 case f49=>exact⟨f340.name,by decide,func340.trans<|congrArg some<|by kernel_rfl⟩
 case f50=>exact⟨f341.name,by decide,func341.trans<|congrArg some<|by kernel_rfl⟩
 case f57=>exact⟨f355.name,by decide,func355.trans<|congrArg some<|by kernel_rfl⟩
 all_goals (intros;kernel_rfl)
open Go.RowKit Go.Lib Go.Sort in
def Tryz.slices_SortFuncE{α:Type}[Inhabited α](k:Nat)(aE:∀w,(isAgg 76).run Tryz.prog w=.ok true w)(zE:∀w,(Go.sizeOf 76).run Tryz.prog w=.ok k w)(enc:α->List Value)(hk:∀x,(enc x).length=k)(h1:∀x,∀v∈enc x,v.oneCell'=true)(cf:α->α->Int)(hO:SWO<|ltOf cf)(g:Nat)(cb:Array Value)(blk off cap:Nat)(d:Array α)(w:World)(eg:∀args w,(callFunc g args).run Tryz.prog w=.ok (.enter g args) w)(hcmp:CmpLays Tryz.prog g cb enc k cf blk off d.size w)(hH:HoldsK enc k w blk off d)(hblk:blk<w.heap.size)(hsz:d.size<4611686018427387904):
 Calls Tryz.prog 173 #[.slice (some ⟨blk,off,none⟩) d.size cap,.func (.func g) #[] cb] w λe w'=>
  e=.returned (.tuple #[])/\∃d' n os,PermIn 0 d.size d d'/\SortedIn (ltOf cf) 0 d.size d'/\w'=sortWorldK enc k w blk off n d' os:=AnyQ.slices_SortFunc Tryz.laysSlF06_f173 k aE zE enc hk h1 cf hO g cb blk off cap d w eg hcmp hH hblk hsz
open Go.RowKit Go.Lib Go.Sort in
def Tryz.slices_SortFuncE_none{α:Type}[Inhabited α](p:Option Addr)(cap:Nat)(fv:Value)(w:World):
 Calls Tryz.prog 173 #[.slice p 0 cap,fv] w λe w'=>e=.returned (.tuple #[])/\w'=w:=AnyF.slices_SortFunc_none Tryz.laysSlF06_f173 p cap fv w
end Go.Proofs
namespace Go.Proofs.YtbnmnkpkjmoehabGreatDoor
open Go.Proofs.Tryz
open Go.AM
def JN{P:Go.Program}{e:Go.TypeId}{sz bytes:Nat}(h:(match P.info? e with|some i=>(match i.zero with|some z=>z.cells.size==sz&&(i.size==sz&&i.bytes==bytes)|none=>false)|none=>false)=true):
 ∃i0 z,P.info? e=some i0/\i0.zero=some z/\i0.size=sz/\i0.bytes=bytes/\z.cells.size=sz:=by
 split at h
 .rename_i i hi;split at h
  .rename_i z hz;simp only[Bool.and_eq_true,beq_iff_eq]at h;exact⟨i,z,hi,hz,h.2.1,h.2.2,h.1⟩
  .cases h
 .cases h
def ZCa:OkL Tryz.prog Zz9:=ZCg _<|by kernel_rfl
def ZIA:OkL Tryz.prog ZGv:=ZCg _<|by kernel_rfl
def ZCb(f:Nat)(q:AFun)(h:Zza f=some q):Z0 Tryz.prog f q:=ZjX ZCa h
def ZIB(f:Nat)(q:AFun)(h:ZGw f=some q):Z0 Tryz.prog f q:=ZjX ZIA h
def ZCc:@EnvOk dT Tryz.prog e0:=@EnvOk.mk dT Tryz.prog e0 (λ_=>rfl) (λf q h=>ZCb f q h) (λf s h=>by cases h)<|λf s h=>by cases h
def lfS{P:Go.Program}{E:Env}{f k:Nat}{a q:List AV->Hp->Option (AV×Hp)}{r:Option (List AV->Hp->Option (AV×Hp))}(h:(bif Nat.beq f k then some a else r)=some q)(g:Qn P E k a)(e:r=some q->Qn P E f q):Qn P E f q:=by
 cases hb:Nat.beq f k with
 |true=>
  rw[hb]at h;obtain rfl:a=q:=Option.some.inj h;rw[Nat.eq_of_beq_eq_true hb];exact g
 |false=>
  rw[hb]at h;exact e h
def nnS{f:Nat}{q:List AV->Hp->Option (AV×Hp)}{P:Go.Program}{E:Env}(h:(none:Option<|List AV->Hp->Option (AV×Hp))=some q):Qn P E f q:=by cases h
def Z7f:Qn Tryz.prog e1 170 (ZEt 171<|ckS 95):=ZGL ZCc (λ_=>rfl) rfl (Go.Proofs.enters_of func170 (by kernel_rfl) rfl) ZTv
 (λenc h1 cf hO cb blk off cap d w hcmp hH hblk hsz=>Go.Proofs.Tryz.slices_SortFunc enc h1 cf hO 171 cb blk off cap d w (Go.Proofs.enters_of func171 (by kernel_rfl) rfl) hcmp hH hblk hsz)
 (λp cap fv w=>Go.Proofs.Tryz.slices_SortFunc_none (α:=Nat) p cap fv w)
def Z7i:Qn Tryz.prog e1 173 (ZvW 174 3 ZEm):=ZzO (by decide) ZCc (λ_=>rfl) rfl (Go.Proofs.enters_of func173 (by kernel_rfl) rfl) ZTw
 (λenc hk h1 cf hO cb blk off cap d w hcmp hH hblk hsz=>Go.Proofs.Tryz.slices_SortFuncE 3 (λw=>by kernel_rfl) (λw=>by kernel_rfl) enc hk h1 cf hO 174 cb blk off cap d w (Go.Proofs.enters_of func174 (by kernel_rfl) rfl) hcmp hH hblk hsz)
 (λp cap fv w=>Go.Proofs.Tryz.slices_SortFuncE_none (α:=Nat) p cap fv w)
def ZIE(f:Nat)(s:List AV->Hp->Option (AV×Hp))(h:e1.sum f=some s):Qn Tryz.prog e1 f s:=by
 change ZFE f=some s at h;unfold ZFE at h;exact lfS h Z7f λh=>lfS h Z7i nnS
def ZGs:EnvOk Tryz.prog e1:=⟨λ_=>rfl,λf q h=>ZIB f q h,ZIE,λf s h=>by cases h⟩
variable [REdz]
def ZSU:ZEs Tryz.prog rE 94 (ZE7 95):=ZFH (E:=rE) (E1:=e1) ZGs (λ_=>rfl) ZTx
def ZSV:ZEs Tryz.prog rE 96 (ZEe 97 3 ZEf):=ZFH (E:=rE) (E1:=e1) ZGs (λ_=>rfl) ZTy
def Z6G:Qn Tryz.prog rE 87 J7:=EV (Go.Proofs.enters_of func87 (by kernel_rfl) rfl) (λblk off cap ss w hH hb hs=>Go.Proofs.Tryz.slices_Sort_string blk off cap ss w hH hb hs)<|λp cap w=>Go.Proofs.Tryz.slices_Sort_string_none p cap w
def Z6H:Qn Tryz.prog rE 88 J8:=EY (Go.Proofs.enters_of func88 (by kernel_rfl) rfl) (λblk off cap zs w hH h1 h2=>Go.Proofs.Tryz.slices_Compact_string blk off cap zs w hH h1 h2)<|λp cap w=>Go.Proofs.Tryz.slices_Compact_string_empty p cap w
def ZWb:Qn Tryz.prog rE 249 U9:=EK (Go.Proofs.enters_of func249 (by kernel_rfl) rfl)<|λs c w=>Go.Proofs.Tryz.strings_IndexByte s c w
def ZWc:Qn Tryz.prog rE 250 J5:=EM (Go.Proofs.enters_of func250 (by kernel_rfl) rfl) (λs n w h1 h2=>(Go.Proofs.Tryz.strconv_Atoi s n h1 h2 w).mono (by
 rintro e w' ⟨rfl,t,rfl⟩;exact⟨rfl,Go.Lib.bytesWorld_below w _ t⟩))
def Z6F:Qn Tryz.prog rE 86 J9:=by
 obtain⟨i0,z,a1,a2,a3,a4,a5⟩:=JN (P:=Tryz.prog) (e:=9) (sz:=1) (bytes:=16)<|by kernel_rfl
 exact EZ (el:=9) (Go.Proofs.enters_of func86 (by kernel_rfl) rfl) (λb off n c news w h1 h2 h3 h4 h5=>Go.Proofs.Tryz.slices_Clone i0 z 1 16 a1 a2 a3 a4 a5 (by decide) (λw=>by kernel_rfl) b off n c news w h1 h2 h3 h4 h5)
  (λn c w=>Go.Proofs.Tryz.slices_Clone_string_nil n c w) (λa c w=>Go.Proofs.Tryz.slices_Clone_string_zero a c w)
def ZWd:Qn Tryz.prog rE 320 Ja:=I2 (el:=9) (Go.Proofs.enters_of func320 (by kernel_rfl) rfl)<|λs x w hs=>Go.Proofs.Z9R Go.Proofs.Tryz.lays146 (by kernel_rfl) s x w hs
def Z7Z:Qn Tryz.prog rE 216 (YL 6):=by
 obtain⟨i0,z,a1,a2,a3,a4,a5⟩:=JN (P:=Tryz.prog) (e:=Go.Proofs.Tryz.laysSlE041_f216_ren.t 23) (sz:=6) (bytes:=88)<|by kernel_rfl
 exact Ud (bytes:=88) (by decide) (by decide) (Go.Proofs.enters_of func216 (by kernel_rfl) rfl)<|λb off n c news w h1 h2 h3 h4 h5=>Go.Proofs.AnyE.slices_Clone Go.Proofs.Tryz.laysSlE041_f216 i0 z 6 88 a1 a2 a3 a4 a5 (by decide) (λw=>by kernel_rfl) b off n c news w h1 h2 h3 h4 h5
def Z80:Qn Tryz.prog rE 217 (YL 5):=by
 obtain⟨i0,z,a1,a2,a3,a4,a5⟩:=JN (P:=Tryz.prog) (e:=Go.Proofs.Tryz.laysSlE041_f217_ren.t 23) (sz:=5) (bytes:=80)<|by kernel_rfl
 exact Ud (bytes:=80) (by decide) (by decide) (Go.Proofs.enters_of func217 (by kernel_rfl) rfl)<|λb off n c news w h1 h2 h3 h4 h5=>Go.Proofs.AnyE.slices_Clone Go.Proofs.Tryz.laysSlE041_f217 i0 z 5 80 a1 a2 a3 a4 a5 (by decide) (λw=>by kernel_rfl) b off n c news w h1 h2 h3 h4 h5
def Z83:Qn Tryz.prog rE 220 (YL 16):=by
 obtain⟨i0,z,a1,a2,a3,a4,a5⟩:=JN (P:=Tryz.prog) (e:=Go.Proofs.Tryz.laysSlE041_f220_ren.t 23) (sz:=16) (bytes:=184)<|by kernel_rfl
 exact Ud (bytes:=184) (by decide) (by decide) (Go.Proofs.enters_of func220 (by kernel_rfl) rfl)<|λb off n c news w h1 h2 h3 h4 h5=>Go.Proofs.AnyE.slices_Clone Go.Proofs.Tryz.laysSlE041_f220 i0 z 16 184 a1 a2 a3 a4 a5 (by decide) (λw=>by kernel_rfl) b off n c news w h1 h2 h3 h4 h5
def ZMQ:Qn Tryz.prog rE 224 (YL 4):=by
 obtain⟨i0,z,a1,a2,a3,a4,a5⟩:=JN (P:=Tryz.prog) (e:=Go.Proofs.Tryz.laysSlE041_f224_ren.t 23) (sz:=4) (bytes:=56)<|by kernel_rfl
 exact Ud (bytes:=56) (by decide) (by decide) (Go.Proofs.enters_of func224 (by kernel_rfl) rfl)<|λb off n c news w h1 h2 h3 h4 h5=>Go.Proofs.AnyE.slices_Clone Go.Proofs.Tryz.laysSlE041_f224 i0 z 4 56 a1 a2 a3 a4 a5 (by decide) (λw=>by kernel_rfl) b off n c news w h1 h2 h3 h4 h5
def ZWe:Qn Tryz.prog rE 227 (YL 6):=by
 obtain⟨i0,z,a1,a2,a3,a4,a5⟩:=JN (P:=Tryz.prog) (e:=Go.Proofs.Tryz.laysSlE041_f227_ren.t 23) (sz:=6) (bytes:=72)<|by kernel_rfl
 exact Ud (bytes:=72) (by decide) (by decide) (Go.Proofs.enters_of func227 (by kernel_rfl) rfl)<|λb off n c news w h1 h2 h3 h4 h5=>Go.Proofs.AnyE.slices_Clone Go.Proofs.Tryz.laysSlE041_f227 i0 z 6 72 a1 a2 a3 a4 a5 (by decide) (λw=>by kernel_rfl) b off n c news w h1 h2 h3 h4 h5
def ZC9:Qn Tryz.prog rE 251 J6:=EN (Go.Proofs.enters_of func251 (by kernel_rfl) rfl)<|λs c w hs h2 ha=>Go.Proofs.Z9S Go.Proofs.Tryz.lays153 (by kernel_rfl) (by kernel_rfl) s c w hs h2 ha
end Go.Proofs.YtbnmnkpkjmoehabGreatDoor
namespace Go.Proofs.YtbnmnkpkjmoehabGreatDoor
open Go.AM
def brS{α:Type}{b:Bool}{x y:Option α}{q:α}{G:Prop}(h:(bif b then x else y)=some q)(h1:x=some q->G)(h2:y=some q->G):G:=by
 cases b with
 |true=>exact h1 h
 |false=>exact h2 h
def ZQH{P:Go.Program}{E E':Env}{f:Nat}{s:List AV->Hp->Option (AV×Hp)}(hgl:∀g,E.gl g=E'.gl g)(h:Qn P E f s):Qn P E' f s:=
 λargs hp v h' hs T X w rargs hcr c hr=>h args hp v h' hs T X w rargs hcr (c.env hgl) hr
def ZQI{P:Go.Program}{E E':Env}{f:Nat}{s:List AV->Nat->List AV->Option (List AV)}(hgl:∀g,E.gl g=E'.gl g)(h:ZEs P E f s):ZEs P E' f s:=
 λargs hp v wr hs T X w rargs hcr c hr=>h args hp v wr hs T X w rargs hcr (c.env hgl) hr
def Z6N[REdz]:Qn Tryz.prog rE 94 (ZEo<|ZE7 95):=ZFI ZSU
def Z6P[REdz]:Qn Tryz.prog rE 96 (ZEo<|ZEe 97 3 ZEf):=ZFI ZSV
def ZIF[REdz](f:Nat)(s:List AV->Hp->Option (AV×Hp))(h:N8 f=some s):Qn Tryz.prog rE f s:=by
 unfold N8 at h;exact(brS h (λh=>(brS h (λh=>(brS h (λh=>(lfS h Z6F nnS))<|λh=>(brS h (λh=>(lfS h Z6G nnS))<|λh=>(lfS h Z6H nnS))))<|λh=>(brS h (λh=>(lfS h Z7Z nnS))<|λh=>(brS h (λh=>(lfS h Z80 nnS))<|λh=>(lfS h Z83 nnS)))))<|λh=>(brS h (λh=>(brS h (λh=>(lfS h ZMQ nnS))<|λh=>(brS h (λh=>(lfS h ZWe nnS))<|λh=>(lfS h ZWb nnS))))<|λh=>(brS h (λh=>(lfS h ZWc nnS))<|λh=>(brS h (λh=>(lfS h ZC9 nnS))<|λh=>(lfS h ZWd nnS)))))
def ZWf[REdz](f:Nat)(s:List AV->Hp->Option (AV×Hp))(h:ZF0 f=some s):Qn Tryz.prog rE f s:=by
 unfold ZF0 at h;exact lfS h Z6N λh=>lfS h Z6P λh=>ZIF f s h
def ZWg[REdz](f:Nat)(s:List AV->Nat->List AV->Option (List AV))(h:ZF1 f=some s):ZEs Tryz.prog rE f s:=by
 unfold ZF1 at h;cases h1:Nat.beq f 94 with
 |true=>
  rw[h1]at h;obtain rfl:=Option.some.inj h;rw[Nat.eq_of_beq_eq_true h1];exact ZSU
 |false=>
  rw[h1,cond_false]at h;cases h2:Nat.beq f 96 with
  |true=>
   rw[h2]at h;obtain rfl:=Option.some.inj h;rw[Nat.eq_of_beq_eq_true h2];exact ZSV
  |false=>rw[h2]at h;cases h
def lfO{P:Go.Program}{E:Env}{f k:Nat}{x r:Option (List AV->Hp->Option (AV×Hp))}{q:List AV->Hp->Option (AV×Hp)}(h:(bif Nat.beq f k then x else r)=some q)(g:x=some q->Qn P E k q)(e:r=some q->Qn P E f q):Qn P E f q:=by
 cases hb:Nat.beq f k with
 |true=>
  rw[hb]at h;rw[Nat.eq_of_beq_eq_true hb];exact g h
 |false=>
  rw[hb]at h;exact e h
def ZSW[REdz](g:∀q,REdz.hd=some q->Qn Tryz.prog rE 4 q):EnvOk Tryz.prog rE:=
 ⟨λ_=>rfl,λf q h=>Z98 f q h,λf s h=>lfO h (g s)<|ZWf f s,λf s h=>ZWg f s h⟩
def ZOx:EnvOk Tryz.prog (@rE ZOF):=@ZSW ZOF<|λq h=>nomatch (show(none:Option _)=some q from h)
def ZWh(args:List AV)(v:AV)(h:ZQA args=some v):pfn (@rE ZOF) 90 args=some v:=by
 unfold ZQA at h;split at h
 .cases h;exact @Z1W ZOF _
 .cases h
def ZSX:EnvOk Tryz.prog ZOi:=
 ⟨ZOx.gl,ZOx.fn,λf s h=>lfS h (ZPl (E:=ZOi) ZOx (λ_=>rfl) ZWh) λh=>ZQH (E:=@rE ZOF) (E':=ZOi) (λ_=>rfl)<|ZOx.sum f s h,λf s h=>ZQI (E:=@rE ZOF) (E':=ZOi) (λ_=>rfl)<|ZOx.rs f s h⟩
def ZQJ:EnvOk Tryz.prog ZOo:=
 ⟨ZOx.gl,ZOx.fn,λf s h=>lfS h (ZPl (E:=ZOo) ZSX (λ_=>rfl)<|ZQ6 ZVW) λh=>ZQH (E:=ZOi) (E':=ZOo) (λ_=>rfl)<|ZSX.sum f s h,
  λf s h=>ZQI (E:=@rE ZOF) (E':=ZOo) (λ_=>rfl)<|ZOx.rs f s h⟩
def ZWi:EnvOk Tryz.prog ZOX:=
 ⟨ZOx.gl,ZOx.fn,λf s h=>lfS h (ZPl (E:=ZOX) ZQJ (λ_=>rfl)<|ZQ6 ZW1) λh=>lfS h (ZPl (E:=ZOX) ZQJ (λ_=>rfl)<|ZQ6 ZVY) λh=>ZQH (E:=ZOo) (E':=ZOX) (λ_=>rfl)<|ZQJ.sum f s h,
  λf s h=>ZQI (E:=@rE ZOF) (E':=ZOX) (λ_=>rfl)<|ZOx.rs f s h⟩
def ZPy(args:List AV):Option AV:=match args with|[]=>some (.bool true)|_=>none
def ZWj(args:List AV)(v:AV)(h:ZPy args=some v):pfn ZOX 4 args=some v:=by
 unfold ZPy at h;split at h
 .cases h;exact ZW3
 .cases h
@[reducible] def R1:REdz:=⟨some<|ZOG ZPy⟩
def ZWk:EnvOk Tryz.prog (@rE R1):=@ZSW R1 (λq h=>by
 obtain rfl:ZOG ZPy=q:=Option.some.inj h;exact ZPl (E:=@rE R1) ZWi (λ_=>rfl) ZWj)
def ZWl:pfn (@rE R1) 4 []=some (.bool true):=by
 unfold pfn;rw[V8 (E:=@rE R1) (s:=ZOG ZPy) rfl];rfl
end Go.Proofs.YtbnmnkpkjmoehabGreatDoor
namespace Go.Proofs.YtbnmnkpkjmoehabGreatDoor
open Go.AM
def ZCK:sig Tryz.prog 10 Tryz.f3.params.toList=some ZQG:=by kernel_rfl
def Z9l(W:Go.World):GlR (@rE R1) T0 (X0 Tryz.prog) W:=λg=>⟨trivial,trivial⟩
theorem watchMatchesReference_card:Rows.WatchMatchesReferenceCardSaid:=ZCI ZWk Z9l (n:=10) (S:=ZQG) rfl ZCK (@ZCJ R1 ZWl)
end Go.Proofs.YtbnmnkpkjmoehabGreatDoor
