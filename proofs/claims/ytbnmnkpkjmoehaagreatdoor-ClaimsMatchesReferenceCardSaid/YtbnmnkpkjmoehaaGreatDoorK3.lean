/- ClaimsMatchesReference holds for all its arguments. No condition. -/
import Derived.Test.YtbnmnkpkjmoehaaGreatDoorT3
import Derived.Test.YtbnmnkpkjmoehaaGreatDoorQ5
import Derived.Test.YtbnmnkpkjmoehaaGreatDoorP3d
import Derived.Test.YtbnmnkpkjmoehaaGreatDoorH3
import Derived.Test.YtbnmnkpkjmoehaaGreatDoorR3
import Derived.Shelf.Small.Utf8
import Derived.Shelf.Small.Bits
import Derived.Shelf.Small.Strs
import Derived.Shelf.Small.Wraps
import Derived.Shelf.Utf8.RuneCount
import Derived.Shelf.Strconv.Atoi
import Derived.Shelf.Strconv.Itoa0
import Derived.Shelf.Strconv.Itoa1
import Derived.Shelf.LaysM
import Derived.Shelf.Strconv.Itoa2
import Derived.Shelf.Strconv.Itoa3
import Derived.Shelf.Strconv.AtoiErrFast
import Derived.Shelf.Strconv.ParseIntEmpty
import Derived.Shelf.Strconv.AtoiFail
import Derived.Shelf.Strconv.Clone
import Derived.Shelf.Strconv.SyntaxError
import Derived.Shelf.LaysC
import Derived.Shelf.Strconv.ToError
import Derived.Shelf.Strconv.AtoiErr
import Derived.Shelf.Strconv.ErrVar
import Derived.Shelf.Strconv.Lower
import Derived.Shelf.Strconv.ParseUint10
import Derived.Shelf.Strconv.ParseUint10Empty
import Derived.Shelf.Strconv.ParseUint10Any
import Derived.Shelf.Strconv.ParseInt10
import Derived.Shelf.Strconv.AtoiLong
import Derived.Shelf.Strconv.AtoiInnerAll
import Derived.Shelf.Strconv.RangeError
import Derived.Shelf.Strconv.ToErrorRange
import Derived.Shelf.Strconv.AtoiAll
import Derived.Shelf.Strconv.ParseUintEmpty
import Derived.Shelf.Strconv.ParseUint10b64
import Derived.Shelf.Strconv.ParseUint10b32
import Derived.Shelf.Strconv.ParseUint10b16
import Derived.Shelf.Strconv.ParseUint10b8
import Derived.Shelf.Strconv.ParseUint10At
import Derived.Shelf.Strconv.ParseInt10At64
import Derived.Shelf.Strconv.ParseInt10At32
import Derived.Shelf.Strconv.ParseInt10At16
import Derived.Shelf.Strconv.ParseInt10At8
import Derived.Shelf.Strconv.ParseInt10All
import Derived.Shelf.Strings.Search1
import Derived.Shelf.Strings.Search2
import Derived.Shelf.Strings.Search3
import Derived.Shelf.Strings.Count
import Derived.Shelf.Strings.Shaped
import Derived.Shelf.Sort.Plain
import Derived.Shelf.Strings.Prefix
import Derived.Shelf.Strings.Split
import Derived.Shelf.Strings.SplitShaped
import Derived.Shelf.Unicode.Decode
import Derived.Shelf.Strings.Runes
import Derived.Shelf.Strings.RuneCount
import Derived.Shelf.Strings.IndexAny
import Derived.Shelf.Strings.AsciiSet
import Derived.Shelf.Strings.IndexAnyAll
import Derived.Shelf.Strings.Explode
import Derived.Shelf.Unicode.DecodeSlow
import Derived.Shelf.Unicode.DecodeAny
import Derived.Shelf.Slices.Turned
import Derived.Ground.Names2Prog
import Derived.Shelf.Slices.Clone
import Derived.Shelf.Slices.CompactS
import Derived.Shelf.Slices.SearchI
import Derived.Shelf.Slices.Cells
import Derived.Shelf.Slices.In.SortNone
import Derived.Ground.SlgnProg
import Derived.Shelf.SlicesE.Clone
import Derived.Ground.GgzProg
import Derived.Ground.SlgmProg
import Derived.Shelf.SlIterI.Nil
import Derived.Shelf.SortM.Plain
import Derived.Shelf.SortM.SortNone
import Derived.Lib.AtoiErrMem
set_option linter.unusedVariables false
set_option linter.defProp false
set_option linter.unusedSimpArgs false
set_option linter.unusedSectionVars false
namespace Go.AM
open Go
def Mb{α:Type}{f:α->AV}:∀{l:List AV},(∀x∈l,∃y,x=f y)->∃m:List α,l=m.map f
 |[],_=>⟨[],rfl⟩
 |x::r,h=>by
  obtain⟨y,rfl⟩:=h x<|List.mem_cons_self ..;obtain⟨m,rfl⟩:=Mb<|λz hz=>h z<|List.mem_cons_of_mem _ hz
  exact⟨y::m,rfl⟩
def YY{s:CSh}{ss:List CSh}{l:List AV}:Wcs (s::ss) l↔∃a r,l=a::r/\Wc s a/\Wcs ss r:=by rw[Wcs]
def Xo{l:List AV}:Wcs [] l↔l=[]:=by rw[Wcs]
def ZQ{k:IntKind}{a:AV}(h:Wc (.int k) a):∃n,a=.int k n:=by rw[Wc]at h;obtain⟨n,h,_⟩:=h;exact⟨n,h⟩
def Y4{a:AV}(h:Wc .str a):∃s:ByteArray,a=.str s:=by rw[Wc]at h;obtain⟨n,h,_⟩:=h;exact⟨n,h⟩
def YB{α:Type}{f:α->AV}{es:List CSh}{a:AV}(hd:∀cs,Wcs es cs->∃y,AV.agg cs=f y)(h:Wc (.sl true es) a):∃m:List α,a=.isl false false es.length (m.map f):=by
 rw[Wc]at h;obtain⟨xs,rfl,_,h2⟩:=h;obtain⟨m,rfl⟩:=Mb (f:=f) (l:=xs) (λx hx=>by
  obtain⟨cs,rfl,h3⟩:=(h2 x hx).1 rfl;exact hd cs h3)
 exact⟨m,rfl⟩
def C8{α:Type}{f:α->AV}{s:CSh}{a:AV}(hd:∀x,Wc s x->∃y,x=f y)(h:Wc (.sl false [s]) a):∃m:List α,a=.isl false false 1 (m.map f):=by
 rw[Wc]at h;obtain⟨xs,rfl,_,h2⟩:=h;obtain⟨m,rfl⟩:=Mb (f:=f) (l:=xs) (λx hx=>by
  have h3:=(h2 x hx).2 rfl;rw[YY]at h3;obtain⟨a,r,h4,h5,h6⟩:=h3;rw[Xo]at h6;subst h6;cases h4;exact hd x h5)
 exact⟨m,rfl⟩
abbrev iS:CSh:=.int .i64
abbrev ptS:List CSh:=[iS,iS]
abbrev nmS:List CSh:=[.str,iS,.str]
abbrev ZSp:List CSh:=[.str,iS,.str,iS,iS,iS,iS]
abbrev rgS:List CSh:=[.str,iS,iS,.sl true ptS,.sl true nmS,iS]
abbrev C9:List CSh:=[.str,iS,.sl true ptS,.sl true nmS,iS]
abbrev buS:List CSh:=[.str,iS,.sl true ptS,iS]
abbrev drS:List CSh:=[.str,.str,.str,iS,iS,.str,iS,iS,iS,iS,iS,iS,.sl false [.str],iS,iS,.str]
abbrev unS:List CSh:=[.str,.str,.str,iS,iS,iS]
abbrev sS:List CSh:=[.sl true rgS,.sl true C9,.sl true buS,.sl true drS,.sl true unS,.sl true ptS,.sl true ptS]
abbrev evS:List CSh:=[iS,iS,iS,iS,iS,.str,.str,.str,.sl false [.str],.sl true nmS,iS,.str,iS,iS,iS,iS,.sl true ptS,.sl true ZSp]
def HQ(cs:List AV)(h:Wcs ptS cs):∃y:Pt,AV.agg cs=y.enc:=by
 simp only[YY,Xo]at h;obtain⟨a,_,rfl,h1,b,_,rfl,h2,rfl⟩:=h;obtain⟨x,rfl⟩:=ZQ h1;obtain⟨y,rfl⟩:=ZQ h2;exact⟨⟨x,y⟩,rfl⟩
def Ca(cs:List AV)(h:Wcs ptS cs):∃y:be,AV.agg cs=y.enc:=by
 simp only[YY,Xo]at h;obtain⟨a,_,rfl,h1,b,_,rfl,h2,rfl⟩:=h;obtain⟨x,rfl⟩:=ZQ h1;obtain⟨y,rfl⟩:=ZQ h2;exact⟨⟨x,y⟩,rfl⟩
def Mc(cs:List AV)(h:Wcs nmS cs):∃y:Nm,AV.agg cs=y.enc:=by
 simp only[YY,Xo]at h;obtain⟨a,_,rfl,h1,b,_,rfl,h2,c,_,rfl,h3,rfl⟩:=h;obtain⟨x,rfl⟩:=Y4 h1;obtain⟨y,rfl⟩:=ZQ h2;obtain⟨z,rfl⟩:=Y4 h3;exact⟨⟨x,y,z⟩,rfl⟩
def Z6e(cs:List AV)(h:Wcs ZSp cs):∃y:Ent,AV.agg cs=y.enc:=by
 simp only[YY,Xo]at h;obtain⟨_,_,rfl,h1,_,_,rfl,h2,_,_,rfl,h3,_,_,rfl,h4,_,_,rfl,h5,_,_,rfl,h6,_,_,rfl,h7,rfl⟩:=h;obtain⟨a,rfl⟩:=Y4 h1;obtain⟨b,rfl⟩:=ZQ h2;obtain⟨c,rfl⟩:=Y4 h3;obtain⟨d,rfl⟩:=ZQ h4;obtain⟨e,rfl⟩:=ZQ h5;obtain⟨f,rfl⟩:=ZQ h6;obtain⟨g,rfl⟩:=ZQ h7;exact⟨⟨a,⟨b,c,d,e⟩,⟨f,g⟩⟩,rfl⟩
def Cb(x:AV)(h:Wc .str x):∃y:Str,x=encS y:=Y4 h
def Z6f(cs:List AV)(h:Wcs rgS cs):∃y:Gm,AV.agg cs=y.enc:=by
 simp only[YY,Xo]at h;obtain⟨_,_,rfl,h1,_,_,rfl,h2,_,_,rfl,h3,_,_,rfl,h4,_,_,rfl,h5,_,_,rfl,h6,rfl⟩:=h;obtain⟨a,rfl⟩:=Y4 h1;obtain⟨b,rfl⟩:=ZQ h2;obtain⟨c,rfl⟩:=ZQ h3;obtain⟨d,rfl⟩:=YB HQ h4;obtain⟨e,rfl⟩:=YB Mc h5;obtain⟨f,rfl⟩:=ZQ h6;exact⟨⟨a,b,c,⟨false,d⟩,⟨false,e⟩,f⟩,rfl⟩
def Z6g(cs:List AV)(h:Wcs C9 cs):∃y:Ev,AV.agg cs=y.enc:=by
 simp only[YY,Xo]at h;obtain⟨_,_,rfl,h1,_,_,rfl,h2,_,_,rfl,h4,_,_,rfl,h5,_,_,rfl,h6,rfl⟩:=h;obtain⟨a,rfl⟩:=Y4 h1;obtain⟨b,rfl⟩:=ZQ h2;obtain⟨d,rfl⟩:=YB HQ h4;obtain⟨e,rfl⟩:=YB Mc h5;obtain⟨f,rfl⟩:=ZQ h6;exact⟨⟨a,b,⟨false,d⟩,⟨false,e⟩,f⟩,rfl⟩
def Z6h(cs:List AV)(h:Wcs buS cs):∃y:Fa,AV.agg cs=y.enc:=by
 simp only[YY,Xo]at h;obtain⟨_,_,rfl,h1,_,_,rfl,h2,_,_,rfl,h4,_,_,rfl,h6,rfl⟩:=h;obtain⟨a,rfl⟩:=Y4 h1;obtain⟨b,rfl⟩:=ZQ h2;obtain⟨d,rfl⟩:=YB HQ h4;obtain⟨f,rfl⟩:=ZQ h6;exact⟨⟨a,b,⟨false,d⟩,f⟩,rfl⟩
def Z6i(cs:List AV)(h:Wcs unS cs):∃y:bc,AV.agg cs=y.enc:=by
 simp only[YY,Xo]at h;obtain⟨_,_,rfl,h1,_,_,rfl,h2,_,_,rfl,h3,_,_,rfl,h4,_,_,rfl,h5,_,_,rfl,h6,rfl⟩:=h;obtain⟨a,rfl⟩:=Y4 h1;obtain⟨b,rfl⟩:=Y4 h2;obtain⟨c,rfl⟩:=Y4 h3;obtain⟨d,rfl⟩:=ZQ h4;obtain⟨e,rfl⟩:=ZQ h5;obtain⟨f,rfl⟩:=ZQ h6;exact⟨⟨a,b,c,d,e,f⟩,rfl⟩
def Z6j(cs:List AV)(h:Wcs drS cs):∃y:Gc,AV.agg cs=y.enc:=by
 simp only[YY,Xo]at h;obtain⟨_,_,rfl,h1,_,_,rfl,h2,_,_,rfl,h3,_,_,rfl,h4,_,_,rfl,h5,_,_,rfl,h6,_,_,rfl,h7,_,_,rfl,h8,_,_,rfl,h9,_,_,rfl,h10,_,_,rfl,h11,_,_,rfl,h12,_,_,rfl,h13,_,_,rfl,h14,_,_,rfl,h15,_,_,rfl,h16,rfl⟩:=h;obtain⟨a1,rfl⟩:=Y4 h1;obtain⟨a2,rfl⟩:=Y4 h2;obtain⟨a3,rfl⟩:=Y4 h3;obtain⟨a4,rfl⟩:=ZQ h4;obtain⟨a5,rfl⟩:=ZQ h5;obtain⟨a6,rfl⟩:=Y4 h6;obtain⟨a7,rfl⟩:=ZQ h7;obtain⟨a8,rfl⟩:=ZQ h8;obtain⟨a9,rfl⟩:=ZQ h9;obtain⟨a10,rfl⟩:=ZQ h10;obtain⟨a11,rfl⟩:=ZQ h11;obtain⟨a12,rfl⟩:=ZQ h12;obtain⟨a13,rfl⟩:=C8 Cb h13;obtain⟨a14,rfl⟩:=ZQ h14;obtain⟨a15,rfl⟩:=ZQ h15;obtain⟨a16,rfl⟩:=Y4 h16;exact⟨⟨a1,a2,a3,a4,⟨a5,a6,a7,a8⟩,⟨a9,a10⟩,a11,a12,⟨false,a13⟩,a14,a15,a16⟩,rfl⟩
def Z6k(cs:List AV)(h:Wcs sS cs):∃s:Sta,AV.agg cs=stA s:=by
 simp only[YY,Xo]at h;obtain⟨_,_,rfl,h1,_,_,rfl,h2,_,_,rfl,h3,_,_,rfl,h4,_,_,rfl,h5,_,_,rfl,h6,_,_,rfl,h7,rfl⟩:=h;obtain⟨a1,rfl⟩:=YB Z6f h1;obtain⟨a2,rfl⟩:=YB Z6g h2;obtain⟨a3,rfl⟩:=YB Z6h h3;obtain⟨a4,rfl⟩:=YB Z6j h4;obtain⟨a5,rfl⟩:=YB Z6i h5;obtain⟨a6,rfl⟩:=YB Ca h6;obtain⟨a7,rfl⟩:=YB Ca h7;exact⟨⟨a1,a2,a3,a4,a5,a6,a7⟩,rfl⟩
def Z6l(cs:List AV)(h:Wcs evS cs):∃e:Gt,AV.agg cs=evA e:=by
 simp only[YY,Xo]at h;obtain⟨_,_,rfl,h1,_,_,rfl,h2,_,_,rfl,h3,_,_,rfl,h4,_,_,rfl,h5,_,_,rfl,h6,_,_,rfl,h7,_,_,rfl,h8,_,_,rfl,h9,_,_,rfl,h10,_,_,rfl,h11,_,_,rfl,h12,_,_,rfl,h13,_,_,rfl,h14,_,_,rfl,h15,_,_,rfl,h16,_,_,rfl,h17,_,_,rfl,h18,rfl⟩:=h;obtain⟨a1,rfl⟩:=ZQ h1;obtain⟨a2,rfl⟩:=ZQ h2;obtain⟨a3,rfl⟩:=ZQ h3;obtain⟨a4,rfl⟩:=ZQ h4;obtain⟨a5,rfl⟩:=ZQ h5;obtain⟨a6,rfl⟩:=Y4 h6;obtain⟨a7,rfl⟩:=Y4 h7;obtain⟨a8,rfl⟩:=Y4 h8;obtain⟨a9,rfl⟩:=C8 Cb h9;obtain⟨a10,rfl⟩:=YB Mc h10;obtain⟨a11,rfl⟩:=ZQ h11;obtain⟨a12,rfl⟩:=Y4 h12;obtain⟨a13,rfl⟩:=ZQ h13;obtain⟨a14,rfl⟩:=ZQ h14;obtain⟨a15,rfl⟩:=ZQ h15;obtain⟨a16,rfl⟩:=ZQ h16;obtain⟨a17,rfl⟩:=YB HQ h17;obtain⟨a18,rfl⟩:=YB Z6e h18;exact⟨⟨a1,a2,a3,a4,a5,a6,a7,a8,⟨false,a9⟩,⟨false,a10⟩,⟨a11,a12,a13,a14⟩,⟨a15,a16⟩,⟨false,a17⟩,⟨false,a18⟩⟩,rfl⟩
def ZSq{k:IntKind}{a:AV}(h:Wcs [.int k] [a]):∃n,a=.int k n:=by
 rw[YY]at h;obtain⟨_,_,e,k,_⟩:=h;cases e;exact ZQ k
abbrev ZQF:List (Bool×List CSh):=[(true,sS),(true,ptS),(false,[iS]),(false,[iS]),(true,evS)]
def ZCJ[REdz](hup:pfn rE 4 []=some (.bool true))(xs:List AV)(h:Wvs ZQF xs):pfn rE 3 xs=some (.bool true):=by
 obtain⟨x,_,rfl,h1,_,y,_,rfl,h2,_,z,_,rfl,_,h3,u,_,rfl,_,h4,v,_,rfl,h5,_,h6⟩:=h;have h6':_=[]:=h6;subst h6';obtain⟨c1,rfl,k1⟩:=h1 rfl;obtain⟨s,hs⟩:=Z6k c1 k1;obtain⟨c2,rfl,k2⟩:=h2 rfl;obtain⟨p,hp⟩:=HQ c2 k2;obtain⟨a,rfl⟩:=ZSq<|h3 rfl;obtain⟨b,rfl⟩:=ZSq<|h4 rfl;obtain⟨c5,rfl,k5⟩:=h5 rfl;obtain⟨e,he⟩:=Z6l c5 k5;rw[hs,hp,he];exact ZCp hup s p a b e
end Go.AM
namespace Go.Proofs
open Go.Proofs.Tryz
open Go.Shelf
def Tryz.lays137_ren:Go.Shelf.Ren:=⟨λ|137=>245|217=>259|266=>271|n=>n,λ|9=>9|5=>5|3=>3|n=>n,λ|n=>n⟩
def Tryz.lays137:Go.Proofs.Lays.n137 Tryz.prog Tryz.lays137_ren:=by
 constructor
 all_goals (intros;kernel_rfl)
open Go.RowKit in
def Tryz.strings_IndexByte(s:ByteArray)(c:Int)(w:World):
 Calls Tryz.prog 245 #[.string s,.int .u8 c] w λe w'=>e=.returned (.int .i64<|Lib.indexByte s.data.toList c.toNat.toUInt8)/\w'=w:=Any.strings_IndexByte Tryz.lays137 s c w
def Tryz.lays172_ren:Go.Shelf.Ren:=⟨λ|172=>246|244=>260|245=>261|247=>272|279=>273|280=>274|281=>275|282=>276|287=>284|316=>285|171=>287|205=>286|321=>290|322=>291|243=>292|246=>294|283=>295|284=>296|285=>297|286=>298|129=>208|317=>299|318=>300|319=>301|320=>302|337=>303|338=>304|n=>n,λ|9=>9|3=>3|75=>243|76=>244|4=>4|5=>5|167=>264|37=>265|0=>0|85=>266|2=>2|168=>268|53=>198|175=>275|46=>160|210=>279|127=>283|145=>286|143=>284|21=>21|171=>294|173=>296|212=>299|51=>196|20=>20|213=>300|232=>301|233=>302|80=>303|n=>n,λ|15=>1|16=>2|17=>5|18=>6|19=>7|n=>n⟩
def Tryz.lays172:Go.Proofs.Lays.n172 Tryz.prog Tryz.lays172_ren:=by
 constructor
 all_goals (intros;kernel_rfl)
open Go.RowKit in
def Tryz.strconv_Atoi(s:ByteArray)(n:Int)(hl:s.size<=18)(h:Lib.atoi s.data.toList=some n)(w:World):
 Calls Tryz.prog 246 #[.string s] w λe w'=>e=.returned (.tuple #[.int .i64 n,.nilIface])/\∃t,w'=Lib.bytesWorld w 5 t:=Any.strconv_Atoi Tryz.lays172 s n hl h w
def Tryz.lays190_ren:Go.Shelf.Ren:=⟨λ|190=>157|125=>166|258=>191|128=>207|129=>208|302=>220|303=>221|304=>222|305=>223|306=>224|307=>225|308=>226|309=>227|310=>228|333=>251|329=>237|330=>238|334=>252|335=>253|336=>254|344=>270|n=>n,λ|31=>32|9=>9|3=>3|46=>160|0=>0|51=>196|53=>198|4=>4|183=>190|182=>189|131=>103|5=>5|218=>232|222=>236|228=>253|229=>254|n=>n,λ|n=>n⟩
def Tryz.lays190:Go.Proofs.Lays.n190 Tryz.prog Tryz.lays190_ren:=by
 constructor
 all_goals (intros;kernel_rfl)
open Go.Sort Go.RowKit in
def Tryz.slices_Sort_string(blk off cap:Nat)(ss:List<|List UInt8)(w:World)(hH:Holds encStr w blk off ss.toArray)(hblk:blk<w.heap.size)(hsz:ss.length<4611686018427387904):
 Calls Tryz.prog 157 #[.slice (some ⟨blk,off,none⟩) ss.length cap] w λe w'=>
  e=.returned (.tuple #[])/\∃n os,w'=grow (putRow encStr (Sort.ahead w n) blk off (ss.mergeSort λx y=>decide (x<=y)).toArray) os:=Any.slices_Sort_string Tryz.lays190 blk off cap ss w hH hblk hsz
def Tryz.lays146_ren:Go.Shelf.Ren:=⟨λ|146=>212|221=>249|268=>267|138=>268|143=>269|195=>280|197=>281|218=>282|219=>283|260=>288|217=>259|225=>279|224=>278|267=>289|266=>271|314=>293|n=>n,λ|9=>9|31=>32|3=>3|4=>4|0=>0|105=>273|21=>21|5=>5|46=>160|119=>287|139=>290|138=>289|146=>291|51=>196|n=>n,λ|1=>0|3=>3|4=>4|n=>n⟩
def Tryz.lays146:Go.Proofs.Lays.n146 Tryz.prog Tryz.lays146_ren:=by
 constructor
 all_goals (intros;kernel_rfl)
def Tryz.lays153_ren:Go.Shelf.Ren:=⟨λ|153=>247|152=>262|226=>263|227=>264|228=>265|137=>245|119=>277|224=>278|225=>279|217=>259|266=>271|n=>n,λ|9=>9|3=>3|4=>4|5=>5|21=>21|117=>260|116=>259|0=>0|46=>160|124=>271|n=>n,λ|n=>n⟩
def Tryz.lays153:Go.Proofs.Lays.n153 Tryz.prog Tryz.lays153_ren:=by
 constructor
 all_goals (intros;kernel_rfl)
def Tryz.laysNm216_ren:Go.Shelf.Ren:=⟨λ|16=>134|n=>n,λ|24=>32|9=>9|4=>4|n=>n,λ|n=>n⟩
def Tryz.laysNm216:Go.Proofs.Lays2.n16 Tryz.prog Tryz.laysNm216_ren:=by
 constructor
 all_goals (intros;kernel_rfl)
open Go.RowKit Go.Lib in
def Tryz.slices_Clone_string_nil(n c:Nat)(w:World):
 Calls Tryz.prog 134 #[.slice none n c] w λe w'=>e=.returned (.slice none 0 0)/\w'=w:=Any.slices_Clone_string_nil Tryz.laysNm216 n c w
open Go.RowKit Go.Lib in
def Tryz.slices_Clone_string_zero(a:Addr)(c:Nat)(w:World):
 Calls Tryz.prog 134 #[.slice (some a) 0 c] w λe w'=>∃v',e=.returned v'/\w'.ownsRow w.heap.size 9 1 v' 0 []/\v'≠.slice none 0 0/\Below w.heap.size w w':=Any.slices_Clone_string_zero Tryz.laysNm216 a c w
def Tryz.lays194_ren:Go.Shelf.Ren:=⟨λ|194=>158|n=>n,λ|31=>32|9=>9|3=>3|4=>4|0=>0|n=>n,λ|n=>n⟩
def Tryz.lays194:Go.Proofs.Lays.n194 Tryz.prog Tryz.lays194_ren:=by
 constructor
 all_goals (intros;kernel_rfl)
open Go.RowKit Go.Lib Go.Sort in
def Tryz.slices_Compact_string(blk off cap:Nat)(zs:List<|List UInt8)(w:World)(hH:Holds encStr w blk off zs.toArray)(hsz:zs.length<=9223372036854775807)(hcap:zs.length<=cap):
 Calls Tryz.prog 158 #[.slice (some ⟨blk,off,none⟩) zs.length cap] w λe w'=>e=.returned (.slice (some ⟨blk,off,none⟩) (Lib.compact zs).length cap)/\∃q,w'=putRow encStr (Sort.ahead w q) blk off (Lib.compact zs++List.replicate (zs.length-(Lib.compact zs).length) []).toArray:=Any.slices_Compact_string Tryz.lays194 blk off cap zs w hH hsz hcap
open Go.RowKit Go.Lib Go.Sort in
def Tryz.slices_Compact_string_empty(a:Option Addr)(cap:Nat)(w:World):
 Calls Tryz.prog 158 #[.slice a 0 cap] w λe w'=>e=.returned (.slice a 0 cap)/\w'=w:=Any.slices_Compact_string_empty Tryz.lays194 a cap w
open Go.RowKit Go.Sort in
def Tryz.slices_Sort_string_none(p:Option Addr)(cap:Nat)(w:World):
 Calls Tryz.prog 157 #[.slice p 0 cap] w λe w'=>e=.returned (.tuple #[])/\w'=w:=Any.slices_Sort_string_none Tryz.lays190 p cap w
def Tryz.laysSlE041_f134_ren:Go.Shelf.Ren:=⟨λ|41=>134|n=>n,λ|22=>32|23=>9|4=>4|n=>n,λ|n=>n⟩
def Tryz.laysSlE041_f134:Go.Proofs.SlLaysE0.n41 Tryz.prog Tryz.laysSlE041_f134_ren:=by
 constructor
 case f41=>exact⟨f134.name,by decide,func134.trans<|congrArg some<|by kernel_rfl⟩
 all_goals (intros;kernel_rfl)
open Go.RowKit Go.Lib in
def Tryz.slices_Clone(i0:TypeInfo)(z:Value)(size bytes:Nat)(hi:Tryz.prog.info? 9=some i0)(hz0:i0.zero=some z)(hz1:i0.size=size)(hz2:i0.bytes=bytes)(hzs:z.cells.size=size)(hsz:0<size)(z23:∀w,(Go.sizeOf 9).run Tryz.prog w=.ok size w)(b off n c:Nat)(news:List Value)(w:World)(hl:news.length=n*size)(hn:n<=maxLen)(hbig:n*bytes<=140737488355328)(hc:∀j u,news[j]?=some u->w.cell? ⟨b,off+j,none⟩=some u)(h1:∀u∈news,u.oneCell'=true):
 Calls Tryz.prog 134 #[.slice (some ⟨b,off,none⟩) n c] w λe w'=>∃v',e=.returned v'/\w'.ownsRow w.heap.size 9 size v' n news/\v'≠.slice none 0 0/\Below w.heap.size w w':=AnyE.slices_Clone Tryz.laysSlE041_f134 i0 z size bytes hi hz0 hz1 hz2 hzs hsz z23 b off n c news w hl hn hbig hc h1
end Go.Proofs
namespace Go.Proofs
open Go.Proofs.Tryz
open Go.RowKit Go.Maps Go.Sort Go.Shelf
def Tryz.laysSlE041_f138_ren:Go.Shelf.Ren:=⟨λ|41=>138|n=>n,λ|22=>36|23=>31|4=>4|n=>n,λ|n=>n⟩
def Tryz.laysSlE041_f138:Go.Proofs.SlLaysE0.n41 Tryz.prog Tryz.laysSlE041_f138_ren:=by
 constructor
 case f41=>exact⟨f138.name,by decide,func138.trans<|congrArg some<|by kernel_rfl⟩
 all_goals (intros;kernel_rfl)
def Tryz.keys49_ren:Go.Shelf.Ren:=⟨λ|7=>49|10=>103|n=>n,λ|23=>93|26=>3|3=>4|28=>98|0=>0|27=>97|33=>62|4=>4|n=>n,λ|n=>n⟩
def Tryz.keys49:Go.Proofs.SlLaysZI.n7 Tryz.prog Tryz.keys49_ren:=by
 constructor
 case f7=>exact⟨f49.name,by decide,func49.trans<|congrArg some<|by kernel_rfl⟩
 case f10=>exact⟨f103.name,by decide,func103.trans<|congrArg some<|by kernel_rfl⟩
 all_goals (intros;kernel_rfl)
def Tryz.sorted48_ren:Go.Shelf.Ren:=⟨λ|6=>48|8=>101|9=>102|11=>164|13=>166|12=>165|23=>207|24=>208|14=>198|15=>199|16=>200|17=>201|18=>202|19=>203|20=>204|21=>205|22=>206|25=>236|26=>237|27=>238|28=>239|29=>240|30=>241|31=>258|n=>n,λ|26=>3|28=>98|24=>42|0=>0|3=>3|37=>160|48=>196|50=>198|4=>4|40=>190|39=>189|45=>103|5=>5|9=>9|51=>232|55=>236|57=>253|58=>254|33=>62|n=>n,λ|n=>n⟩
def Tryz.sorted48:Go.Proofs.SlLaysZI.n6 Tryz.prog Tryz.sorted48_ren:=by
 constructor
 case f6=>exact⟨f48.name,by decide,func48.trans<|congrArg some<|by kernel_rfl⟩
 case f8=>exact⟨f101.name,by decide,func101.trans<|congrArg some<|by kernel_rfl⟩
 case f11=>exact⟨f164.name,by decide,func164.trans<|congrArg some<|by kernel_rfl⟩
 all_goals (intros;kernel_rfl)
def Tryz.sort102_ren:Go.Shelf.Ren:=⟨λ|5=>102|8=>166|7=>165|19=>207|20=>208|10=>198|11=>199|12=>200|13=>201|14=>202|15=>203|16=>204|17=>205|18=>206|30=>236|31=>237|32=>238|33=>239|34=>240|35=>241|40=>258|n=>n,λ|23=>42|25=>3|3=>3|32=>160|22=>42|0=>0|44=>196|46=>198|4=>4|36=>190|35=>189|41=>103|5=>5|9=>9|53=>232|57=>236|63=>253|64=>254|n=>n,λ|n=>n⟩
def Tryz.sort102:Go.Proofs.SlLaysM.n5 Tryz.prog Tryz.sort102_ren:=by
 constructor
 case f5=>exact⟨f102.name,by decide,func102.trans<|congrArg some<|by kernel_rfl⟩
 case f7=>exact⟨f165.name,by decide,func165.trans<|congrArg some<|by kernel_rfl⟩
 case f10=>exact⟨f198.name,by decide,func198.trans<|congrArg some<|by kernel_rfl⟩
 case f11=>exact⟨f199.name,by decide,func199.trans<|congrArg some<|by kernel_rfl⟩
 case f12=>exact⟨f200.name,by decide,func200.trans<|congrArg some<|by kernel_rfl⟩
 case f13=>exact⟨f201.name,by decide,func201.trans<|congrArg some<|by kernel_rfl⟩
 case f14=>exact⟨f202.name,by decide,func202.trans<|congrArg some<|by kernel_rfl⟩
 case f15=>exact⟨f203.name,by decide,func203.trans<|congrArg some<|by kernel_rfl⟩
 case f16=>exact⟨f204.name,by decide,func204.trans<|congrArg some<|by kernel_rfl⟩
 case f17=>exact⟨f205.name,by decide,func205.trans<|congrArg some<|by kernel_rfl⟩
 case f18=>exact⟨f206.name,by decide,func206.trans<|congrArg some<|by kernel_rfl⟩
 case f30=>exact⟨f236.name,by decide,func236.trans<|congrArg some<|by kernel_rfl⟩
 case f33=>exact⟨f239.name,by decide,func239.trans<|congrArg some<|by kernel_rfl⟩
 case f34=>exact⟨f240.name,by decide,func240.trans<|congrArg some<|by kernel_rfl⟩
 case f35=>exact⟨f241.name,by decide,func241.trans<|congrArg some<|by kernel_rfl⟩
 case f40=>exact⟨f258.name,by decide,func258.trans<|congrArg some<|by kernel_rfl⟩
 all_goals (intros;kernel_rfl)
def Tryz.sorts48(m:Nat):AnyZI.SortsIn Tryz.prog Tryz.sorted48_ren Fence.wide m:=
 ⟨λblk off cap ss W hH hblk hsz=>callsIn_wide.2<|AnyM.slices_Sort_int Tryz.sort102 blk off cap ss W hH hblk hsz,
  λp cap W=>callsIn_wide.2<|AnyM.slices_Sort_int_none Tryz.sort102 p cap W⟩
set_option maxHeartbeats 1000000 in
def Tryz.sorted_ints(Bm o b nn:Nat)(D0:DataW Unit)(R:Value->Option (DataW Unit×List MemPlace))(w:World)(hBm:Bm<w.heap.size)(hm:w.cell? ⟨Bm,o,none⟩=some (.map<|some b))(hown:w.ownsMap Tryz.prog 3 R b nn D0)(hmax:Maps.size D0<=maxLen)(hbytes:Maps.size D0*8<=140737488355328):
 Calls Tryz.prog 48 #[.func (.func 103) #[] #[.pointer<|some ⟨Bm,o,none⟩]] w λe w'=>∃(v:Value)(ss:List Int),e=.returned v/\ss.Perm (intKeys D0)/\
  w'.ownsRow w.heap.size 3 1 v ss.length ((ss.mergeSort<|λx y=>decide (x<=y)).map encZ)/\(v=.slice none 0 0↔ss=[])/\Below w.heap.size w w':=by
 refine(callsIn_wide (n:=5)).1 ?_;have hseq:SeqGives Fence.wide 2 Tryz.prog 103 #[.pointer<|some ⟨Bm,o,none⟩] encZ (λss=>ss.Perm<|intKeys D0) (Maps.size D0) w:=
  ZSA (ρ:=Tryz.keys49_ren) {Tryz.keys49 with} Fence.wide _ trivial rfl (by omega) Bm o b nn D0 w hBm hm hown
 exact AnyZI.sorted_in Tryz.sorted48 Fence.wide 5 trivial trivial trivial trivial rfl (by omega) (Tryz.sorts48 _) (enters_of func102 (by kernel_rfl) rfl) 103 #[.pointer<|some ⟨Bm,o,none⟩] trivial (enters_of func103 (by kernel_rfl) rfl) _ _ hmax hbytes _ hseq
end Go.Proofs
namespace Go.Proofs.YtbnmnkpkjmoehaaGreatDoor
open Go.Proofs.Tryz
open Go.AM
def JN{P:Go.Program}{e:Go.TypeId}{sz bytes:Nat}(h:(match P.info? e with|some i=>(match i.zero with|some z=>z.cells.size==sz&&(i.size==sz&&i.bytes==bytes)|none=>false)|none=>false)=true):
 ∃i0 z,P.info? e=some i0/\i0.zero=some z/\i0.size=sz/\i0.bytes=bytes/\z.cells.size=sz:=by
 split at h
 .rename_i i hi;split at h
  .rename_i z hz;simp only[Bool.and_eq_true,beq_iff_eq]at h;exact⟨i,z,hi,hz,h.2.1,h.2.2,h.1⟩
  .cases h
 .cases h
def lfS{P:Go.Program}{E:Env}{f k:Nat}{a q:List AV->Hp->Option (AV×Hp)}{r:Option (List AV->Hp->Option (AV×Hp))}(h:(bif Nat.beq f k then some a else r)=some q)(g:Qn P E k a)(e:r=some q->Qn P E f q):Qn P E f q:=by
 cases hb:Nat.beq f k with
 |true=>
  rw[hb]at h;obtain rfl:a=q:=Option.some.inj h;rw[Nat.eq_of_beq_eq_true hb];exact g
 |false=>
  rw[hb]at h;exact e h
def nnS{f:Nat}{q:List AV->Hp->Option (AV×Hp)}{P:Go.Program}{E:Env}(h:(none:Option<|List AV->Hp->Option (AV×Hp))=some q):Qn P E f q:=by cases h
variable [REdz]
def ZW1:Qn Tryz.prog rE 157 J7:=EV (Go.Proofs.enters_of func157 (by kernel_rfl) rfl) (λblk off cap ss w hH hb hs=>Go.Proofs.Tryz.slices_Sort_string blk off cap ss w hH hb hs)<|λp cap w=>Go.Proofs.Tryz.slices_Sort_string_none p cap w
def ZW2:Qn Tryz.prog rE 158 J8:=EY (Go.Proofs.enters_of func158 (by kernel_rfl) rfl) (λblk off cap zs w hH h1 h2=>Go.Proofs.Tryz.slices_Compact_string blk off cap zs w hH h1 h2)<|λp cap w=>Go.Proofs.Tryz.slices_Compact_string_empty p cap w
def ZW3:Qn Tryz.prog rE 245 U9:=EK (Go.Proofs.enters_of func245 (by kernel_rfl) rfl)<|λs c w=>Go.Proofs.Tryz.strings_IndexByte s c w
def Z8a:Qn Tryz.prog rE 246 J5:=EM (Go.Proofs.enters_of func246 (by kernel_rfl) rfl) (λs n w h1 h2=>(Go.Proofs.Tryz.strconv_Atoi s n h1 h2 w).mono (by
 rintro e w' ⟨rfl,t,rfl⟩;exact⟨rfl,Go.Lib.bytesWorld_below w _ t⟩))
def ZW4:Qn Tryz.prog rE 134 J9:=by
 obtain⟨i0,z,a1,a2,a3,a4,a5⟩:=JN (P:=Tryz.prog) (e:=9) (sz:=1) (bytes:=16)<|by kernel_rfl
 exact EZ (el:=9) (Go.Proofs.enters_of func134 (by kernel_rfl) rfl) (λb off n c news w h1 h2 h3 h4 h5=>Go.Proofs.Tryz.slices_Clone i0 z 1 16 a1 a2 a3 a4 a5 (by decide) (λw=>by kernel_rfl) b off n c news w h1 h2 h3 h4 h5)
  (λn c w=>Go.Proofs.Tryz.slices_Clone_string_nil n c w) (λa c w=>Go.Proofs.Tryz.slices_Clone_string_zero a c w)
def Z7V:Qn Tryz.prog rE 212 Ja:=I2 (el:=9) (Go.Proofs.enters_of func212 (by kernel_rfl) rfl)<|λs x w hs=>Go.Proofs.Z9R Go.Proofs.Tryz.lays146 (by kernel_rfl) s x w hs
def ZW5:Qn Tryz.prog rE 138 (ZPh 2):=by
 obtain⟨i0,z,a1,a2,a3,a4,a5⟩:=JN (P:=Tryz.prog) (e:=Go.Proofs.Tryz.laysSlE041_f138_ren.t 23) (sz:=2) (bytes:=16)<|by kernel_rfl
 exact ZSy (bytes:=16) (by decide) (by decide) (Go.Proofs.enters_of func138 (by kernel_rfl) rfl) (λb off n c news w h1 h2 h3 h4 h5=>Go.Proofs.AnyE.slices_Clone Go.Proofs.Tryz.laysSlE041_f138 i0 z 2 16 a1 a2 a3 a4 a5 (by decide) (λw=>by kernel_rfl) b off n c news w h1 h2 h3 h4 h5)
  (λn c w=>Go.Proofs.AnyE.slices_Clone_nil Go.Proofs.Tryz.laysSlE041_f138 n c w) (λa c w=>Go.Proofs.ZWc Go.Proofs.Tryz.laysSlE041_f138 i0 z 2 16 a1 a2 a3 a4 a5 (by decide) (λw=>by kernel_rfl) a c w)
def ZW6:Qn Tryz.prog rE 48 (ZoZ 103):=Zq6 (kt:=3) (by kernel_rfl) (Go.Proofs.enters_of func48 (by kernel_rfl) rfl)<|λBm o b nn D0 R w h1 h2 h3 h4 h5=>Go.Proofs.Tryz.sorted_ints Bm o b nn D0 R w h1 h2 h3 h4 h5
def Z8b:Qn Tryz.prog rE 247 J6:=EN (Go.Proofs.enters_of func247 (by kernel_rfl) rfl)<|λs c w hs h2 ha=>Go.Proofs.Z9S Go.Proofs.Tryz.lays153 (by kernel_rfl) (by kernel_rfl) s c w hs h2 ha
end Go.Proofs.YtbnmnkpkjmoehaaGreatDoor
namespace Go.Proofs.YtbnmnkpkjmoehaaGreatDoor
open Go.AM
def brS{α:Type}{b:Bool}{x y:Option α}{q:α}{G:Prop}(h:(bif b then x else y)=some q)(h1:x=some q->G)(h2:y=some q->G):G:=by
 cases b with
 |true=>exact h1 h
 |false=>exact h2 h
def ZQG{P:Go.Program}{E E':Env}{f:Nat}{s:List AV->Hp->Option (AV×Hp)}(hgl:∀g,E.gl g=E'.gl g)(h:Qn P E f s):Qn P E' f s:=
 λargs hp v h' hs T X w rargs hcr c hr=>h args hp v h' hs T X w rargs hcr (c.env hgl) hr
def ZQH{P:Go.Program}{E E':Env}{f:Nat}{s:List AV->Nat->List AV->Option (List AV)}(hgl:∀g,E.gl g=E'.gl g)(h:ZEs P E f s):ZEs P E' f s:=
 λargs hp v wr hs T X w rargs hcr c hr=>h args hp v wr hs T X w rargs hcr (c.env hgl) hr
def ZIF[REdz](f:Nat)(s:List AV->Hp->Option (AV×Hp))(h:N8 f=some s):Qn Tryz.prog rE f s:=by
 unfold N8 at h;exact(brS h (λh=>(brS h (λh=>(brS h (λh=>(lfS h ZW6 nnS))<|λh=>(lfS h ZW4 nnS)))<|λh=>(brS h (λh=>(lfS h ZW5 nnS))<|λh=>(lfS h ZW1 nnS))))<|λh=>(brS h (λh=>(brS h (λh=>(lfS h ZW2 nnS))<|λh=>(lfS h Z7V nnS)))<|λh=>(brS h (λh=>(lfS h ZW3 nnS))<|λh=>(brS h (λh=>(lfS h Z8a nnS))<|λh=>(lfS h Z8b nnS)))))
def lfO{P:Go.Program}{E:Env}{f k:Nat}{x r:Option (List AV->Hp->Option (AV×Hp))}{q:List AV->Hp->Option (AV×Hp)}(h:(bif Nat.beq f k then x else r)=some q)(g:x=some q->Qn P E k q)(e:r=some q->Qn P E f q):Qn P E f q:=by
 cases hb:Nat.beq f k with
 |true=>
  rw[hb]at h;rw[Nat.eq_of_beq_eq_true hb];exact g h
 |false=>
  rw[hb]at h;exact e h
def ZSr[REdz](g:∀q,REdz.hd=some q->Qn Tryz.prog rE 4 q):EnvOk Tryz.prog rE:=
 ⟨λ_=>rfl,λf q h=>Z98 f q h,λf s h=>lfO h (g s)<|ZIF f s,λ_ _ h=>by cases h⟩
def ZOA:EnvOk Tryz.prog (@rE ZOH):=@ZSr ZOH<|λq h=>nomatch (show(none:Option _)=some q from h)
def ZW7(args:List AV)(v:AV)(h:ZQy args=some v):pfn (@rE ZOH) 168 args=some v:=by
 unfold ZQy at h;split at h
 .cases h;exact @Z1W ZOH _
 .cases h
def ZQI:EnvOk Tryz.prog ZOf:=
 ⟨ZOA.gl,ZOA.fn,λf s h=>lfS h (ZOR (E:=ZOf) ZOA (λ_=>rfl) ZW7) λh=>ZQG (E:=@rE ZOH) (E':=ZOf) (λ_=>rfl)<|ZOA.sum f s h,λf s h=>ZQH (E:=@rE ZOH) (E':=ZOf) (λ_=>rfl)<|ZOA.rs f s h⟩
def ZPJ:EnvOk Tryz.prog ZO7:=
 ⟨ZOA.gl,ZOA.fn,λf s h=>lfS h (ZOR (E:=ZO7) ZQI (λ_=>rfl)<|ZPg ZVD) λh=>lfS h (ZOR (E:=ZO7) ZQI (λ_=>rfl)<|ZPg ZVw) λh=>ZQG (E:=ZOf) (E':=ZO7) (λ_=>rfl)<|ZQI.sum f s h,
  λf s h=>ZQH (E:=@rE ZOH) (E':=ZO7) (λ_=>rfl)<|ZOA.rs f s h⟩
def ZW8:EnvOk Tryz.prog ZOJ:=
 ⟨ZOA.gl,ZOA.fn,λf s h=>lfS h (ZOR (E:=ZOJ) ZPJ (λ_=>rfl)<|ZPg ZVH) λh=>lfS h (ZOR (E:=ZOJ) ZPJ (λ_=>rfl)<|ZPg ZVY) λh=>lfS h (ZOR (E:=ZOJ) ZPJ (λ_=>rfl)<|ZPg ZVW) λh=>lfS h (ZOR (E:=ZOJ) ZPJ (λ_=>rfl)<|ZPg ZVT) λh=>ZQG (E:=ZO7) (E':=ZOJ) (λ_=>rfl)<|ZPJ.sum f s h,
  λf s h=>ZQH (E:=@rE ZOH) (E':=ZOJ) (λ_=>rfl)<|ZOA.rs f s h⟩
def ZPK(args:List AV):Option AV:=match args with|[]=>some (.bool true)|_=>none
def ZW9(args:List AV)(v:AV)(h:ZPK args=some v):pfn ZOJ 4 args=some v:=by
 unfold ZPK at h;split at h
 .cases h;exact ZW0
 .cases h
@[reducible] def R1:REdz:=⟨some<|ZOr ZPK⟩
def ZWa:EnvOk Tryz.prog (@rE R1):=@ZSr R1 (λq h=>by
 obtain rfl:ZOr ZPK=q:=Option.some.inj h;exact ZOR (E:=@rE R1) ZW8 (λ_=>rfl) ZW9)
def ZWb:pfn (@rE R1) 4 []=some (.bool true):=by
 unfold pfn;rw[V8 (E:=@rE R1) (s:=ZOr ZPK) rfl];rfl
end Go.Proofs.YtbnmnkpkjmoehaaGreatDoor
namespace Go.Proofs.YtbnmnkpkjmoehaaGreatDoor
open Go.AM
def ZCK:sig Tryz.prog 10 Tryz.f3.params.toList=some ZQF:=by kernel_rfl
def Z9l(W:Go.World):GlR (@rE R1) T0 (X0 Tryz.prog) W:=λg=>⟨trivial,trivial⟩
theorem claimsMatchesReference_card:Rows.ClaimsMatchesReferenceCardSaid:=ZCI ZWa Z9l (n:=10) (S:=ZQF) rfl ZCK (@ZCJ R1 ZWb)
end Go.Proofs.YtbnmnkpkjmoehaaGreatDoor
