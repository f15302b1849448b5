/- RegistryMatchesReference holds for all its arguments. No condition. -/
import Derived.Test.YtmmfbjlenjnckaaGreatDoorT3
import Derived.Test.YtmmfbjlenjnckaaGreatDoorQ5
import Derived.Test.YtmmfbjlenjnckaaGreatDoorP3d
import Derived.Test.YtmmfbjlenjnckaaGreatDoorH3
import Derived.Test.YtmmfbjlenjnckaaGreatDoorR3
import Derived.Shelf.Small.Utf8
import Derived.Shelf.Small.Bits
import Derived.Shelf.Small.Strs
import Derived.Shelf.Utf8.RuneCount
import Derived.Shelf.Strconv.Atoi
import Derived.Shelf.Strconv.Itoa0
import Derived.Shelf.Strconv.Itoa1
import Derived.Shelf.LaysM
import Derived.Shelf.Strconv.Itoa2
import Derived.Shelf.Strconv.Itoa3
import Derived.Shelf.Strconv.AtoiErrFast
import Derived.Shelf.Strconv.ParseIntEmpty
import Derived.Shelf.Strconv.AtoiFail
import Derived.Shelf.Strconv.Clone
import Derived.Shelf.Strconv.SyntaxError
import Derived.Shelf.LaysC
import Derived.Shelf.Strconv.ToError
import Derived.Shelf.Strconv.AtoiErr
import Derived.Shelf.Strconv.ErrVar
import Derived.Shelf.Strconv.Lower
import Derived.Shelf.Strconv.ParseUint10
import Derived.Shelf.Strconv.ParseUint10Empty
import Derived.Shelf.Strconv.ParseUint10Any
import Derived.Shelf.Strconv.ParseInt10
import Derived.Shelf.Strconv.AtoiLong
import Derived.Shelf.Strconv.AtoiInnerAll
import Derived.Shelf.Strconv.RangeError
import Derived.Shelf.Strconv.ToErrorRange
import Derived.Shelf.Strconv.AtoiAll
import Derived.Shelf.Strconv.ParseUintEmpty
import Derived.Shelf.Strconv.ParseUint10b64
import Derived.Shelf.Strconv.ParseUint10b32
import Derived.Shelf.Strconv.ParseUint10b16
import Derived.Shelf.Strconv.ParseUint10b8
import Derived.Shelf.Strconv.ParseUint10At
import Derived.Shelf.Strconv.ParseInt10At64
import Derived.Shelf.Strconv.ParseInt10At32
import Derived.Shelf.Strconv.ParseInt10At16
import Derived.Shelf.Strconv.ParseInt10At8
import Derived.Shelf.Strconv.ParseInt10All
import Derived.Shelf.Strings.Search1
import Derived.Shelf.Strings.Search2
import Derived.Shelf.Strings.Search3
import Derived.Shelf.Strings.Count
import Derived.Shelf.Strings.Shaped
import Derived.Shelf.Sort.Plain
import Derived.Shelf.Strings.Prefix
import Derived.Shelf.Strings.Split
import Derived.Shelf.Strings.SplitShaped
import Derived.Shelf.Unicode.Decode
import Derived.Shelf.Strings.Runes
import Derived.Shelf.Strings.RuneCount
import Derived.Shelf.Strings.IndexAny
import Derived.Shelf.Strings.AsciiSet
import Derived.Shelf.Strings.IndexAnyAll
import Derived.Shelf.Strings.Explode
import Derived.Shelf.Unicode.DecodeSlow
import Derived.Shelf.Unicode.DecodeAny
import Derived.Shelf.Slices.Turned
import Derived.Ground.Names2Prog
import Derived.Shelf.Slices.Clone
import Derived.Shelf.Slices.CompactS
import Derived.Shelf.Slices.Cells
import Derived.Shelf.Slices.In.SortNone
import Derived.Ground.SlgnProg
import Derived.Shelf.SlicesE.Clone
import Derived.Lib.AtoiErrMem
set_option linter.unusedVariables false
set_option linter.defProp false
set_option linter.unusedSimpArgs false
set_option linter.unusedSectionVars false
namespace Go.AM
open Go
def Mb{α:Type}{f:α->AV}:∀{l:List AV},(∀x∈l,∃y,x=f y)->∃m:List α,l=m.map f
 |[],_=>⟨[],rfl⟩
 |x::r,h=>by
  obtain⟨y,rfl⟩:=h x<|List.mem_cons_self ..;obtain⟨m,rfl⟩:=Mb<|λz hz=>h z<|List.mem_cons_of_mem _ hz
  exact⟨y::m,rfl⟩
def YY{s:CSh}{ss:List CSh}{l:List AV}:Wcs (s::ss) l↔∃a r,l=a::r/\Wc s a/\Wcs ss r:=by rw[Wcs]
def Xo{l:List AV}:Wcs [] l↔l=[]:=by rw[Wcs]
def ZQ{k:IntKind}{a:AV}(h:Wc (.int k) a):∃n,a=.int k n:=by rw[Wc]at h;obtain⟨n,h,_⟩:=h;exact⟨n,h⟩
def Y4{a:AV}(h:Wc .str a):∃s:ByteArray,a=.str s:=by rw[Wc]at h;obtain⟨n,h,_⟩:=h;exact⟨n,h⟩
def YB{α:Type}{f:α->AV}{es:List CSh}{a:AV}(hd:∀cs,Wcs es cs->∃y,AV.agg cs=f y)(h:Wc (.sl true es) a):∃m:List α,a=.isl false false es.length (m.map f):=by
 rw[Wc]at h;obtain⟨xs,rfl,_,h2⟩:=h;obtain⟨m,rfl⟩:=Mb (f:=f) (l:=xs) (λx hx=>by
  obtain⟨cs,rfl,h3⟩:=(h2 x hx).1 rfl;exact hd cs h3)
 exact⟨m,rfl⟩
def C8{α:Type}{f:α->AV}{s:CSh}{a:AV}(hd:∀x,Wc s x->∃y,x=f y)(h:Wc (.sl false [s]) a):∃m:List α,a=.isl false false 1 (m.map f):=by
 rw[Wc]at h;obtain⟨xs,rfl,_,h2⟩:=h;obtain⟨m,rfl⟩:=Mb (f:=f) (l:=xs) (λx hx=>by
  have h3:=(h2 x hx).2 rfl;rw[YY]at h3;obtain⟨a,r,h4,h5,h6⟩:=h3;rw[Xo]at h6;subst h6;cases h4;exact hd x h5)
 exact⟨m,rfl⟩
abbrev iS:CSh:=.int .i64
abbrev ptS:List CSh:=[iS,iS]
abbrev nmS:List CSh:=[.str,iS,.str]
abbrev ZSh:List CSh:=[.str,iS,.str,iS,iS,iS,iS]
abbrev rgS:List CSh:=[.str,iS,iS,.sl true ptS,.sl true nmS,iS]
abbrev C9:List CSh:=[.str,iS,.sl true ptS,.sl true nmS,iS]
abbrev buS:List CSh:=[.str,iS,.sl true ptS,iS]
abbrev drS:List CSh:=[.str,.str,.str,iS,iS,.str,iS,iS,iS,iS,iS,iS,.sl false [.str],iS,iS,.str]
abbrev unS:List CSh:=[.str,.str,.str,iS,iS,iS]
abbrev sS:List CSh:=[.sl true rgS,.sl true C9,.sl true buS,.sl true drS,.sl true unS,.sl true ptS,.sl true ptS]
abbrev evS:List CSh:=[iS,iS,iS,iS,iS,.str,.str,.str,.sl false [.str],.sl true nmS,iS,.str,iS,iS,iS,iS,.sl true ptS,.sl true ZSh]
def HQ(cs:List AV)(h:Wcs ptS cs):∃y:Pt,AV.agg cs=y.enc:=by
 simp only[YY,Xo]at h;obtain⟨a,_,rfl,h1,b,_,rfl,h2,rfl⟩:=h;obtain⟨x,rfl⟩:=ZQ h1;obtain⟨y,rfl⟩:=ZQ h2;exact⟨⟨x,y⟩,rfl⟩
def Ca(cs:List AV)(h:Wcs ptS cs):∃y:bf,AV.agg cs=y.enc:=by
 simp only[YY,Xo]at h;obtain⟨a,_,rfl,h1,b,_,rfl,h2,rfl⟩:=h;obtain⟨x,rfl⟩:=ZQ h1;obtain⟨y,rfl⟩:=ZQ h2;exact⟨⟨x,y⟩,rfl⟩
def Mc(cs:List AV)(h:Wcs nmS cs):∃y:Nm,AV.agg cs=y.enc:=by
 simp only[YY,Xo]at h;obtain⟨a,_,rfl,h1,b,_,rfl,h2,c,_,rfl,h3,rfl⟩:=h;obtain⟨x,rfl⟩:=Y4 h1;obtain⟨y,rfl⟩:=ZQ h2;obtain⟨z,rfl⟩:=Y4 h3;exact⟨⟨x,y,z⟩,rfl⟩
def Z6e(cs:List AV)(h:Wcs ZSh cs):∃y:Ent,AV.agg cs=y.enc:=by
 simp only[YY,Xo]at h;obtain⟨_,_,rfl,h1,_,_,rfl,h2,_,_,rfl,h3,_,_,rfl,h4,_,_,rfl,h5,_,_,rfl,h6,_,_,rfl,h7,rfl⟩:=h;obtain⟨a,rfl⟩:=Y4 h1;obtain⟨b,rfl⟩:=ZQ h2;obtain⟨c,rfl⟩:=Y4 h3;obtain⟨d,rfl⟩:=ZQ h4;obtain⟨e,rfl⟩:=ZQ h5;obtain⟨f,rfl⟩:=ZQ h6;obtain⟨g,rfl⟩:=ZQ h7;exact⟨⟨a,⟨b,c,d,e⟩,⟨f,g⟩⟩,rfl⟩
def Cb(x:AV)(h:Wc .str x):∃y:Str,x=encS y:=Y4 h
def Z6f(cs:List AV)(h:Wcs rgS cs):∃y:Gk,AV.agg cs=y.enc:=by
 simp only[YY,Xo]at h;obtain⟨_,_,rfl,h1,_,_,rfl,h2,_,_,rfl,h3,_,_,rfl,h4,_,_,rfl,h5,_,_,rfl,h6,rfl⟩:=h;obtain⟨a,rfl⟩:=Y4 h1;obtain⟨b,rfl⟩:=ZQ h2;obtain⟨c,rfl⟩:=ZQ h3;obtain⟨d,rfl⟩:=YB HQ h4;obtain⟨e,rfl⟩:=YB Mc h5;obtain⟨f,rfl⟩:=ZQ h6;exact⟨⟨a,b,c,⟨false,d⟩,⟨false,e⟩,f⟩,rfl⟩
def Z6g(cs:List AV)(h:Wcs C9 cs):∃y:By,AV.agg cs=y.enc:=by
 simp only[YY,Xo]at h;obtain⟨_,_,rfl,h1,_,_,rfl,h2,_,_,rfl,h4,_,_,rfl,h5,_,_,rfl,h6,rfl⟩:=h;obtain⟨a,rfl⟩:=Y4 h1;obtain⟨b,rfl⟩:=ZQ h2;obtain⟨d,rfl⟩:=YB HQ h4;obtain⟨e,rfl⟩:=YB Mc h5;obtain⟨f,rfl⟩:=ZQ h6;exact⟨⟨a,b,⟨false,d⟩,⟨false,e⟩,f⟩,rfl⟩
def Z6h(cs:List AV)(h:Wcs buS cs):∃y:Ev,AV.agg cs=y.enc:=by
 simp only[YY,Xo]at h;obtain⟨_,_,rfl,h1,_,_,rfl,h2,_,_,rfl,h4,_,_,rfl,h6,rfl⟩:=h;obtain⟨a,rfl⟩:=Y4 h1;obtain⟨b,rfl⟩:=ZQ h2;obtain⟨d,rfl⟩:=YB HQ h4;obtain⟨f,rfl⟩:=ZQ h6;exact⟨⟨a,b,⟨false,d⟩,f⟩,rfl⟩
def Z6i(cs:List AV)(h:Wcs unS cs):∃y:be,AV.agg cs=y.enc:=by
 simp only[YY,Xo]at h;obtain⟨_,_,rfl,h1,_,_,rfl,h2,_,_,rfl,h3,_,_,rfl,h4,_,_,rfl,h5,_,_,rfl,h6,rfl⟩:=h;obtain⟨a,rfl⟩:=Y4 h1;obtain⟨b,rfl⟩:=Y4 h2;obtain⟨c,rfl⟩:=Y4 h3;obtain⟨d,rfl⟩:=ZQ h4;obtain⟨e,rfl⟩:=ZQ h5;obtain⟨f,rfl⟩:=ZQ h6;exact⟨⟨a,b,c,d,e,f⟩,rfl⟩
def Z6j(cs:List AV)(h:Wcs drS cs):∃y:Ga,AV.agg cs=y.enc:=by
 simp only[YY,Xo]at h;obtain⟨_,_,rfl,h1,_,_,rfl,h2,_,_,rfl,h3,_,_,rfl,h4,_,_,rfl,h5,_,_,rfl,h6,_,_,rfl,h7,_,_,rfl,h8,_,_,rfl,h9,_,_,rfl,h10,_,_,rfl,h11,_,_,rfl,h12,_,_,rfl,h13,_,_,rfl,h14,_,_,rfl,h15,_,_,rfl,h16,rfl⟩:=h;obtain⟨a1,rfl⟩:=Y4 h1;obtain⟨a2,rfl⟩:=Y4 h2;obtain⟨a3,rfl⟩:=Y4 h3;obtain⟨a4,rfl⟩:=ZQ h4;obtain⟨a5,rfl⟩:=ZQ h5;obtain⟨a6,rfl⟩:=Y4 h6;obtain⟨a7,rfl⟩:=ZQ h7;obtain⟨a8,rfl⟩:=ZQ h8;obtain⟨a9,rfl⟩:=ZQ h9;obtain⟨a10,rfl⟩:=ZQ h10;obtain⟨a11,rfl⟩:=ZQ h11;obtain⟨a12,rfl⟩:=ZQ h12;obtain⟨a13,rfl⟩:=C8 Cb h13;obtain⟨a14,rfl⟩:=ZQ h14;obtain⟨a15,rfl⟩:=ZQ h15;obtain⟨a16,rfl⟩:=Y4 h16;exact⟨⟨a1,a2,a3,a4,⟨a5,a6,a7,a8⟩,⟨a9,a10⟩,a11,a12,⟨false,a13⟩,a14,a15,a16⟩,rfl⟩
def Z6k(cs:List AV)(h:Wcs sS cs):∃s:Sta,AV.agg cs=stA s:=by
 simp only[YY,Xo]at h;obtain⟨_,_,rfl,h1,_,_,rfl,h2,_,_,rfl,h3,_,_,rfl,h4,_,_,rfl,h5,_,_,rfl,h6,_,_,rfl,h7,rfl⟩:=h;obtain⟨a1,rfl⟩:=YB Z6f h1;obtain⟨a2,rfl⟩:=YB Z6g h2;obtain⟨a3,rfl⟩:=YB Z6h h3;obtain⟨a4,rfl⟩:=YB Z6j h4;obtain⟨a5,rfl⟩:=YB Z6i h5;obtain⟨a6,rfl⟩:=YB Ca h6;obtain⟨a7,rfl⟩:=YB Ca h7;exact⟨⟨a1,a2,a3,a4,a5,a6,a7⟩,rfl⟩
def Z6l(cs:List AV)(h:Wcs evS cs):∃e:Gt,AV.agg cs=evA e:=by
 simp only[YY,Xo]at h;obtain⟨_,_,rfl,h1,_,_,rfl,h2,_,_,rfl,h3,_,_,rfl,h4,_,_,rfl,h5,_,_,rfl,h6,_,_,rfl,h7,_,_,rfl,h8,_,_,rfl,h9,_,_,rfl,h10,_,_,rfl,h11,_,_,rfl,h12,_,_,rfl,h13,_,_,rfl,h14,_,_,rfl,h15,_,_,rfl,h16,_,_,rfl,h17,_,_,rfl,h18,rfl⟩:=h;obtain⟨a1,rfl⟩:=ZQ h1;obtain⟨a2,rfl⟩:=ZQ h2;obtain⟨a3,rfl⟩:=ZQ h3;obtain⟨a4,rfl⟩:=ZQ h4;obtain⟨a5,rfl⟩:=ZQ h5;obtain⟨a6,rfl⟩:=Y4 h6;obtain⟨a7,rfl⟩:=Y4 h7;obtain⟨a8,rfl⟩:=Y4 h8;obtain⟨a9,rfl⟩:=C8 Cb h9;obtain⟨a10,rfl⟩:=YB Mc h10;obtain⟨a11,rfl⟩:=ZQ h11;obtain⟨a12,rfl⟩:=Y4 h12;obtain⟨a13,rfl⟩:=ZQ h13;obtain⟨a14,rfl⟩:=ZQ h14;obtain⟨a15,rfl⟩:=ZQ h15;obtain⟨a16,rfl⟩:=ZQ h16;obtain⟨a17,rfl⟩:=YB HQ h17;obtain⟨a18,rfl⟩:=YB Z6e h18;exact⟨⟨a1,a2,a3,a4,a5,a6,a7,a8,⟨false,a9⟩,⟨false,a10⟩,⟨a11,a12,a13,a14⟩,⟨a15,a16⟩,⟨false,a17⟩,⟨false,a18⟩⟩,rfl⟩
def ZWE{k:IntKind}{a:AV}(h:Wcs [.int k] [a]):∃n,a=.int k n:=by
 rw[YY]at h;obtain⟨_,_,e,k,_⟩:=h;cases e;exact ZQ k
def ZWF{a:AV}(h:Wcs [.str] [a]):∃n,a=.str n:=by
 rw[YY]at h;obtain⟨_,_,e,k,_⟩:=h;cases e;exact Y4 k
abbrev ZQs:List (Bool×List CSh):=[(true,sS),(false,[iS]),(true,evS),(false,[.str])]
def ZCJ[REdz](hup:pfn rE 5 []=some (.bool true))(xs:List AV)(h:Wvs ZQs xs):pfn rE 3 xs=some (.bool true):=by
 obtain⟨x,_,rfl,h1,_,y,_,rfl,_,h2,z,_,rfl,h3,_,u,_,rfl,_,h4,h6⟩:=h;have h6':_=[]:=h6;subst h6';obtain⟨c1,rfl,k1⟩:=h1 rfl;obtain⟨s,hs⟩:=Z6k c1 k1;obtain⟨a,rfl⟩:=ZWE<|h2 rfl;obtain⟨c5,rfl,k5⟩:=h3 rfl;obtain⟨e,he⟩:=Z6l c5 k5;obtain⟨d,rfl⟩:=ZWF<|h4 rfl;rw[hs,he];exact ZCp hup s a e d
end Go.AM
namespace Go.Proofs
open Go.Proofs.Tryz
open Go.Shelf
def Tryz.lays137_ren:Go.Shelf.Ren:=⟨λ|137=>310|217=>325|266=>339|n=>n,λ|9=>9|5=>5|3=>3|n=>n,λ|n=>n⟩
def Tryz.lays137:Go.Proofs.Lays.n137 Tryz.prog Tryz.lays137_ren:=by
 constructor
 all_goals (intros;kernel_rfl)
open Go.RowKit in
def Tryz.strings_IndexByte(s:ByteArray)(c:Int)(w:World):
 Calls Tryz.prog 310 #[.string s,.int .u8 c] w λe w'=>e=.returned (.int .i64<|Lib.indexByte s.data.toList c.toNat.toUInt8)/\w'=w:=Any.strings_IndexByte Tryz.lays137 s c w
def Tryz.lays172_ren:Go.Shelf.Ren:=⟨λ|172=>311|244=>326|245=>327|247=>340|279=>341|280=>342|281=>343|282=>344|287=>352|316=>353|171=>355|205=>354|321=>358|322=>359|243=>360|246=>362|283=>363|284=>364|285=>365|286=>366|129=>267|317=>367|318=>368|319=>369|320=>370|337=>371|338=>372|n=>n,λ|9=>9|3=>3|75=>288|76=>289|4=>4|5=>5|167=>317|37=>318|0=>0|85=>319|2=>2|168=>321|53=>243|175=>328|46=>210|210=>331|127=>335|145=>338|143=>336|21=>21|171=>346|173=>348|212=>351|51=>241|20=>20|213=>352|232=>353|233=>354|80=>355|n=>n,λ|15=>1|16=>2|17=>5|18=>6|19=>7|n=>n⟩
def Tryz.lays172:Go.Proofs.Lays.n172 Tryz.prog Tryz.lays172_ren:=by
 constructor
 all_goals (intros;kernel_rfl)
open Go.RowKit in
def Tryz.strconv_Atoi(s:ByteArray)(n:Int)(hl:s.size<=18)(h:Lib.atoi s.data.toList=some n)(w:World):
 Calls Tryz.prog 311 #[.string s] w λe w'=>e=.returned (.tuple #[.int .i64 n,.nilIface])/\∃t,w'=Lib.bytesWorld w 5 t:=Any.strconv_Atoi Tryz.lays172 s n hl h w
def Tryz.lays190_ren:Go.Shelf.Ren:=⟨λ|190=>157|125=>227|258=>226|128=>266|129=>267|302=>257|303=>258|304=>259|305=>260|306=>261|307=>262|308=>263|309=>264|310=>265|333=>296|329=>297|330=>298|334=>299|335=>300|336=>229|344=>322|n=>n,λ|31=>30|9=>9|3=>3|46=>210|0=>0|51=>241|53=>243|4=>4|183=>233|182=>232|131=>238|5=>5|218=>273|222=>277|228=>303|229=>304|n=>n,λ|n=>n⟩
def Tryz.lays190:Go.Proofs.Lays.n190 Tryz.prog Tryz.lays190_ren:=by
 constructor
 all_goals (intros;kernel_rfl)
open Go.Sort Go.RowKit in
def Tryz.slices_Sort_string(blk off cap:Nat)(ss:List<|List UInt8)(w:World)(hH:Holds encStr w blk off ss.toArray)(hblk:blk<w.heap.size)(hsz:ss.length<4611686018427387904):
 Calls Tryz.prog 157 #[.slice (some ⟨blk,off,none⟩) ss.length cap] w λe w'=>
  e=.returned (.tuple #[])/\∃n os,w'=grow (putRow encStr (Sort.ahead w n) blk off (ss.mergeSort λx y=>decide (x<=y)).toArray) os:=Any.slices_Sort_string Tryz.lays190 blk off cap ss w hH hblk hsz
def Tryz.lays146_ren:Go.Shelf.Ren:=⟨λ|146=>291|221=>320|268=>336|138=>337|143=>338|195=>348|197=>349|218=>350|219=>351|260=>356|217=>325|225=>347|224=>346|267=>357|266=>339|314=>361|n=>n,λ|9=>9|31=>30|3=>3|4=>4|0=>0|105=>326|21=>21|5=>5|46=>210|119=>339|139=>342|138=>341|146=>343|51=>241|n=>n,λ|1=>0|3=>3|4=>4|n=>n⟩
def Tryz.lays146:Go.Proofs.Lays.n146 Tryz.prog Tryz.lays146_ren:=by
 constructor
 all_goals (intros;kernel_rfl)
def Tryz.lays153_ren:Go.Shelf.Ren:=⟨λ|153=>312|152=>328|226=>329|227=>330|228=>331|137=>310|119=>345|224=>346|225=>347|217=>325|266=>339|n=>n,λ|9=>9|3=>3|4=>4|5=>5|21=>21|117=>312|116=>311|0=>0|46=>210|124=>324|n=>n,λ|n=>n⟩
def Tryz.lays153:Go.Proofs.Lays.n153 Tryz.prog Tryz.lays153_ren:=by
 constructor
 all_goals (intros;kernel_rfl)
def Tryz.laysNm216_ren:Go.Shelf.Ren:=⟨λ|16=>156|n=>n,λ|24=>30|9=>9|4=>4|n=>n,λ|n=>n⟩
def Tryz.laysNm216:Go.Proofs.Lays2.n16 Tryz.prog Tryz.laysNm216_ren:=by
 constructor
 all_goals (intros;kernel_rfl)
open Go.RowKit Go.Lib in
def Tryz.slices_Clone_string_nil(n c:Nat)(w:World):
 Calls Tryz.prog 156 #[.slice none n c] w λe w'=>e=.returned (.slice none 0 0)/\w'=w:=Any.slices_Clone_string_nil Tryz.laysNm216 n c w
open Go.RowKit Go.Lib in
def Tryz.slices_Clone_string_zero(a:Addr)(c:Nat)(w:World):
 Calls Tryz.prog 156 #[.slice (some a) 0 c] w λe w'=>∃v',e=.returned v'/\w'.ownsRow w.heap.size 9 1 v' 0 []/\v'≠.slice none 0 0/\Below w.heap.size w w':=Any.slices_Clone_string_zero Tryz.laysNm216 a c w
def Tryz.lays194_ren:Go.Shelf.Ren:=⟨λ|194=>158|n=>n,λ|31=>30|9=>9|3=>3|4=>4|0=>0|n=>n,λ|n=>n⟩
def Tryz.lays194:Go.Proofs.Lays.n194 Tryz.prog Tryz.lays194_ren:=by
 constructor
 all_goals (intros;kernel_rfl)
open Go.RowKit Go.Lib Go.Sort in
def Tryz.slices_Compact_string(blk off cap:Nat)(zs:List<|List UInt8)(w:World)(hH:Holds encStr w blk off zs.toArray)(hsz:zs.length<=9223372036854775807)(hcap:zs.length<=cap):
 Calls Tryz.prog 158 #[.slice (some ⟨blk,off,none⟩) zs.length cap] w λe w'=>e=.returned (.slice (some ⟨blk,off,none⟩) (Lib.compact zs).length cap)/\∃q,w'=putRow encStr (Sort.ahead w q) blk off (Lib.compact zs++List.replicate (zs.length-(Lib.compact zs).length) []).toArray:=Any.slices_Compact_string Tryz.lays194 blk off cap zs w hH hsz hcap
open Go.RowKit Go.Lib Go.Sort in
def Tryz.slices_Compact_string_empty(a:Option Addr)(cap:Nat)(w:World):
 Calls Tryz.prog 158 #[.slice a 0 cap] w λe w'=>e=.returned (.slice a 0 cap)/\w'=w:=Any.slices_Compact_string_empty Tryz.lays194 a cap w
open Go.RowKit Go.Sort in
def Tryz.slices_Sort_string_none(p:Option Addr)(cap:Nat)(w:World):
 Calls Tryz.prog 157 #[.slice p 0 cap] w λe w'=>e=.returned (.tuple #[])/\w'=w:=Any.slices_Sort_string_none Tryz.lays190 p cap w
def Tryz.laysSlE041_f156_ren:Go.Shelf.Ren:=⟨λ|41=>156|n=>n,λ|22=>30|23=>9|4=>4|n=>n,λ|n=>n⟩
def Tryz.laysSlE041_f156:Go.Proofs.SlLaysE0.n41 Tryz.prog Tryz.laysSlE041_f156_ren:=by
 constructor
 case f41=>exact⟨f156.name,by decide,func156.trans<|congrArg some<|by kernel_rfl⟩
 all_goals (intros;kernel_rfl)
open Go.RowKit Go.Lib in
def Tryz.slices_Clone(i0:TypeInfo)(z:Value)(size bytes:Nat)(hi:Tryz.prog.info? 9=some i0)(hz0:i0.zero=some z)(hz1:i0.size=size)(hz2:i0.bytes=bytes)(hzs:z.cells.size=size)(hsz:0<size)(z23:∀w,(Go.sizeOf 9).run Tryz.prog w=.ok size w)(b off n c:Nat)(news:List Value)(w:World)(hl:news.length=n*size)(hn:n<=maxLen)(hbig:n*bytes<=140737488355328)(hc:∀j u,news[j]?=some u->w.cell? ⟨b,off+j,none⟩=some u)(h1:∀u∈news,u.oneCell'=true):
 Calls Tryz.prog 156 #[.slice (some ⟨b,off,none⟩) n c] w λe w'=>∃v',e=.returned v'/\w'.ownsRow w.heap.size 9 size v' n news/\v'≠.slice none 0 0/\Below w.heap.size w w':=AnyE.slices_Clone Tryz.laysSlE041_f156 i0 z size bytes hi hz0 hz1 hz2 hzs hsz z23 b off n c news w hl hn hbig hc h1
end Go.Proofs
namespace Go.Proofs
open Go.Proofs.Tryz
open Go.Shelf
def Tryz.laysSlE041_f197_ren:Go.Shelf.Ren:=⟨λ|41=>197|n=>n,λ|22=>22|23=>87|4=>4|n=>n,λ|n=>n⟩
def Tryz.laysSlE041_f197:Go.Proofs.SlLaysE0.n41 Tryz.prog Tryz.laysSlE041_f197_ren:=by
 constructor
 case f41=>exact⟨f197.name,by decide,func197.trans<|congrArg some<|by kernel_rfl⟩
 all_goals (intros;kernel_rfl)
def Tryz.laysSlE041_f200_ren:Go.Shelf.Ren:=⟨λ|41=>200|n=>n,λ|22=>23|23=>91|4=>4|n=>n,λ|n=>n⟩
def Tryz.laysSlE041_f200:Go.Proofs.SlLaysE0.n41 Tryz.prog Tryz.laysSlE041_f200_ren:=by
 constructor
 case f41=>exact⟨f200.name,by decide,func200.trans<|congrArg some<|by kernel_rfl⟩
 all_goals (intros;kernel_rfl)
def Tryz.laysSlE041_f205_ren:Go.Shelf.Ren:=⟨λ|41=>205|n=>n,λ|22=>25|23=>69|4=>4|n=>n,λ|n=>n⟩
def Tryz.laysSlE041_f205:Go.Proofs.SlLaysE0.n41 Tryz.prog Tryz.laysSlE041_f205_ren:=by
 constructor
 case f41=>exact⟨f205.name,by decide,func205.trans<|congrArg some<|by kernel_rfl⟩
 all_goals (intros;kernel_rfl)
def Tryz.laysSlE041_f209_ren:Go.Shelf.Ren:=⟨λ|41=>209|n=>n,λ|22=>24|23=>93|4=>4|n=>n,λ|n=>n⟩
def Tryz.laysSlE041_f209:Go.Proofs.SlLaysE0.n41 Tryz.prog Tryz.laysSlE041_f209_ren:=by
 constructor
 case f41=>exact⟨f209.name,by decide,func209.trans<|congrArg some<|by kernel_rfl⟩
 all_goals (intros;kernel_rfl)
def Tryz.laysSlE041_f212_ren:Go.Shelf.Ren:=⟨λ|41=>212|n=>n,λ|22=>26|23=>71|4=>4|n=>n,λ|n=>n⟩
def Tryz.laysSlE041_f212:Go.Proofs.SlLaysE0.n41 Tryz.prog Tryz.laysSlE041_f212_ren:=by
 constructor
 case f41=>exact⟨f212.name,by decide,func212.trans<|congrArg some<|by kernel_rfl⟩
 all_goals (intros;kernel_rfl)
end Go.Proofs
namespace Go.Proofs.YtmmfbjlenjnckaaGreatDoor
open Go.Proofs.Tryz
open Go.AM
def JN{P:Go.Program}{e:Go.TypeId}{sz bytes:Nat}(h:(match P.info? e with|some i=>(match i.zero with|some z=>z.cells.size==sz&&(i.size==sz&&i.bytes==bytes)|none=>false)|none=>false)=true):
 ∃i0 z,P.info? e=some i0/\i0.zero=some z/\i0.size=sz/\i0.bytes=bytes/\z.cells.size=sz:=by
 split at h
 .rename_i i hi;split at h
  .rename_i z hz;simp only[Bool.and_eq_true,beq_iff_eq]at h;exact⟨i,z,hi,hz,h.2.1,h.2.2,h.1⟩
  .cases h
 .cases h
def lfS{P:Go.Program}{E:Env}{f k:Nat}{a q:List AV->Hp->Option (AV×Hp)}{r:Option (List AV->Hp->Option (AV×Hp))}(h:(bif Nat.beq f k then some a else r)=some q)(g:Qn P E k a)(e:r=some q->Qn P E f q):Qn P E f q:=by
 cases hb:Nat.beq f k with
 |true=>
  rw[hb]at h;obtain rfl:a=q:=Option.some.inj h;rw[Nat.eq_of_beq_eq_true hb];exact g
 |false=>
  rw[hb]at h;exact e h
def nnS{f:Nat}{q:List AV->Hp->Option (AV×Hp)}{P:Go.Program}{E:Env}(h:(none:Option<|List AV->Hp->Option (AV×Hp))=some q):Qn P E f q:=by cases h
variable [REdz]
def ZWH:Qn Tryz.prog rE 157 J7:=EV (Go.Proofs.enters_of func157 (by kernel_rfl) rfl) (λblk off cap ss w hH hb hs=>Go.Proofs.Tryz.slices_Sort_string blk off cap ss w hH hb hs)<|λp cap w=>Go.Proofs.Tryz.slices_Sort_string_none p cap w
def ZWI:Qn Tryz.prog rE 158 J8:=EY (Go.Proofs.enters_of func158 (by kernel_rfl) rfl) (λblk off cap zs w hH h1 h2=>Go.Proofs.Tryz.slices_Compact_string blk off cap zs w hH h1 h2)<|λp cap w=>Go.Proofs.Tryz.slices_Compact_string_empty p cap w
def Z8M:Qn Tryz.prog rE 310 U9:=EK (Go.Proofs.enters_of func310 (by kernel_rfl) rfl)<|λs c w=>Go.Proofs.Tryz.strings_IndexByte s c w
def ZWJ:Qn Tryz.prog rE 311 J5:=EM (Go.Proofs.enters_of func311 (by kernel_rfl) rfl) (λs n w h1 h2=>(Go.Proofs.Tryz.strconv_Atoi s n h1 h2 w).mono (by
 rintro e w' ⟨rfl,t,rfl⟩;exact⟨rfl,Go.Lib.bytesWorld_below w _ t⟩))
def ZIu:Qn Tryz.prog rE 156 J9:=by
 obtain⟨i0,z,a1,a2,a3,a4,a5⟩:=JN (P:=Tryz.prog) (e:=9) (sz:=1) (bytes:=16)<|by kernel_rfl
 exact EZ (el:=9) (Go.Proofs.enters_of func156 (by kernel_rfl) rfl) (λb off n c news w h1 h2 h3 h4 h5=>Go.Proofs.Tryz.slices_Clone i0 z 1 16 a1 a2 a3 a4 a5 (by decide) (λw=>by kernel_rfl) b off n c news w h1 h2 h3 h4 h5)
  (λn c w=>Go.Proofs.Tryz.slices_Clone_string_nil n c w) (λa c w=>Go.Proofs.Tryz.slices_Clone_string_zero a c w)
def Z8B:Qn Tryz.prog rE 291 Ja:=I2 (el:=9) (Go.Proofs.enters_of func291 (by kernel_rfl) rfl)<|λs x w hs=>Go.Proofs.Z9R Go.Proofs.Tryz.lays146 (by kernel_rfl) s x w hs
def Z7G:Qn Tryz.prog rE 197 (YL 6):=by
 obtain⟨i0,z,a1,a2,a3,a4,a5⟩:=JN (P:=Tryz.prog) (e:=Go.Proofs.Tryz.laysSlE041_f197_ren.t 23) (sz:=6) (bytes:=88)<|by kernel_rfl
 exact Ud (bytes:=88) (by decide) (by decide) (Go.Proofs.enters_of func197 (by kernel_rfl) rfl)<|λb off n c news w h1 h2 h3 h4 h5=>Go.Proofs.AnyE.slices_Clone Go.Proofs.Tryz.laysSlE041_f197 i0 z 6 88 a1 a2 a3 a4 a5 (by decide) (λw=>by kernel_rfl) b off n c news w h1 h2 h3 h4 h5
def Z7J:Qn Tryz.prog rE 200 (YL 5):=by
 obtain⟨i0,z,a1,a2,a3,a4,a5⟩:=JN (P:=Tryz.prog) (e:=Go.Proofs.Tryz.laysSlE041_f200_ren.t 23) (sz:=5) (bytes:=80)<|by kernel_rfl
 exact Ud (bytes:=80) (by decide) (by decide) (Go.Proofs.enters_of func200 (by kernel_rfl) rfl)<|λb off n c news w h1 h2 h3 h4 h5=>Go.Proofs.AnyE.slices_Clone Go.Proofs.Tryz.laysSlE041_f200 i0 z 5 80 a1 a2 a3 a4 a5 (by decide) (λw=>by kernel_rfl) b off n c news w h1 h2 h3 h4 h5
def Z7O:Qn Tryz.prog rE 205 (YL 16):=by
 obtain⟨i0,z,a1,a2,a3,a4,a5⟩:=JN (P:=Tryz.prog) (e:=Go.Proofs.Tryz.laysSlE041_f205_ren.t 23) (sz:=16) (bytes:=184)<|by kernel_rfl
 exact Ud (bytes:=184) (by decide) (by decide) (Go.Proofs.enters_of func205 (by kernel_rfl) rfl)<|λb off n c news w h1 h2 h3 h4 h5=>Go.Proofs.AnyE.slices_Clone Go.Proofs.Tryz.laysSlE041_f205 i0 z 16 184 a1 a2 a3 a4 a5 (by decide) (λw=>by kernel_rfl) b off n c news w h1 h2 h3 h4 h5
def Z7S:Qn Tryz.prog rE 209 (YL 4):=by
 obtain⟨i0,z,a1,a2,a3,a4,a5⟩:=JN (P:=Tryz.prog) (e:=Go.Proofs.Tryz.laysSlE041_f209_ren.t 23) (sz:=4) (bytes:=56)<|by kernel_rfl
 exact Ud (bytes:=56) (by decide) (by decide) (Go.Proofs.enters_of func209 (by kernel_rfl) rfl)<|λb off n c news w h1 h2 h3 h4 h5=>Go.Proofs.AnyE.slices_Clone Go.Proofs.Tryz.laysSlE041_f209 i0 z 4 56 a1 a2 a3 a4 a5 (by decide) (λw=>by kernel_rfl) b off n c news w h1 h2 h3 h4 h5
def Z7V:Qn Tryz.prog rE 212 (YL 6):=by
 obtain⟨i0,z,a1,a2,a3,a4,a5⟩:=JN (P:=Tryz.prog) (e:=Go.Proofs.Tryz.laysSlE041_f212_ren.t 23) (sz:=6) (bytes:=72)<|by kernel_rfl
 exact Ud (bytes:=72) (by decide) (by decide) (Go.Proofs.enters_of func212 (by kernel_rfl) rfl)<|λb off n c news w h1 h2 h3 h4 h5=>Go.Proofs.AnyE.slices_Clone Go.Proofs.Tryz.laysSlE041_f212 i0 z 6 72 a1 a2 a3 a4 a5 (by decide) (λw=>by kernel_rfl) b off n c news w h1 h2 h3 h4 h5
def ZWK:Qn Tryz.prog rE 312 J6:=EN (Go.Proofs.enters_of func312 (by kernel_rfl) rfl)<|λs c w hs h2 ha=>Go.Proofs.Z9S Go.Proofs.Tryz.lays153 (by kernel_rfl) (by kernel_rfl) s c w hs h2 ha
end Go.Proofs.YtmmfbjlenjnckaaGreatDoor
namespace Go.Proofs.YtmmfbjlenjnckaaGreatDoor
open Go.AM
def brS{α:Type}{b:Bool}{x y:Option α}{q:α}{G:Prop}(h:(bif b then x else y)=some q)(h1:x=some q->G)(h2:y=some q->G):G:=by
 cases b with
 |true=>exact h1 h
 |false=>exact h2 h
def ZQt{P:Go.Program}{E E':Env}{f:Nat}{s:List AV->Hp->Option (AV×Hp)}(hgl:∀g,E.gl g=E'.gl g)(h:Qn P E f s):Qn P E' f s:=
 λargs hp v h' hs T X w rargs hcr c hr=>h args hp v h' hs T X w rargs hcr (c.env hgl) hr
def ZQu{P:Go.Program}{E E':Env}{f:Nat}{s:List AV->Nat->List AV->Option (List AV)}(hgl:∀g,E.gl g=E'.gl g)(h:ZEs P E f s):ZEs P E' f s:=
 λargs hp v wr hs T X w rargs hcr c hr=>h args hp v wr hs T X w rargs hcr (c.env hgl) hr
def ZIF[REdz](f:Nat)(s:List AV->Hp->Option (AV×Hp))(h:N8 f=some s):Qn Tryz.prog rE f s:=by
 unfold N8 at h;exact(brS h (λh=>(brS h (λh=>(brS h (λh=>(lfS h ZIu nnS))<|λh=>(brS h (λh=>(lfS h ZWH nnS))<|λh=>(lfS h ZWI nnS))))<|λh=>(brS h (λh=>(lfS h Z7G nnS))<|λh=>(brS h (λh=>(lfS h Z7J nnS))<|λh=>(lfS h Z7O nnS)))))<|λh=>(brS h (λh=>(brS h (λh=>(lfS h Z7S nnS))<|λh=>(brS h (λh=>(lfS h Z7V nnS))<|λh=>(lfS h Z8B nnS))))<|λh=>(brS h (λh=>(lfS h Z8M nnS))<|λh=>(brS h (λh=>(lfS h ZWJ nnS))<|λh=>(lfS h ZWK nnS)))))
def lfO{P:Go.Program}{E:Env}{f k:Nat}{x r:Option (List AV->Hp->Option (AV×Hp))}{q:List AV->Hp->Option (AV×Hp)}(h:(bif Nat.beq f k then x else r)=some q)(g:x=some q->Qn P E k q)(e:r=some q->Qn P E f q):Qn P E f q:=by
 cases hb:Nat.beq f k with
 |true=>
  rw[hb]at h;rw[Nat.eq_of_beq_eq_true hb];exact g h
 |false=>
  rw[hb]at h;exact e h
def ZSi[REdz](g:∀q,REdz.hd=some q->Qn Tryz.prog rE 5 q):EnvOk Tryz.prog rE:=
 ⟨λ_=>rfl,λf q h=>Z98 f q h,λf s h=>lfO h (g s)<|ZIF f s,λ_ _ h=>by cases h⟩
def ZOr:EnvOk Tryz.prog (@rE ZOx):=@ZSi ZOx<|λq h=>nomatch (show(none:Option _)=some q from h)
def ZWL(args:List AV)(v:AV)(h:ZQo args=some v):pfn (@rE ZOx) 231 args=some v:=by
 unfold ZQo at h;split at h
 .cases h;exact @Z1W ZOx _
 .cases h
def ZQv:EnvOk Tryz.prog ZO5:=
 ⟨ZOr.gl,ZOr.fn,λf s h=>lfS h (ZPh (E:=ZO5) ZOr (λ_=>rfl) ZWL) λh=>ZQt (E:=@rE ZOx) (E':=ZO5) (λ_=>rfl)<|ZOr.sum f s h,λf s h=>ZQu (E:=@rE ZOx) (E':=ZO5) (λ_=>rfl)<|ZOr.rs f s h⟩
def ZSj:EnvOk Tryz.prog ZO8:=
 ⟨ZOr.gl,ZOr.fn,λf s h=>lfS h (ZPh (E:=ZO8) ZQv (λ_=>rfl)<|ZQ5 ZW9) λh=>lfS h (ZPh (E:=ZO8) ZQv (λ_=>rfl)<|ZQ5 ZWn) λh=>ZQt (E:=ZO5) (E':=ZO8) (λ_=>rfl)<|ZQv.sum f s h,
  λf s h=>ZQu (E:=@rE ZOx) (E':=ZO8) (λ_=>rfl)<|ZOr.rs f s h⟩
def ZWM:EnvOk Tryz.prog ZP5:=
 ⟨ZOr.gl,ZOr.fn,λf s h=>lfS h (ZPh (E:=ZP5) ZSj (λ_=>rfl)<|ZQ5 ZWB) λh=>ZQt (E:=ZO8) (E':=ZP5) (λ_=>rfl)<|ZSj.sum f s h,
  λf s h=>ZQu (E:=@rE ZOx) (E':=ZP5) (λ_=>rfl)<|ZOr.rs f s h⟩
def ZPq(args:List AV):Option AV:=match args with|[]=>some (.bool true)|_=>none
def ZWN(args:List AV)(v:AV)(h:ZPq args=some v):pfn ZP5 5 args=some v:=by
 unfold ZPq at h;split at h
 .cases h;exact ZWD
 .cases h
@[reducible] def R1:REdz:=⟨some<|ZOA ZPq⟩
def ZWO:EnvOk Tryz.prog (@rE R1):=@ZSi R1 (λq h=>by
 obtain rfl:ZOA ZPq=q:=Option.some.inj h;exact ZPh (E:=@rE R1) ZWM (λ_=>rfl) ZWN)
def ZWP:pfn (@rE R1) 5 []=some (.bool true):=by
 unfold pfn;rw[V8 (E:=@rE R1) (s:=ZOA ZPq) rfl];rfl
end Go.Proofs.YtmmfbjlenjnckaaGreatDoor
namespace Go.Proofs.YtmmfbjlenjnckaaGreatDoor
open Go.AM
def ZCK:sig Tryz.prog 10 Tryz.f3.params.toList=some ZQs:=by kernel_rfl
def Z9l(W:Go.World):GlR (@rE R1) T0 (X0 Tryz.prog) W:=λg=>⟨trivial,trivial⟩
theorem registryMatchesReference_card:Rows.RegistryMatchesReferenceCardSaid:=ZCI ZWO Z9l (n:=10) (S:=ZQs) rfl ZCK (@ZCJ R1 ZWP)
end Go.Proofs.YtmmfbjlenjnckaaGreatDoor
