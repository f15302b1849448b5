/- TimelineOrder holds for all its arguments. No condition. -/
import Derived.Test.YteiicjhckjogbaaGreatDoorT3
import Derived.Test.YteiicjhckjogbaaGreatDoorQ5
import Derived.Test.YteiicjhckjogbaaGreatDoorP3c
import Derived.Test.YteiicjhckjogbaaGreatDoorR3
import Derived.Shelf.Small.Utf8
import Derived.Shelf.Small.Bits
import Derived.Shelf.Small.Strs
import Derived.Shelf.Small.Wraps
import Derived.Shelf.Utf8.RuneCount
import Derived.Shelf.Strconv.Atoi
import Derived.Shelf.Strconv.Itoa0
import Derived.Shelf.Strconv.Itoa1
import Derived.Shelf.LaysM
import Derived.Shelf.Strconv.Itoa2
import Derived.Shelf.Strconv.Itoa3
import Derived.Shelf.Strconv.AtoiErrFast
import Derived.Shelf.Strconv.ParseIntEmpty
import Derived.Shelf.Strconv.AtoiFail
import Derived.Shelf.Strconv.Clone
import Derived.Shelf.Strconv.SyntaxError
import Derived.Shelf.LaysC
import Derived.Shelf.Strconv.ToError
import Derived.Shelf.Strconv.AtoiErr
import Derived.Shelf.Strconv.ErrVar
import Derived.Shelf.Strconv.Lower
import Derived.Shelf.Strconv.ParseUint10
import Derived.Shelf.Strconv.ParseUint10Empty
import Derived.Shelf.Strconv.ParseUint10Any
import Derived.Shelf.Strconv.ParseInt10
import Derived.Shelf.Strconv.AtoiLong
import Derived.Shelf.Strconv.AtoiInnerAll
import Derived.Shelf.Strconv.RangeError
import Derived.Shelf.Strconv.ToErrorRange
import Derived.Shelf.Strconv.ParseUintEmpty
import Derived.Shelf.Strconv.ParseUint10b64
import Derived.Shelf.Strconv.ParseUint10b32
import Derived.Shelf.Strconv.ParseUint10b16
import Derived.Shelf.Strconv.ParseUint10b8
import Derived.Shelf.Strconv.ParseUint10At
import Derived.Shelf.Strconv.ParseInt10At64
import Derived.Shelf.Strconv.ParseInt10At32
import Derived.Shelf.Strconv.ParseInt10At16
import Derived.Shelf.Strconv.ParseInt10At8
import Derived.Shelf.Strconv.ParseInt10All
import Derived.Shelf.Strings.Search1
import Derived.Shelf.Strings.Search2
import Derived.Shelf.Strings.Search3
import Derived.Shelf.Strings.Count
import Derived.Shelf.Strings.Shaped
import Derived.Shelf.Sort.Plain
import Derived.Shelf.Strings.Prefix
import Derived.Shelf.Strings.Split
import Derived.Shelf.Strings.SplitShaped
import Derived.Shelf.Unicode.Decode
import Derived.Shelf.Strings.Runes
import Derived.Shelf.Strings.RuneCount
import Derived.Shelf.Strings.IndexAny
import Derived.Shelf.Strings.AsciiSet
import Derived.Shelf.Strings.IndexAnyAll
import Derived.Shelf.Strings.Explode
import Derived.Shelf.Unicode.DecodeSlow
import Derived.Shelf.Unicode.DecodeAny
import Derived.Shelf.Slices.Turned
import Derived.Ground.Names2Prog
import Derived.Shelf.Slices.Clone
import Derived.Shelf.Slices.CompactS
import Derived.Shelf.Slices.SearchI
import Derived.Shelf.Slices.Cells
import Derived.Shelf.Slices.In.SortNone
import Derived.Ground.SlgnProg
import Derived.Shelf.SlicesE.Clone
import Derived.Ground.SlsfProg
import Derived.Shelf.SlSortCmp.InsertionK
import Derived.Shelf.SlSortCmp.SiftDownK
import Derived.Shelf.SlSortCmp.HeapSortK
import Derived.Shelf.SlSortCmp.MedianK
import Derived.Shelf.SlSortCmp.PivotK
import Derived.Shelf.SlSortCmp.ReverseRangeK
import Derived.Shelf.SlSortCmp.PartialInsertionK
import Derived.Shelf.SlSortCmp.PartitionEqualK
import Derived.Shelf.SlSortCmp.PartitionK
import Derived.Shelf.SlSortCmp.PdqK
import Derived.Shelf.SlSortCmp.WholeK
import Derived.Shelf.SlSortCmp.NoneTotal
import Derived.Ground.SlgmProg
import Derived.Ground.GgzProg
import Derived.Shelf.SlIterI.Nil
import Derived.Shelf.SortM.Plain
import Derived.Shelf.SortM.SortNone
import Derived.Lib.AtoiErrMem
set_option linter.unusedVariables false
set_option linter.defProp false
set_option linter.unusedSimpArgs false
set_option linter.unusedSectionVars false
namespace Go.AM
open Go
def Mb{α:Type}{f:α->AV}:∀{l:List AV},(∀x∈l,∃y,x=f y)->∃m:List α,l=m.map f
 |[],_=>⟨[],rfl⟩
 |x::r,h=>by
  obtain⟨y,rfl⟩:=h x<|List.mem_cons_self ..;obtain⟨m,rfl⟩:=Mb<|λz hz=>h z<|List.mem_cons_of_mem _ hz
  exact⟨y::m,rfl⟩
def YY{s:CSh}{ss:List CSh}{l:List AV}:Wcs (s::ss) l↔∃a r,l=a::r/\Wc s a/\Wcs ss r:=by rw[Wcs]
def Xo{l:List AV}:Wcs [] l↔l=[]:=by rw[Wcs]
def ZQ{k:IntKind}{a:AV}(h:Wc (.int k) a):∃n,a=.int k n:=by rw[Wc]at h;obtain⟨n,h,_⟩:=h;exact⟨n,h⟩
def Y4{a:AV}(h:Wc .str a):∃s:ByteArray,a=.str s:=by rw[Wc]at h;obtain⟨n,h,_⟩:=h;exact⟨n,h⟩
def YB{α:Type}{f:α->AV}{es:List CSh}{a:AV}(hd:∀cs,Wcs es cs->∃y,AV.agg cs=f y)(h:Wc (.sl true es) a):∃m:List α,a=.isl false false es.length (m.map f):=by
 rw[Wc]at h;obtain⟨xs,rfl,_,h2⟩:=h;obtain⟨m,rfl⟩:=Mb (f:=f) (l:=xs) (λx hx=>by
  obtain⟨cs,rfl,h3⟩:=(h2 x hx).1 rfl;exact hd cs h3)
 exact⟨m,rfl⟩
def C8{α:Type}{f:α->AV}{s:CSh}{a:AV}(hd:∀x,Wc s x->∃y,x=f y)(h:Wc (.sl false [s]) a):∃m:List α,a=.isl false false 1 (m.map f):=by
 rw[Wc]at h;obtain⟨xs,rfl,_,h2⟩:=h;obtain⟨m,rfl⟩:=Mb (f:=f) (l:=xs) (λx hx=>by
  have h3:=(h2 x hx).2 rfl;rw[YY]at h3;obtain⟨a,r,h4,h5,h6⟩:=h3;rw[Xo]at h6;subst h6;cases h4;exact hd x h5)
 exact⟨m,rfl⟩
abbrev iS:CSh:=.int .i64
abbrev ptS:List CSh:=[iS,iS]
abbrev nmS:List CSh:=[.str,iS,.str]
abbrev enS:List CSh:=[.str,iS,.str,iS,iS,iS,iS]
abbrev rgS:List CSh:=[.str,iS,iS,.sl true ptS,.sl true nmS,iS]
abbrev C9:List CSh:=[.str,iS,.sl true ptS,.sl true nmS,iS]
abbrev buS:List CSh:=[.str,iS,.sl true ptS,iS]
abbrev drS:List CSh:=[.str,.str,.str,iS,iS,.str,iS,iS,iS,iS,iS,iS,.sl false [.str],iS,iS,.str]
abbrev unS:List CSh:=[.str,.str,.str,iS,iS,iS]
abbrev sS:List CSh:=[.sl true rgS,.sl true C9,.sl true buS,.sl true drS,.sl true unS,.sl true ptS,.sl true ptS]
abbrev evS:List CSh:=[iS,iS,iS,iS,iS,.str,.str,.str,.sl false [.str],.sl true nmS,iS,.str,iS,iS,iS,iS,.sl true ptS,.sl true enS]
def HQ(cs:List AV)(h:Wcs ptS cs):∃y:Pt,AV.agg cs=y.enc:=by
 simp only[YY,Xo]at h;obtain⟨a,_,rfl,h1,b,_,rfl,h2,rfl⟩:=h;obtain⟨x,rfl⟩:=ZQ h1;obtain⟨y,rfl⟩:=ZQ h2;exact⟨⟨x,y⟩,rfl⟩
def Mc(cs:List AV)(h:Wcs nmS cs):∃y:Nm,AV.agg cs=y.enc:=by
 simp only[YY,Xo]at h;obtain⟨a,_,rfl,h1,b,_,rfl,h2,c,_,rfl,h3,rfl⟩:=h;obtain⟨x,rfl⟩:=Y4 h1;obtain⟨y,rfl⟩:=ZQ h2;obtain⟨z,rfl⟩:=Y4 h3;exact⟨⟨x,y,z⟩,rfl⟩
def Z6e(cs:List AV)(h:Wcs enS cs):∃y:Ent,AV.agg cs=y.enc:=by
 simp only[YY,Xo]at h;obtain⟨_,_,rfl,h1,_,_,rfl,h2,_,_,rfl,h3,_,_,rfl,h4,_,_,rfl,h5,_,_,rfl,h6,_,_,rfl,h7,rfl⟩:=h;obtain⟨a,rfl⟩:=Y4 h1;obtain⟨b,rfl⟩:=ZQ h2;obtain⟨c,rfl⟩:=Y4 h3;obtain⟨d,rfl⟩:=ZQ h4;obtain⟨e,rfl⟩:=ZQ h5;obtain⟨f,rfl⟩:=ZQ h6;obtain⟨g,rfl⟩:=ZQ h7;exact⟨⟨a,⟨b,c,d,e⟩,⟨f,g⟩⟩,rfl⟩
def Cb(x:AV)(h:Wc .str x):∃y:Str,x=encS y:=Y4 h
def Z6l(cs:List AV)(h:Wcs evS cs):∃e:Event,AV.agg cs=evA e/\ZOd e=e:=by
 simp only[YY,Xo]at h;obtain⟨_,_,rfl,h1,_,_,rfl,h2,_,_,rfl,h3,_,_,rfl,h4,_,_,rfl,h5,_,_,rfl,h6,_,_,rfl,h7,_,_,rfl,h8,_,_,rfl,h9,_,_,rfl,h10,_,_,rfl,h11,_,_,rfl,h12,_,_,rfl,h13,_,_,rfl,h14,_,_,rfl,h15,_,_,rfl,h16,_,_,rfl,h17,_,_,rfl,h18,rfl⟩:=h;obtain⟨a1,rfl⟩:=ZQ h1;obtain⟨a2,rfl⟩:=ZQ h2;obtain⟨a3,rfl⟩:=ZQ h3;obtain⟨a4,rfl⟩:=ZQ h4;obtain⟨a5,rfl⟩:=ZQ h5;obtain⟨a6,rfl⟩:=Y4 h6;obtain⟨a7,rfl⟩:=Y4 h7;obtain⟨a8,rfl⟩:=Y4 h8;obtain⟨a9,rfl⟩:=C8 Cb h9;obtain⟨a10,rfl⟩:=YB Mc h10;obtain⟨a11,rfl⟩:=ZQ h11;obtain⟨a12,rfl⟩:=Y4 h12;obtain⟨a13,rfl⟩:=ZQ h13;obtain⟨a14,rfl⟩:=ZQ h14;obtain⟨a15,rfl⟩:=ZQ h15;obtain⟨a16,rfl⟩:=ZQ h16;obtain⟨a17,rfl⟩:=YB HQ h17;obtain⟨a18,rfl⟩:=YB Z6e h18;exact⟨⟨a1,a2,a3,a4,a5,a6,a7,a8,⟨false,a9⟩,⟨false,a10⟩,⟨a11,a12,a13,a14⟩,⟨a15,a16⟩,⟨false,a17⟩,⟨false,a18⟩⟩,rfl,rfl⟩
def Zz7{α:Type}{f:α->AV}{Q:α->Prop}{es:List CSh}{a:AV}(hd:∀cs,Wcs es cs->∃y,AV.agg cs=f y/\Q y)(h:Wc (.sl true es) a):∃m:List α,a=.isl false false es.length (m.map f)/\m.length*byS es<=reachBytes/\∀y∈m,Q y:=by
 rw[Wc]at h;obtain⟨xs,rfl,hl,h2⟩:=h
 suffices G:∀l:List AV,(∀x∈l,∃y,x=f y/\Q y)->∃m:List α,l=m.map f/\∀y∈m,Q y by
  obtain⟨m,rfl,hm⟩:=G xs (λx hx=>by
   obtain⟨cs,rfl,h3⟩:=(h2 x hx).1 rfl;exact hd cs h3)
  exact⟨m,rfl,by rw[List.length_map]at hl;exact hl,hm⟩
 intro l;induction l with
 |nil=>intro _;exact⟨[],rfl,λy hy=>by cases hy⟩
 |cons x r ih=>
  intro h;obtain⟨y,rfl,hq⟩:=h x<|List.mem_cons_self ..;obtain⟨m,rfl,hm⟩:=ih<|λz hz=>h z<|List.mem_cons_of_mem _ hz
  refine⟨y::m,rfl,λz hz=>?_⟩
  rcases List.mem_cons.1 hz with rfl|hz
  .exact hq
  .exact hm z hz
abbrev veS:List CSh:=[iS,iS,iS,.str,.sl true evS,iS,.sl false [.str],.sl false [.str]]
def ZRT{a1 a2 a3:Int}{a4:Str}{a5:List Event}{a6:Int}{a7 a8:List Str}(h:∀e∈a5,ZOd e=e):Flat ⟨a1,a2,a3,a4,⟨false,a5⟩,a6,⟨false,a7⟩,⟨false,a8⟩⟩:=by
 have e:a5.map ZOd=a5:=by
  conv=>rhs;rw[<-List.map_id a5]
  exact List.map_congr_left h
 unfold Flat ZOh;dsimp only;rw[e]
def ZRU{n:Nat}(h:n*byS evS<=reachBytes):n<=140737488355328:=by
 have e:0<byS evS:=by decide
 have e2:reachBytes<=140737488355328:=by decide
 have:=Nat.le_mul_of_pos_right n e;omega
def ZAV(cs:List AV)(h:Wcs veS cs):∃v:Ver,AV.agg cs=v.enc/\v.Events.l.length<=140737488355328/\Flat v:=by
 simp only[YY,Xo]at h;obtain⟨_,_,rfl,h1,_,_,rfl,h2,_,_,rfl,h3,_,_,rfl,h4,_,_,rfl,h5,_,_,rfl,h6,_,_,rfl,h7,_,_,rfl,h8,rfl⟩:=h;obtain⟨a1,rfl⟩:=ZQ h1;obtain⟨a2,rfl⟩:=ZQ h2;obtain⟨a3,rfl⟩:=ZQ h3;obtain⟨a4,rfl⟩:=Y4 h4;obtain⟨a5,rfl,hl,hq⟩:=Zz7 (f:=λe=>evA e) (Q:=λe=>ZOd e=e) Z6l h5
 obtain⟨a6,rfl⟩:=ZQ h6;obtain⟨a7,rfl⟩:=C8 Cb h7;obtain⟨a8,rfl⟩:=C8 Cb h8;exact⟨⟨a1,a2,a3,a4,⟨false,a5⟩,a6,⟨false,a7⟩,⟨false,a8⟩⟩,rfl,ZRU hl,ZRT hq⟩
def Zz8{a:AV}(h:Wc iS a):∃d,a=I d/\-9223372036854775808<=d:=by
 rw[Wc]at h;obtain⟨d,rfl,hw⟩:=h;have h9:(decide (IntKind.i64.min<=d)&&decide (d<=IntKind.i64.max))=true:=hw;rw[Bool.and_eq_true]at h9;have m1:IntKind.i64.min=-9223372036854775808:=by decide
 have a1:=of_decide_eq_true h9.1;exact⟨d,rfl,by omega⟩
def Zxg{s:CSh}{a:AV}(h:Wcs [s] [a]):Wc s a:=by
 rw[YY]at h;obtain⟨_,_,e,k,_⟩:=h;cases e;exact k
def ZRV{n:Nat}(h:n*byS veS<=reachBytes):(1+n)*120<=140737488355328:=by
 have e:byS veS=120:=by decide
 have e2:reachBytes<=140737488355208:=by decide
 rw[e]at h;omega
def ZAW{a:AV}(h:Wcs [.sl true veS] [a]):∃V:NL Ver,a=vsA false V/\(∀v∈V.l,v.Events.l.length<=140737488355328)/\(∀v∈V.l,Flat v)/\(1+V.l.length)*120<=140737488355328:=by
 obtain⟨m,rfl,hl,hm⟩:=Zz7 ZAV<|Zxg h;exact⟨⟨false,m⟩,rfl,λv hv=>(hm v hv).1,λv hv=>(hm v hv).2,ZRV hl⟩
abbrev Zwz:List (Bool×List CSh):=[(false,[.sl true veS]),(false,[iS]),(false,[iS])]
def ZCJ[REdz](hE:LawE)(xs:List AV)(h:Wvs Zwz xs):pfn rE 3 xs=some (.bool true):=by
 obtain⟨x,_,rfl,_,h1,z,_,rfl,_,h3,u,_,rfl,_,h4,h5⟩:=h;have h5':_=[]:=h5;subst h5';obtain⟨V,rfl,hV,hF,hN⟩:=ZAW<|h1 rfl;obtain⟨a,rfl,_⟩:=Zz8<|Zxg<|h3 rfl;obtain⟨b,rfl,_⟩:=Zz8<|Zxg<|h4 rfl;exact ZCp hE V hV hF a b
end Go.AM
namespace Go.Proofs
open Go.Proofs.Tryz
open Go.Shelf
def Tryz.lays137_ren:Go.Shelf.Ren:=⟨λ|137=>276|217=>301|266=>319|n=>n,λ|9=>9|5=>5|3=>3|n=>n,λ|n=>n⟩
def Tryz.lays137:Go.Proofs.Lays.n137 Tryz.prog Tryz.lays137_ren:=by
 constructor
 case f137=>exact func276.trans<|congrArg some<|by kernel_rfl
 case f217=>exact func301.trans<|congrArg some<|by kernel_rfl
 case f266=>exact func319.trans<|congrArg some<|by kernel_rfl
 all_goals (intros;kernel_rfl)
open Go.RowKit in
def Tryz.strings_IndexByte(s:ByteArray)(c:Int)(w:World):
 Calls Tryz.prog 276 #[.string s,.int .u8 c] w λe w'=>e=.returned (.int .i64<|Lib.indexByte s.data.toList c.toNat.toUInt8)/\w'=w:=Any.strings_IndexByte Tryz.lays137 s c w
def Tryz.lays172_ren:Go.Shelf.Ren:=⟨λ|172=>277|244=>302|245=>303|247=>320|279=>321|280=>322|281=>323|282=>324|287=>333|316=>334|171=>336|205=>335|321=>339|322=>340|243=>341|246=>343|283=>344|284=>345|285=>346|286=>347|129=>100|317=>348|318=>349|319=>350|320=>351|337=>352|338=>353|n=>n,λ|9=>9|3=>3|75=>310|76=>311|4=>4|5=>5|167=>347|37=>348|0=>0|85=>349|2=>2|168=>351|53=>169|175=>359|46=>134|210=>363|127=>367|145=>370|143=>368|21=>21|171=>378|173=>380|212=>383|51=>167|20=>20|213=>384|232=>385|233=>386|80=>387|n=>n,λ|15=>1|16=>2|17=>5|18=>6|19=>7|n=>n⟩
def Tryz.lays172:Go.Proofs.Lays.n172 Tryz.prog Tryz.lays172_ren:=by
 constructor
 case f129=>exact func100.trans<|congrArg some<|by kernel_rfl
 case f171=>exact func336.trans<|congrArg some<|by kernel_rfl
 case f172=>exact func277.trans<|congrArg some<|by kernel_rfl
 case f205=>exact func335.trans<|congrArg some<|by kernel_rfl
 case f243=>exact func341.trans<|congrArg some<|by kernel_rfl
 case f244=>exact func302.trans<|congrArg some<|by kernel_rfl
 case f245=>exact func303.trans<|congrArg some<|by kernel_rfl
 case f246=>exact func343.trans<|congrArg some<|by kernel_rfl
 case f247=>exact func320.trans<|congrArg some<|by kernel_rfl
 case f279=>exact func321.trans<|congrArg some<|by kernel_rfl
 case f280=>exact func322.trans<|congrArg some<|by kernel_rfl
 case f281=>exact func323.trans<|congrArg some<|by kernel_rfl
 case f282=>exact func324.trans<|congrArg some<|by kernel_rfl
 case f283=>exact func344.trans<|congrArg some<|by kernel_rfl
 case f284=>exact func345.trans<|congrArg some<|by kernel_rfl
 case f285=>exact func346.trans<|congrArg some<|by kernel_rfl
 case f286=>exact func347.trans<|congrArg some<|by kernel_rfl
 case f287=>exact func333.trans<|congrArg some<|by kernel_rfl
 case f316=>exact func334.trans<|congrArg some<|by kernel_rfl
 case f317=>exact func348.trans<|congrArg some<|by kernel_rfl
 case f318=>exact func349.trans<|congrArg some<|by kernel_rfl
 case f319=>exact func350.trans<|congrArg some<|by kernel_rfl
 case f320=>exact func351.trans<|congrArg some<|by kernel_rfl
 case f321=>exact func339.trans<|congrArg some<|by kernel_rfl
 case f322=>exact func340.trans<|congrArg some<|by kernel_rfl
 case f337=>exact func352.trans<|congrArg some<|by kernel_rfl
 case f338=>exact func353.trans<|congrArg some<|by kernel_rfl
 all_goals (intros;kernel_rfl)
open Go.RowKit in
def Tryz.strconv_Atoi(s:ByteArray)(n:Int)(hl:s.size<=18)(h:Lib.atoi s.data.toList=some n)(w:World):
 Calls Tryz.prog 277 #[.string s] w λe w'=>e=.returned (.tuple #[.int .i64 n,.nilIface])/\∃t,w'=Lib.bytesWorld w 5 t:=Any.strconv_Atoi Tryz.lays172 s n hl h w
def Tryz.lays190_ren:Go.Shelf.Ren:=⟨λ|190=>198|125=>59|258=>244|128=>99|129=>100|302=>264|303=>265|304=>266|305=>267|306=>268|307=>269|308=>270|309=>271|310=>272|333=>297|329=>156|330=>157|334=>298|335=>299|336=>300|344=>318|n=>n,λ|31=>46|9=>9|3=>3|46=>134|0=>0|51=>167|53=>169|4=>4|183=>160|182=>159|131=>164|5=>5|218=>218|222=>222|228=>254|229=>255|n=>n,λ|n=>n⟩
def Tryz.lays190:Go.Proofs.Lays.n190 Tryz.prog Tryz.lays190_ren:=by
 constructor
 case f125=>exact func59.trans<|congrArg some<|by kernel_rfl
 case f128=>exact func99.trans<|congrArg some<|by kernel_rfl
 case f129=>exact func100.trans<|congrArg some<|by kernel_rfl
 case f190=>exact func198.trans<|congrArg some<|by kernel_rfl
 case f258=>exact func244.trans<|congrArg some<|by kernel_rfl
 case f302=>exact func264.trans<|congrArg some<|by kernel_rfl
 case f303=>exact func265.trans<|congrArg some<|by kernel_rfl
 case f304=>exact func266.trans<|congrArg some<|by kernel_rfl
 case f305=>exact func267.trans<|congrArg some<|by kernel_rfl
 case f306=>exact func268.trans<|congrArg some<|by kernel_rfl
 case f307=>exact func269.trans<|congrArg some<|by kernel_rfl
 case f308=>exact func270.trans<|congrArg some<|by kernel_rfl
 case f309=>exact func271.trans<|congrArg some<|by kernel_rfl
 case f310=>exact func272.trans<|congrArg some<|by kernel_rfl
 case f329=>exact func156.trans<|congrArg some<|by kernel_rfl
 case f330=>exact func157.trans<|congrArg some<|by kernel_rfl
 case f333=>exact func297.trans<|congrArg some<|by kernel_rfl
 case f334=>exact func298.trans<|congrArg some<|by kernel_rfl
 case f335=>exact func299.trans<|congrArg some<|by kernel_rfl
 case f336=>exact func300.trans<|congrArg some<|by kernel_rfl
 case f344=>exact func318.trans<|congrArg some<|by kernel_rfl
 all_goals (intros;kernel_rfl)
open Go.Sort Go.RowKit in
def Tryz.slices_Sort_string(blk off cap:Nat)(ss:List<|List UInt8)(w:World)(hH:Holds encStr w blk off ss.toArray)(hblk:blk<w.heap.size)(hsz:ss.length<4611686018427387904):
 Calls Tryz.prog 198 #[.slice (some ⟨blk,off,none⟩) ss.length cap] w λe w'=>
  e=.returned (.tuple #[])/\∃n os,w'=grow (putRow encStr (Sort.ahead w n) blk off (ss.mergeSort λx y=>decide (x<=y)).toArray) os:=Any.slices_Sort_string Tryz.lays190 blk off cap ss w hH hblk hsz
def Tryz.lays146_ren:Go.Shelf.Ren:=⟨λ|146=>256|221=>286|268=>312|138=>313|143=>314|195=>328|197=>329|218=>330|219=>331|260=>337|217=>301|225=>327|224=>326|267=>338|266=>319|314=>342|n=>n,λ|9=>9|31=>46|3=>3|4=>4|0=>0|105=>356|21=>21|5=>5|46=>134|119=>371|139=>374|138=>373|146=>375|51=>167|n=>n,λ|1=>0|3=>3|4=>4|n=>n⟩
def Tryz.lays146:Go.Proofs.Lays.n146 Tryz.prog Tryz.lays146_ren:=by
 constructor
 case f138=>exact func313.trans<|congrArg some<|by kernel_rfl
 case f143=>exact func314.trans<|congrArg some<|by kernel_rfl
 case f146=>exact func256.trans<|congrArg some<|by kernel_rfl
 case f195=>exact func328.trans<|congrArg some<|by kernel_rfl
 case f197=>exact func329.trans<|congrArg some<|by kernel_rfl
 case f217=>exact func301.trans<|congrArg some<|by kernel_rfl
 case f218=>exact func330.trans<|congrArg some<|by kernel_rfl
 case f219=>exact func331.trans<|congrArg some<|by kernel_rfl
 case f221=>exact func286.trans<|congrArg some<|by kernel_rfl
 case f224=>exact func326.trans<|congrArg some<|by kernel_rfl
 case f225=>exact func327.trans<|congrArg some<|by kernel_rfl
 case f260=>exact func337.trans<|congrArg some<|by kernel_rfl
 case f266=>exact func319.trans<|congrArg some<|by kernel_rfl
 case f267=>exact func338.trans<|congrArg some<|by kernel_rfl
 case f268=>exact func312.trans<|congrArg some<|by kernel_rfl
 case f314=>exact func342.trans<|congrArg some<|by kernel_rfl
 all_goals (intros;kernel_rfl)
def Tryz.lays153_ren:Go.Shelf.Ren:=⟨λ|153=>278|152=>304|226=>305|227=>306|228=>307|137=>276|119=>325|224=>326|225=>327|217=>301|266=>319|n=>n,λ|9=>9|3=>3|4=>4|5=>5|21=>21|117=>338|116=>337|0=>0|46=>134|124=>354|n=>n,λ|n=>n⟩
def Tryz.lays153:Go.Proofs.Lays.n153 Tryz.prog Tryz.lays153_ren:=by
 constructor
 case f119=>exact func325.trans<|congrArg some<|by kernel_rfl
 case f137=>exact func276.trans<|congrArg some<|by kernel_rfl
 case f152=>exact func304.trans<|congrArg some<|by kernel_rfl
 case f153=>exact func278.trans<|congrArg some<|by kernel_rfl
 case f217=>exact func301.trans<|congrArg some<|by kernel_rfl
 case f224=>exact func326.trans<|congrArg some<|by kernel_rfl
 case f225=>exact func327.trans<|congrArg some<|by kernel_rfl
 case f226=>exact func305.trans<|congrArg some<|by kernel_rfl
 case f227=>exact func306.trans<|congrArg some<|by kernel_rfl
 case f228=>exact func307.trans<|congrArg some<|by kernel_rfl
 case f266=>exact func319.trans<|congrArg some<|by kernel_rfl
 all_goals (intros;kernel_rfl)
def Tryz.laysNm216_ren:Go.Shelf.Ren:=⟨λ|16=>51|n=>n,λ|24=>46|9=>9|4=>4|n=>n,λ|n=>n⟩
def Tryz.laysNm216:Go.Proofs.Lays2.n16 Tryz.prog Tryz.laysNm216_ren:=by
 constructor
 case f16=>exact func51.trans<|congrArg some<|by kernel_rfl
 all_goals (intros;kernel_rfl)
open Go.RowKit Go.Lib in
def Tryz.slices_Clone_string_nil(n c:Nat)(w:World):
 Calls Tryz.prog 51 #[.slice none n c] w λe w'=>e=.returned (.slice none 0 0)/\w'=w:=Any.slices_Clone_string_nil Tryz.laysNm216 n c w
open Go.RowKit Go.Lib in
def Tryz.slices_Clone_string_zero(a:Addr)(c:Nat)(w:World):
 Calls Tryz.prog 51 #[.slice (some a) 0 c] w λe w'=>∃v',e=.returned v'/\w'.ownsRow w.heap.size 9 1 v' 0 []/\v'≠.slice none 0 0/\Below w.heap.size w w':=Any.slices_Clone_string_zero Tryz.laysNm216 a c w
def Tryz.lays194_ren:Go.Shelf.Ren:=⟨λ|194=>199|n=>n,λ|31=>46|9=>9|3=>3|4=>4|0=>0|n=>n,λ|n=>n⟩
def Tryz.lays194:Go.Proofs.Lays.n194 Tryz.prog Tryz.lays194_ren:=by
 constructor
 case f194=>exact func199.trans<|congrArg some<|by kernel_rfl
 all_goals (intros;kernel_rfl)
open Go.RowKit Go.Lib Go.Sort in
def Tryz.slices_Compact_string(blk off cap:Nat)(zs:List<|List UInt8)(w:World)(hH:Holds encStr w blk off zs.toArray)(hsz:zs.length<=9223372036854775807)(hcap:zs.length<=cap):
 Calls Tryz.prog 199 #[.slice (some ⟨blk,off,none⟩) zs.length cap] w λe w'=>e=.returned (.slice (some ⟨blk,off,none⟩) (Lib.compact zs).length cap)/\∃q,w'=putRow encStr (Sort.ahead w q) blk off (Lib.compact zs++List.replicate (zs.length-(Lib.compact zs).length) []).toArray:=Any.slices_Compact_string Tryz.lays194 blk off cap zs w hH hsz hcap
open Go.RowKit Go.Lib Go.Sort in
def Tryz.slices_Compact_string_empty(a:Option Addr)(cap:Nat)(w:World):
 Calls Tryz.prog 199 #[.slice a 0 cap] w λe w'=>e=.returned (.slice a 0 cap)/\w'=w:=Any.slices_Compact_string_empty Tryz.lays194 a cap w
open Go.RowKit Go.Sort in
def Tryz.slices_Sort_string_none(p:Option Addr)(cap:Nat)(w:World):
 Calls Tryz.prog 198 #[.slice p 0 cap] w λe w'=>e=.returned (.tuple #[])/\w'=w:=Any.slices_Sort_string_none Tryz.lays190 p cap w
def Tryz.laysSlE041_f51_ren:Go.Shelf.Ren:=⟨λ|41=>51|n=>n,λ|22=>46|23=>9|4=>4|n=>n,λ|n=>n⟩
def Tryz.laysSlE041_f51:Go.Proofs.SlLaysE0.n41 Tryz.prog Tryz.laysSlE041_f51_ren:=by
 constructor
 case f41=>exact⟨f51.name,by decide,func51.trans<|congrArg some<|by kernel_rfl⟩
 all_goals (intros;kernel_rfl)
open Go.RowKit Go.Lib in
def Tryz.slices_Clone_f51(i0:TypeInfo)(z:Value)(size bytes:Nat)(hi:Tryz.prog.info? 9=some i0)(hz0:i0.zero=some z)(hz1:i0.size=size)(hz2:i0.bytes=bytes)(hzs:z.cells.size=size)(hsz:0<size)(z23:∀w,(Go.sizeOf 9).run Tryz.prog w=.ok size w)(b off n c:Nat)(news:List Value)(w:World)(hl:news.length=n*size)(hn:n<=maxLen)(hbig:n*bytes<=140737488355328)(hc:∀j u,news[j]?=some u->w.cell? ⟨b,off+j,none⟩=some u)(h1:∀u∈news,u.oneCell'=true):
 Calls Tryz.prog 51 #[.slice (some ⟨b,off,none⟩) n c] w λe w'=>∃v',e=.returned v'/\w'.ownsRow w.heap.size 9 size v' n news/\v'≠.slice none 0 0/\Below w.heap.size w w':=AnyE.slices_Clone Tryz.laysSlE041_f51 i0 z size bytes hi hz0 hz1 hz2 hzs hsz z23 b off n c news w hl hn hbig hc h1
def Tryz.laysSlF06_f31_ren:Go.Shelf.Ren:=⟨λ|6=>31|15=>59|14=>58|28=>99|29=>100|20=>91|21=>92|22=>93|23=>94|24=>95|25=>96|26=>97|27=>98|46=>155|47=>156|48=>157|49=>158|50=>159|57=>219|n=>n,λ|22=>34|24=>69|25=>101|3=>3|39=>134|0=>0|53=>167|55=>169|4=>4|46=>160|45=>159|50=>164|5=>5|9=>9|66=>218|70=>222|76=>254|77=>255|n=>n,λ|n=>n⟩
def Tryz.laysSlF06_f31:Go.Proofs.SlLaysF0.n6 Tryz.prog Tryz.laysSlF06_f31_ren:=by
 constructor
 case f6=>exact⟨f31.name,by decide,func31.trans<|congrArg some<|by kernel_rfl⟩
 case f14=>exact⟨f58.name,by decide,func58.trans<|congrArg some<|by kernel_rfl⟩
 case f15=>exact func59.trans<|congrArg some<|by kernel_rfl
 case f20=>exact⟨f91.name,by decide,func91.trans<|congrArg some<|by kernel_rfl⟩
 case f21=>exact⟨f92.name,by decide,func92.trans<|congrArg some<|by kernel_rfl⟩
 case f22=>exact⟨f93.name,by decide,func93.trans<|congrArg some<|by kernel_rfl⟩
 case f23=>exact⟨f94.name,by decide,func94.trans<|congrArg some<|by kernel_rfl⟩
 case f24=>exact⟨f95.name,by decide,func95.trans<|congrArg some<|by kernel_rfl⟩
 case f25=>exact⟨f96.name,by decide,func96.trans<|congrArg some<|by kernel_rfl⟩
 case f26=>exact⟨f97.name,by decide,func97.trans<|congrArg some<|by kernel_rfl⟩
 case f27=>exact⟨f98.name,by decide,func98.trans<|congrArg some<|by kernel_rfl⟩
 case f28=>exact func99.trans<|congrArg some<|by kernel_rfl
 case f29=>exact func100.trans<|congrArg some<|by kernel_rfl
 case f46=>exact⟨f155.name,by decide,func155.trans<|congrArg some<|by kernel_rfl⟩
 case f47=>exact func156.trans<|congrArg some<|by kernel_rfl
 case f48=>exact func157.trans<|congrArg some<|by kernel_rfl
 case f49=>exact⟨f158.name,by decide,func158.trans<|congrArg some<|by kernel_rfl⟩
 case f50=>exact⟨f159.name,by decide,func159.trans<|congrArg some<|by kernel_rfl⟩
 case f57=>exact⟨f219.name,by decide,func219.trans<|congrArg some<|by kernel_rfl⟩
 all_goals (intros;kernel_rfl)
open Go.RowKit Go.Lib Go.Sort in
def Tryz.slices_SortFunc{α:Type}[Inhabited α](k:Nat)(aE:∀w,(isAgg 69).run Tryz.prog w=.ok true w)(zE:∀w,(Go.sizeOf 69).run Tryz.prog w=.ok k w)(enc:α->List Value)(hk:∀x,(enc x).length=k)(h1:∀x,∀v∈enc x,v.oneCell'=true)(cf:α->α->Int)(hO:SWO<|ltOf cf)(g:Nat)(cb:Array Value)(blk off cap:Nat)(d:Array α)(w:World)(eg:∀args w,(callFunc g args).run Tryz.prog w=.ok (.enter g args) w)(hcmp:CmpLays Tryz.prog g cb enc k cf blk off d.size w)(hH:HoldsK enc k w blk off d)(hblk:blk<w.heap.size)(hsz:d.size<4611686018427387904):
 Calls Tryz.prog 31 #[.slice (some ⟨blk,off,none⟩) d.size cap,.func (.func g) #[] cb] w λe w'=>
  e=.returned (.tuple #[])/\∃d' n os,PermIn 0 d.size d d'/\SortedIn (ltOf cf) 0 d.size d'/\w'=sortWorldK enc k w blk off n d' os:=AnyQ.slices_SortFunc Tryz.laysSlF06_f31 k aE zE enc hk h1 cf hO g cb blk off cap d w eg hcmp hH hblk hsz
open Go.RowKit Go.Lib Go.Sort in
def Tryz.slices_SortFunc_none{α:Type}[Inhabited α](p:Option Addr)(cap:Nat)(fv:Value)(w:World):
 Calls Tryz.prog 31 #[.slice p 0 cap,fv] w λe w'=>e=.returned (.tuple #[])/\w'=w:=AnyF.slices_SortFunc_none Tryz.laysSlF06_f31 p cap fv w
end Go.Proofs
namespace Go.Proofs
open Go.Proofs.Tryz
open Go.RowKit Go.Maps Go.Sort Go.Shelf
def Tryz.keys192_ren:Go.Shelf.Ren:=⟨λ|7=>192|10=>242|n=>n,λ|23=>233|26=>3|3=>4|28=>176|0=>0|27=>175|33=>78|4=>4|n=>n,λ|n=>n⟩
def Tryz.keys192:Go.Proofs.SlLaysZI.n7 Tryz.prog Tryz.keys192_ren:=by
 constructor
 case f7=>exact⟨f192.name,by decide,func192.trans<|congrArg some<|by kernel_rfl⟩
 case f10=>exact⟨f242.name,by decide,func242.trans<|congrArg some<|by kernel_rfl⟩
 all_goals (intros;kernel_rfl)
def Tryz.sorted191_ren:Go.Shelf.Ren:=⟨λ|6=>191|8=>240|9=>241|11=>262|13=>59|12=>263|23=>99|24=>100|14=>288|15=>289|16=>290|17=>291|18=>292|19=>293|20=>294|21=>295|22=>296|25=>315|26=>156|27=>157|28=>316|29=>317|30=>60|31=>332|n=>n,λ|26=>3|28=>176|24=>135|0=>0|3=>3|37=>134|48=>167|50=>169|4=>4|40=>160|39=>159|45=>164|5=>5|9=>9|51=>218|55=>222|57=>254|58=>255|33=>78|n=>n,λ|n=>n⟩
def Tryz.sorted191:Go.Proofs.SlLaysZI.n6 Tryz.prog Tryz.sorted191_ren:=by
 constructor
 case f6=>exact⟨f191.name,by decide,func191.trans<|congrArg some<|by kernel_rfl⟩
 case f8=>exact⟨f240.name,by decide,func240.trans<|congrArg some<|by kernel_rfl⟩
 case f11=>exact⟨f262.name,by decide,func262.trans<|congrArg some<|by kernel_rfl⟩
 all_goals (intros;kernel_rfl)
def Tryz.sort241_ren:Go.Shelf.Ren:=⟨λ|5=>241|8=>59|7=>263|19=>99|20=>100|10=>288|11=>289|12=>290|13=>291|14=>292|15=>293|16=>294|17=>295|18=>296|30=>315|31=>156|32=>157|33=>316|34=>317|35=>60|40=>332|n=>n,λ|23=>135|25=>3|3=>3|32=>134|22=>135|0=>0|44=>167|46=>169|4=>4|36=>160|35=>159|41=>164|5=>5|9=>9|53=>218|57=>222|63=>254|64=>255|n=>n,λ|n=>n⟩
def Tryz.sort241:Go.Proofs.SlLaysM.n5 Tryz.prog Tryz.sort241_ren:=by
 constructor
 case f5=>exact⟨f241.name,by decide,func241.trans<|congrArg some<|by kernel_rfl⟩
 case f7=>exact⟨f263.name,by decide,func263.trans<|congrArg some<|by kernel_rfl⟩
 case f8=>exact func59.trans<|congrArg some<|by kernel_rfl
 case f10=>exact⟨f288.name,by decide,func288.trans<|congrArg some<|by kernel_rfl⟩
 case f11=>exact⟨f289.name,by decide,func289.trans<|congrArg some<|by kernel_rfl⟩
 case f12=>exact⟨f290.name,by decide,func290.trans<|congrArg some<|by kernel_rfl⟩
 case f13=>exact⟨f291.name,by decide,func291.trans<|congrArg some<|by kernel_rfl⟩
 case f14=>exact⟨f292.name,by decide,func292.trans<|congrArg some<|by kernel_rfl⟩
 case f15=>exact⟨f293.name,by decide,func293.trans<|congrArg some<|by kernel_rfl⟩
 case f16=>exact⟨f294.name,by decide,func294.trans<|congrArg some<|by kernel_rfl⟩
 case f17=>exact⟨f295.name,by decide,func295.trans<|congrArg some<|by kernel_rfl⟩
 case f18=>exact⟨f296.name,by decide,func296.trans<|congrArg some<|by kernel_rfl⟩
 case f19=>exact func99.trans<|congrArg some<|by kernel_rfl
 case f20=>exact func100.trans<|congrArg some<|by kernel_rfl
 case f30=>exact⟨f315.name,by decide,func315.trans<|congrArg some<|by kernel_rfl⟩
 case f31=>exact func156.trans<|congrArg some<|by kernel_rfl
 case f32=>exact func157.trans<|congrArg some<|by kernel_rfl
 case f33=>exact⟨f316.name,by decide,func316.trans<|congrArg some<|by kernel_rfl⟩
 case f34=>exact⟨f317.name,by decide,func317.trans<|congrArg some<|by kernel_rfl⟩
 case f35=>exact⟨f60.name,by decide,func60.trans<|congrArg some<|by kernel_rfl⟩
 case f40=>exact⟨f332.name,by decide,func332.trans<|congrArg some<|by kernel_rfl⟩
 all_goals (intros;kernel_rfl)
def Tryz.laysSlE041_f43_ren:Go.Shelf.Ren:=⟨λ|41=>43|n=>n,λ|22=>58|23=>57|4=>4|n=>n,λ|n=>n⟩
def Tryz.laysSlE041_f43:Go.Proofs.SlLaysE0.n41 Tryz.prog Tryz.laysSlE041_f43_ren:=by
 constructor
 case f41=>exact⟨f43.name,by decide,func43.trans<|congrArg some<|by kernel_rfl⟩
 all_goals (intros;kernel_rfl)
def Tryz.laysSlE041_f44_ren:Go.Shelf.Ren:=⟨λ|41=>44|n=>n,λ|22=>53|23=>114|4=>4|n=>n,λ|n=>n⟩
def Tryz.laysSlE041_f44:Go.Proofs.SlLaysE0.n41 Tryz.prog Tryz.laysSlE041_f44_ren:=by
 constructor
 case f41=>exact⟨f44.name,by decide,func44.trans<|congrArg some<|by kernel_rfl⟩
 all_goals (intros;kernel_rfl)
def Tryz.laysSlE041_f52_ren:Go.Shelf.Ren:=⟨λ|41=>52|n=>n,λ|22=>33|23=>93|4=>4|n=>n,λ|n=>n⟩
def Tryz.laysSlE041_f52:Go.Proofs.SlLaysE0.n41 Tryz.prog Tryz.laysSlE041_f52_ren:=by
 constructor
 case f41=>exact⟨f52.name,by decide,func52.trans<|congrArg some<|by kernel_rfl⟩
 all_goals (intros;kernel_rfl)
def Tryz.laysSlE041_f53_ren:Go.Shelf.Ren:=⟨λ|41=>53|n=>n,λ|22=>34|23=>69|4=>4|n=>n,λ|n=>n⟩
def Tryz.laysSlE041_f53:Go.Proofs.SlLaysE0.n41 Tryz.prog Tryz.laysSlE041_f53_ren:=by
 constructor
 case f41=>exact⟨f53.name,by decide,func53.trans<|congrArg some<|by kernel_rfl⟩
 all_goals (intros;kernel_rfl)
def Tryz.laysSlE041_f61_ren:Go.Shelf.Ren:=⟨λ|41=>61|n=>n,λ|22=>59|23=>138|4=>4|n=>n,λ|n=>n⟩
def Tryz.laysSlE041_f61:Go.Proofs.SlLaysE0.n41 Tryz.prog Tryz.laysSlE041_f61_ren:=by
 constructor
 case f41=>exact⟨f61.name,by decide,func61.trans<|congrArg some<|by kernel_rfl⟩
 all_goals (intros;kernel_rfl)
def Tryz.laysSlE041_f202_ren:Go.Shelf.Ren:=⟨λ|41=>202|n=>n,λ|22=>29|23=>67|4=>4|n=>n,λ|n=>n⟩
def Tryz.laysSlE041_f202:Go.Proofs.SlLaysE0.n41 Tryz.prog Tryz.laysSlE041_f202_ren:=by
 constructor
 case f41=>exact⟨f202.name,by decide,func202.trans<|congrArg some<|by kernel_rfl⟩
 all_goals (intros;kernel_rfl)
def Tryz.laysSlE041_f205_ren:Go.Shelf.Ren:=⟨λ|41=>205|n=>n,λ|22=>30|23=>65|4=>4|n=>n,λ|n=>n⟩
def Tryz.laysSlE041_f205:Go.Proofs.SlLaysE0.n41 Tryz.prog Tryz.laysSlE041_f205_ren:=by
 constructor
 case f41=>exact⟨f205.name,by decide,func205.trans<|congrArg some<|by kernel_rfl⟩
 all_goals (intros;kernel_rfl)
def Tryz.laysSlE041_f210_ren:Go.Shelf.Ren:=⟨λ|41=>210|n=>n,λ|22=>32|23=>63|4=>4|n=>n,λ|n=>n⟩
def Tryz.laysSlE041_f210:Go.Proofs.SlLaysE0.n41 Tryz.prog Tryz.laysSlE041_f210_ren:=by
 constructor
 case f41=>exact⟨f210.name,by decide,func210.trans<|congrArg some<|by kernel_rfl⟩
 all_goals (intros;kernel_rfl)
def Tryz.laysSlE041_f213_ren:Go.Shelf.Ren:=⟨λ|41=>213|n=>n,λ|22=>31|23=>90|4=>4|n=>n,λ|n=>n⟩
def Tryz.laysSlE041_f213:Go.Proofs.SlLaysE0.n41 Tryz.prog Tryz.laysSlE041_f213_ren:=by
 constructor
 case f41=>exact⟨f213.name,by decide,func213.trans<|congrArg some<|by kernel_rfl⟩
 all_goals (intros;kernel_rfl)
def Tryz.sorts191(m:Nat):AnyZI.SortsIn Tryz.prog Tryz.sorted191_ren Fence.wide m:=
 ⟨λblk off cap ss W hH hblk hsz=>callsIn_wide.2<|AnyM.slices_Sort_int Tryz.sort241 blk off cap ss W hH hblk hsz,
  λp cap W=>callsIn_wide.2<|AnyM.slices_Sort_int_none Tryz.sort241 p cap W⟩
set_option maxHeartbeats 1000000 in
def Tryz.sorted_ints(Bm o b nn:Nat)(D0:DataW Unit)(R:Value->Option (DataW Unit×List MemPlace))(w:World)(hBm:Bm<w.heap.size)(hm:w.cell? ⟨Bm,o,none⟩=some (.map<|some b))(hown:w.ownsMap Tryz.prog 3 R b nn D0)(hmax:Maps.size D0<=maxLen)(hbytes:Maps.size D0*8<=140737488355328):
 Calls Tryz.prog 191 #[.func (.func 242) #[] #[.pointer<|some ⟨Bm,o,none⟩]] w λe w'=>∃(v:Value)(ss:List Int),e=.returned v/\ss.Perm (intKeys D0)/\
  w'.ownsRow w.heap.size 3 1 v ss.length ((ss.mergeSort<|λx y=>decide (x<=y)).map encZ)/\(v=.slice none 0 0↔ss=[])/\Below w.heap.size w w':=by
 refine(callsIn_wide (n:=5)).1 ?_;have hseq:SeqGives Fence.wide 2 Tryz.prog 242 #[.pointer<|some ⟨Bm,o,none⟩] encZ (λss=>ss.Perm<|intKeys D0) (Maps.size D0) w:=
  ZQy (ρ:=Tryz.keys192_ren) {Tryz.keys192 with} Fence.wide _ trivial rfl (by omega) Bm o b nn D0 w hBm hm hown
 exact AnyZI.sorted_in Tryz.sorted191 Fence.wide 5 trivial trivial trivial trivial rfl (by omega) (Tryz.sorts191 _) (enters_of func241 (by kernel_rfl) rfl) 242 #[.pointer<|some ⟨Bm,o,none⟩] trivial (enters_of func242 (by kernel_rfl) rfl) _ _ hmax hbytes _ hseq
end Go.Proofs
namespace Go.Proofs.YteiicjhckjogbaaGreatDoor
open Go.Proofs.Tryz
open Go.AM
def JN{P:Go.Program}{e:Go.TypeId}{sz bytes:Nat}(h:(match P.info? e with|some i=>(match i.zero with|some z=>z.cells.size==sz&&(i.size==sz&&i.bytes==bytes)|none=>false)|none=>false)=true):
 ∃i0 z,P.info? e=some i0/\i0.zero=some z/\i0.size=sz/\i0.bytes=bytes/\z.cells.size=sz:=by
 split at h
 .rename_i i hi;split at h
  .rename_i z hz;simp only[Bool.and_eq_true,beq_iff_eq]at h;exact⟨i,z,hi,hz,h.2.1,h.2.2,h.1⟩
  .cases h
 .cases h
def ZCa:OkL Tryz.prog Zz9:=ZCg _<|by kernel_rfl
def ZCb(f:Nat)(q:AFun)(h:Zza f=some q):Z0 Tryz.prog f q:=ZjX ZCa h
def ZCc:@EnvOk dT Tryz.prog e0:=@EnvOk.mk dT Tryz.prog e0 (λ_=>rfl) (λf q h=>ZCb f q h) (λf s h=>by cases h)<|λf s h=>by cases h
variable [REdz]
def Z7H:Qn Tryz.prog rE 198 J7:=EV (Go.Proofs.enters_of func198 (by kernel_rfl) rfl) (λblk off cap ss w hH hb hs=>Go.Proofs.Tryz.slices_Sort_string blk off cap ss w hH hb hs)<|λp cap w=>Go.Proofs.Tryz.slices_Sort_string_none p cap w
def Z7I:Qn Tryz.prog rE 199 J8:=EY (Go.Proofs.enters_of func199 (by kernel_rfl) rfl) (λblk off cap zs w hH h1 h2=>Go.Proofs.Tryz.slices_Compact_string blk off cap zs w hH h1 h2)<|λp cap w=>Go.Proofs.Tryz.slices_Compact_string_empty p cap w
def Z8q:Qn Tryz.prog rE 276 U9:=EK (Go.Proofs.enters_of func276 (by kernel_rfl) rfl)<|λs c w=>Go.Proofs.Tryz.strings_IndexByte s c w
def Zbt:Qn Tryz.prog rE 51 J9:=by
 obtain⟨i0,z,a1,a2,a3,a4,a5⟩:=JN (P:=Tryz.prog) (e:=9) (sz:=1) (bytes:=16)<|by kernel_rfl
 exact EZ (el:=9) (Go.Proofs.enters_of func51 (by kernel_rfl) rfl) (λb off n c news w h1 h2 h3 h4 h5=>Go.Proofs.Tryz.slices_Clone_f51 i0 z 1 16 a1 a2 a3 a4 a5 (by decide) (λw=>by kernel_rfl) b off n c news w h1 h2 h3 h4 h5)
  (λn c w=>Go.Proofs.Tryz.slices_Clone_string_nil n c w) (λa c w=>Go.Proofs.Tryz.slices_Clone_string_zero a c w)
def ZRX:Qn Tryz.prog rE 256 Ja:=I2 (el:=9) (Go.Proofs.enters_of func256 (by kernel_rfl) rfl)<|λs x w hs=>Go.Proofs.Z9R Go.Proofs.Tryz.lays146 (by kernel_rfl) s x w hs
def Z8r:Qn Tryz.prog rE 277 J5:=EM (Go.Proofs.enters_of func277 (by kernel_rfl) rfl) (λs n w h1 h2=>(Go.Proofs.Tryz.strconv_Atoi s n h1 h2 w).mono (by
 rintro e w' ⟨rfl,t,rfl⟩;exact⟨rfl,Go.Lib.bytesWorld_below w _ t⟩))
def Z6v:Qn Tryz.prog rE 43 (ZOf 2):=by
 obtain⟨i0,z,a1,a2,a3,a4,a5⟩:=JN (P:=Tryz.prog) (e:=Go.Proofs.Tryz.laysSlE041_f43_ren.t 23) (sz:=2) (bytes:=16)<|by kernel_rfl
 exact ZOv (bytes:=16) (by decide) (by decide) (Go.Proofs.enters_of func43 (by kernel_rfl) rfl) (λb off n c news w h1 h2 h3 h4 h5=>Go.Proofs.AnyE.slices_Clone Go.Proofs.Tryz.laysSlE041_f43 i0 z 2 16 a1 a2 a3 a4 a5 (by decide) (λw=>by kernel_rfl) b off n c news w h1 h2 h3 h4 h5)
  (λn c w=>Go.Proofs.AnyE.slices_Clone_nil Go.Proofs.Tryz.laysSlE041_f43 n c w) (λa c w=>Go.Proofs.ZS2 Go.Proofs.Tryz.laysSlE041_f43 i0 z 2 16 a1 a2 a3 a4 a5 (by decide) (λw=>by kernel_rfl) a c w)
def Z6w:Qn Tryz.prog rE 44 (ZOf 3):=by
 obtain⟨i0,z,a1,a2,a3,a4,a5⟩:=JN (P:=Tryz.prog) (e:=Go.Proofs.Tryz.laysSlE041_f44_ren.t 23) (sz:=3) (bytes:=40)<|by kernel_rfl
 exact ZOv (bytes:=40) (by decide) (by decide) (Go.Proofs.enters_of func44 (by kernel_rfl) rfl) (λb off n c news w h1 h2 h3 h4 h5=>Go.Proofs.AnyE.slices_Clone Go.Proofs.Tryz.laysSlE041_f44 i0 z 3 40 a1 a2 a3 a4 a5 (by decide) (λw=>by kernel_rfl) b off n c news w h1 h2 h3 h4 h5)
  (λn c w=>Go.Proofs.AnyE.slices_Clone_nil Go.Proofs.Tryz.laysSlE041_f44 n c w) (λa c w=>Go.Proofs.ZS2 Go.Proofs.Tryz.laysSlE041_f44 i0 z 3 40 a1 a2 a3 a4 a5 (by decide) (λw=>by kernel_rfl) a c w)
def ZhW:Qn Tryz.prog rE 52 (ZOf 6):=by
 obtain⟨i0,z,a1,a2,a3,a4,a5⟩:=JN (P:=Tryz.prog) (e:=Go.Proofs.Tryz.laysSlE041_f52_ren.t 23) (sz:=6) (bytes:=72)<|by kernel_rfl
 exact ZOv (bytes:=72) (by decide) (by decide) (Go.Proofs.enters_of func52 (by kernel_rfl) rfl) (λb off n c news w h1 h2 h3 h4 h5=>Go.Proofs.AnyE.slices_Clone Go.Proofs.Tryz.laysSlE041_f52 i0 z 6 72 a1 a2 a3 a4 a5 (by decide) (λw=>by kernel_rfl) b off n c news w h1 h2 h3 h4 h5)
  (λn c w=>Go.Proofs.AnyE.slices_Clone_nil Go.Proofs.Tryz.laysSlE041_f52 n c w) (λa c w=>Go.Proofs.ZS2 Go.Proofs.Tryz.laysSlE041_f52 i0 z 6 72 a1 a2 a3 a4 a5 (by decide) (λw=>by kernel_rfl) a c w)
def ZRY:Qn Tryz.prog rE 53 (ZOf 2):=by
 obtain⟨i0,z,a1,a2,a3,a4,a5⟩:=JN (P:=Tryz.prog) (e:=Go.Proofs.Tryz.laysSlE041_f53_ren.t 23) (sz:=2) (bytes:=16)<|by kernel_rfl
 exact ZOv (bytes:=16) (by decide) (by decide) (Go.Proofs.enters_of func53 (by kernel_rfl) rfl) (λb off n c news w h1 h2 h3 h4 h5=>Go.Proofs.AnyE.slices_Clone Go.Proofs.Tryz.laysSlE041_f53 i0 z 2 16 a1 a2 a3 a4 a5 (by decide) (λw=>by kernel_rfl) b off n c news w h1 h2 h3 h4 h5)
  (λn c w=>Go.Proofs.AnyE.slices_Clone_nil Go.Proofs.Tryz.laysSlE041_f53 n c w) (λa c w=>Go.Proofs.ZS2 Go.Proofs.Tryz.laysSlE041_f53 i0 z 2 16 a1 a2 a3 a4 a5 (by decide) (λw=>by kernel_rfl) a c w)
def Z6z:Qn Tryz.prog rE 61 (ZOf 7):=by
 obtain⟨i0,z,a1,a2,a3,a4,a5⟩:=JN (P:=Tryz.prog) (e:=Go.Proofs.Tryz.laysSlE041_f61_ren.t 23) (sz:=7) (bytes:=72)<|by kernel_rfl
 exact ZOv (bytes:=72) (by decide) (by decide) (Go.Proofs.enters_of func61 (by kernel_rfl) rfl) (λb off n c news w h1 h2 h3 h4 h5=>Go.Proofs.AnyE.slices_Clone Go.Proofs.Tryz.laysSlE041_f61 i0 z 7 72 a1 a2 a3 a4 a5 (by decide) (λw=>by kernel_rfl) b off n c news w h1 h2 h3 h4 h5)
  (λn c w=>Go.Proofs.AnyE.slices_Clone_nil Go.Proofs.Tryz.laysSlE041_f61 n c w) (λa c w=>Go.Proofs.ZS2 Go.Proofs.Tryz.laysSlE041_f61 i0 z 7 72 a1 a2 a3 a4 a5 (by decide) (λw=>by kernel_rfl) a c w)
def Z7L:Qn Tryz.prog rE 202 (ZOf 6):=by
 obtain⟨i0,z,a1,a2,a3,a4,a5⟩:=JN (P:=Tryz.prog) (e:=Go.Proofs.Tryz.laysSlE041_f202_ren.t 23) (sz:=6) (bytes:=88)<|by kernel_rfl
 exact ZOv (bytes:=88) (by decide) (by decide) (Go.Proofs.enters_of func202 (by kernel_rfl) rfl) (λb off n c news w h1 h2 h3 h4 h5=>Go.Proofs.AnyE.slices_Clone Go.Proofs.Tryz.laysSlE041_f202 i0 z 6 88 a1 a2 a3 a4 a5 (by decide) (λw=>by kernel_rfl) b off n c news w h1 h2 h3 h4 h5)
  (λn c w=>Go.Proofs.AnyE.slices_Clone_nil Go.Proofs.Tryz.laysSlE041_f202 n c w) (λa c w=>Go.Proofs.ZS2 Go.Proofs.Tryz.laysSlE041_f202 i0 z 6 88 a1 a2 a3 a4 a5 (by decide) (λw=>by kernel_rfl) a c w)
def Z7O:Qn Tryz.prog rE 205 (ZOf 5):=by
 obtain⟨i0,z,a1,a2,a3,a4,a5⟩:=JN (P:=Tryz.prog) (e:=Go.Proofs.Tryz.laysSlE041_f205_ren.t 23) (sz:=5) (bytes:=80)<|by kernel_rfl
 exact ZOv (bytes:=80) (by decide) (by decide) (Go.Proofs.enters_of func205 (by kernel_rfl) rfl) (λb off n c news w h1 h2 h3 h4 h5=>Go.Proofs.AnyE.slices_Clone Go.Proofs.Tryz.laysSlE041_f205 i0 z 5 80 a1 a2 a3 a4 a5 (by decide) (λw=>by kernel_rfl) b off n c news w h1 h2 h3 h4 h5)
  (λn c w=>Go.Proofs.AnyE.slices_Clone_nil Go.Proofs.Tryz.laysSlE041_f205 n c w) (λa c w=>Go.Proofs.ZS2 Go.Proofs.Tryz.laysSlE041_f205 i0 z 5 80 a1 a2 a3 a4 a5 (by decide) (λw=>by kernel_rfl) a c w)
def Z7T:Qn Tryz.prog rE 210 (ZOf 16):=by
 obtain⟨i0,z,a1,a2,a3,a4,a5⟩:=JN (P:=Tryz.prog) (e:=Go.Proofs.Tryz.laysSlE041_f210_ren.t 23) (sz:=16) (bytes:=184)<|by kernel_rfl
 exact ZOv (bytes:=184) (by decide) (by decide) (Go.Proofs.enters_of func210 (by kernel_rfl) rfl) (λb off n c news w h1 h2 h3 h4 h5=>Go.Proofs.AnyE.slices_Clone Go.Proofs.Tryz.laysSlE041_f210 i0 z 16 184 a1 a2 a3 a4 a5 (by decide) (λw=>by kernel_rfl) b off n c news w h1 h2 h3 h4 h5)
  (λn c w=>Go.Proofs.AnyE.slices_Clone_nil Go.Proofs.Tryz.laysSlE041_f210 n c w) (λa c w=>Go.Proofs.ZS2 Go.Proofs.Tryz.laysSlE041_f210 i0 z 16 184 a1 a2 a3 a4 a5 (by decide) (λw=>by kernel_rfl) a c w)
def Z7W:Qn Tryz.prog rE 213 (ZOf 4):=by
 obtain⟨i0,z,a1,a2,a3,a4,a5⟩:=JN (P:=Tryz.prog) (e:=Go.Proofs.Tryz.laysSlE041_f213_ren.t 23) (sz:=4) (bytes:=56)<|by kernel_rfl
 exact ZOv (bytes:=56) (by decide) (by decide) (Go.Proofs.enters_of func213 (by kernel_rfl) rfl) (λb off n c news w h1 h2 h3 h4 h5=>Go.Proofs.AnyE.slices_Clone Go.Proofs.Tryz.laysSlE041_f213 i0 z 4 56 a1 a2 a3 a4 a5 (by decide) (λw=>by kernel_rfl) b off n c news w h1 h2 h3 h4 h5)
  (λn c w=>Go.Proofs.AnyE.slices_Clone_nil Go.Proofs.Tryz.laysSlE041_f213 n c w) (λa c w=>Go.Proofs.ZS2 Go.Proofs.Tryz.laysSlE041_f213 i0 z 4 56 a1 a2 a3 a4 a5 (by decide) (λw=>by kernel_rfl) a c w)
def Z7A:Qn Tryz.prog rE 191 (ZoZ 242):=Zq6 (kt:=3) (by kernel_rfl) (Go.Proofs.enters_of func191 (by kernel_rfl) rfl)<|λBm o b nn D0 R w h1 h2 h3 h4 h5=>Go.Proofs.Tryz.sorted_ints Bm o b nn D0 R w h1 h2 h3 h4 h5
def Z8s:Qn Tryz.prog rE 278 J6:=EN (Go.Proofs.enters_of func278 (by kernel_rfl) rfl)<|λs c w hs h2 ha=>Go.Proofs.Z9S Go.Proofs.Tryz.lays153 (by kernel_rfl) (by kernel_rfl) s c w hs h2 ha
def Z6p:Qn Tryz.prog rE 31 (ZvW 32 2 ZvF):=ZzO (by decide) ZCc (λ_=>rfl) rfl (Go.Proofs.enters_of func31 (by kernel_rfl) rfl) ZA8
 (λenc hk h1 cf hO cb blk off cap d w hcmp hH hblk hsz=>Go.Proofs.Tryz.slices_SortFunc 2 (λw=>by kernel_rfl) (λw=>by kernel_rfl) enc hk h1 cf hO 32 cb blk off cap d w (Go.Proofs.enters_of func32 (by kernel_rfl) rfl) hcmp hH hblk hsz)
 (λp cap fv w=>Go.Proofs.Tryz.slices_SortFunc_none (α:=Nat) p cap fv w)
end Go.Proofs.YteiicjhckjogbaaGreatDoor
namespace Go.Proofs.YteiicjhckjogbaaGreatDoor
open Go.AM
def brS{α:Type}{b:Bool}{x y:Option α}{q:α}{G:Prop}(h:(bif b then x else y)=some q)(h1:x=some q->G)(h2:y=some q->G):G:=by
 cases b with
 |true=>exact h1 h
 |false=>exact h2 h
def lfS{P:Go.Program}{E:Env}{f k:Nat}{a q:List AV->Hp->Option (AV×Hp)}{r:Option (List AV->Hp->Option (AV×Hp))}(h:(bif Nat.beq f k then some a else r)=some q)(g:Qn P E k a)(e:r=some q->Qn P E f q):Qn P E f q:=by
 cases hb:Nat.beq f k with
 |true=>
  rw[hb]at h;obtain rfl:a=q:=Option.some.inj h;rw[Nat.eq_of_beq_eq_true hb];exact g
 |false=>
  rw[hb]at h;exact e h
def nnS{f:Nat}{q:List AV->Hp->Option (AV×Hp)}{P:Go.Program}{E:Env}(h:(none:Option<|List AV->Hp->Option (AV×Hp))=some q):Qn P E f q:=by cases h
def ZIF[REdz](f:Nat)(s:List AV->Hp->Option (AV×Hp))(h:N8 f=some s):Qn Tryz.prog rE f s:=by
 unfold N8 at h;exact(brS h (λh=>(brS h (λh=>(brS h (λh=>(brS h (λh=>(lfS h Z6p nnS))<|λh=>(lfS h Z6v nnS)))<|λh=>(brS h (λh=>(lfS h Z6w nnS))<|λh=>(lfS h Zbt nnS))))<|λh=>(brS h (λh=>(brS h (λh=>(lfS h ZhW nnS))<|λh=>(lfS h ZRY nnS)))<|λh=>(brS h (λh=>(lfS h Z6z nnS))<|λh=>(brS h (λh=>(lfS h Z7A nnS))<|λh=>(lfS h Z7H nnS))))))<|λh=>(brS h (λh=>(brS h (λh=>(brS h (λh=>(lfS h Z7I nnS))<|λh=>(lfS h Z7L nnS)))<|λh=>(brS h (λh=>(lfS h Z7O nnS))<|λh=>(lfS h Z7T nnS))))<|λh=>(brS h (λh=>(brS h (λh=>(lfS h Z7W nnS))<|λh=>(lfS h ZRX nnS)))<|λh=>(brS h (λh=>(lfS h Z8q nnS))<|λh=>(brS h (λh=>(lfS h Z8r nnS))<|λh=>(lfS h Z8s nnS))))))
def ZRZ[REdz](f:Nat)(s:List AV->Hp->Option (AV×Hp))(g:∀q,REdz.q=some q->ZEs Tryz.prog rE 13 q)(g2:∀q,REdz.a=some q->Qn Tryz.prog rE 17 q)(h:rE.sum f=some s):Qn Tryz.prog rE f s:=by
 change ZP7 f=some s at h;unfold ZP7 at h;cases hb:Nat.beq f 13 with
 |true=>
  rw[hb,cond_true]at h;rw[Nat.eq_of_beq_eq_true hb];obtain⟨q,e1,e2⟩:=Option.map_eq_some_iff.1 h;rw[<-e2];exact ZFI<|g q e1
 |false=>
  rw[hb,cond_false]at h;cases hc:Nat.beq f 17 with
  |true=>
   rw[hc,cond_true]at h;rw[Nat.eq_of_beq_eq_true hc];exact g2 s h
  |false=>
   rw[hc,cond_false]at h;exact ZIF f s h
def ZS0[REdz](f:Nat)(s:List AV->Nat->List AV->Option (List AV))(g:∀q,REdz.q=some q->ZEs Tryz.prog rE 13 q)(h:rE.rs f=some s):ZEs Tryz.prog rE f s:=by
 change(bif Nat.beq f 13 then REdz.q else none)=some s at h;cases hb:Nat.beq f 13 with
 |true=>
  rw[hb,cond_true]at h;rw[Nat.eq_of_beq_eq_true hb];exact g s h
 |false=>
  rw[hb,cond_false]at h;cases h
def ZQk[REdz](g:∀q,REdz.q=some q->ZEs Tryz.prog rE 13 q)(g2:∀q,REdz.a=some q->Qn Tryz.prog rE 17 q):EnvOk Tryz.prog rE:=
 ⟨λ_=>rfl,λf q h=>Z98 f q h,λf s h=>ZRZ f s g g2 h,λf s h=>ZS0 f s g h⟩
@[reducible] def ZP6:REdz:=⟨none,none⟩
def ZQl:EnvOk Tryz.prog (@rE ZP6):=@ZQk ZP6 (λq h=>nomatch (show(none:Option _)=some q from h))<|λq h=>nomatch (show(none:Option _)=some q from h)
def ZS1:∃r:REdz,EnvOk Tryz.prog (@rE r)/\@LawE r:=by
 obtain⟨s,hs,h1⟩:=@ZR6 ZP6 rfl;obtain⟨s',hs',h2⟩:=@ZRa ZP6 rfl
 let r:REdz:=⟨some s,some<|ZOz s'⟩
 refine⟨r,@ZQk r (λq h=>?_)<|λq h=>?_,@LawE.mk r ⟨s,rfl,h1⟩ ⟨s',rfl,h2⟩⟩
 .obtain rfl:s=q:=Option.some.inj h;exact ZQu (E:=@rE r) ZQl (λ_=>rfl) hs
 .obtain rfl:ZOz s'=q:=Option.some.inj h;exact ZQv (E:=@rE r) ZQl (λ_=>rfl) hs'
def Z9l[REdz](W:Go.World):GlR rE T0 (X0 Tryz.prog) W:=λg=>trivial
def ZCK:sig Tryz.prog 10 Tryz.f3.params.toList=some Zwz:=by kernel_rfl
theorem timelineOrder_card:Rows.TimelineOrderCardSaid:=by
 obtain⟨r,h1,h2⟩:=ZS1;exact ZCI h1 (@Z9l r) (n:=10) (S:=Zwz) rfl ZCK (@ZCJ r h2)
end Go.Proofs.YteiicjhckjogbaaGreatDoor
