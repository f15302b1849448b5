/- LineageEvents holds for all its arguments. No condition. -/
import Derived.Test.YtceijililnjcpaaGreatDoorT6
import Derived.Test.YtceijililnjcpaaGreatDoorQ5
import Derived.Test.YtceijililnjcpaaGreatDoorP6c
import Derived.Test.YtceijililnjcpaaGreatDoorR6
import Derived.Shelf.Small.Utf8
import Derived.Shelf.Small.Bits
import Derived.Shelf.Small.Strs
import Derived.Shelf.Utf8.RuneCount
import Derived.Shelf.Strconv.Atoi
import Derived.Shelf.Strconv.Itoa0
import Derived.Shelf.Strconv.Itoa1
import Derived.Shelf.LaysM
import Derived.Shelf.Strconv.Itoa2
import Derived.Shelf.Strconv.Itoa3
import Derived.Shelf.Strconv.AtoiErrFast
import Derived.Shelf.Strconv.ParseIntEmpty
import Derived.Shelf.Strconv.AtoiFail
import Derived.Shelf.Strconv.Clone
import Derived.Shelf.Strconv.SyntaxError
import Derived.Shelf.LaysC
import Derived.Shelf.Strconv.ToError
import Derived.Shelf.Strconv.AtoiErr
import Derived.Shelf.Strconv.ErrVar
import Derived.Shelf.Strconv.Lower
import Derived.Shelf.Strconv.ParseUint10
import Derived.Shelf.Strconv.ParseUint10Empty
import Derived.Shelf.Strconv.ParseUint10Any
import Derived.Shelf.Strconv.ParseInt10
import Derived.Shelf.Strconv.AtoiLong
import Derived.Shelf.Strconv.AtoiInnerAll
import Derived.Shelf.Strconv.RangeError
import Derived.Shelf.Strconv.ToErrorRange
import Derived.Shelf.Strconv.ParseUintEmpty
import Derived.Shelf.Strconv.ParseUint10b64
import Derived.Shelf.Strconv.ParseUint10b32
import Derived.Shelf.Strconv.ParseUint10b16
import Derived.Shelf.Strconv.ParseUint10b8
import Derived.Shelf.Strconv.ParseUint10At
import Derived.Shelf.Strconv.ParseInt10At64
import Derived.Shelf.Strconv.ParseInt10At32
import Derived.Shelf.Strconv.ParseInt10At16
import Derived.Shelf.Strconv.ParseInt10At8
import Derived.Shelf.Strconv.ParseInt10All
import Derived.Shelf.Strings.Search1
import Derived.Shelf.Strings.Search2
import Derived.Shelf.Strings.Search3
import Derived.Shelf.Strings.Count
import Derived.Shelf.Strings.Shaped
import Derived.Shelf.Sort.Plain
import Derived.Shelf.Strings.Prefix
import Derived.Shelf.Strings.Split
import Derived.Shelf.Strings.SplitShaped
import Derived.Shelf.Unicode.Decode
import Derived.Shelf.Strings.Runes
import Derived.Shelf.Strings.RuneCount
import Derived.Shelf.Strings.IndexAny
import Derived.Shelf.Strings.AsciiSet
import Derived.Shelf.Strings.IndexAnyAll
import Derived.Shelf.Strings.Explode
import Derived.Shelf.Unicode.DecodeSlow
import Derived.Shelf.Unicode.DecodeAny
import Derived.Shelf.Slices.Turned
import Derived.Ground.Names2Prog
import Derived.Shelf.Slices.Clone
import Derived.Shelf.Slices.CompactS
import Derived.Shelf.Slices.Cells
import Derived.Shelf.Slices.In.SortNone
import Derived.Ground.SlgnProg
import Derived.Shelf.SlicesE.Clone
import Derived.Ground.SlsfProg
import Derived.Shelf.SlSortCmp.Insertion
import Derived.Shelf.SlSortCmp.SiftDown1
import Derived.Shelf.SlSortCmp.HeapSort1
import Derived.Shelf.SlSortCmp.Insertion1
import Derived.Shelf.SlSortCmp.Median1
import Derived.Shelf.SlSortCmp.Pivot1
import Derived.Shelf.SlSortCmp.ReverseRange1
import Derived.Shelf.SlSortCmp.PartialInsertion1
import Derived.Shelf.SlSortCmp.PartitionEqual1
import Derived.Shelf.SlSortCmp.Partition1
import Derived.Shelf.SlSortCmp.Pdq1
import Derived.Shelf.SlSortCmp.Whole1
import Derived.Shelf.SlSortCmp.NoneTotal
import Derived.Shelf.SlSortCmp.WholeK
import Derived.Lib.AtoiErrMem
set_option linter.unusedVariables false
set_option linter.unusedSimpArgs false
set_option linter.unusedSectionVars false
namespace Go.AM
open Go
theorem Mb {α:Type} {f:α→AV}:∀ {l:List AV},(∀ x∈l,∃ y,x=f y)→∃ m:List α,l=m.map f
 | [],_=>⟨[],rfl⟩
 | x::r,h=>by
  obtain ⟨y,rfl⟩:=h x (List.mem_cons_self ..);obtain ⟨m,rfl⟩:=Mb (fun z hz=>h z (List.mem_cons_of_mem _ hz))
  exact ⟨y::m,rfl⟩
theorem YY {s:CSh} {ss:List CSh} {l:List AV}:Wcs (s::ss) l↔∃ a r,l=a::r∧Wc s a∧Wcs ss r:=by rw [Wcs]
theorem Xo {l:List AV}:Wcs [] l↔l=[]:=by rw [Wcs]
theorem ZQ {k:IntKind} {a:AV} (h:Wc (.int k) a):∃ n,a=.int k n:=by rw [Wc] at h;obtain ⟨n,h,_⟩:=h;exact ⟨n,h⟩
theorem Y4 {a:AV} (h:Wc .str a):∃ s:ByteArray,a=.str s:=by rw [Wc] at h;obtain ⟨n,h,_⟩:=h;exact ⟨n,h⟩
theorem YB {α:Type} {f:α→AV} {es:List CSh} {a:AV} (hd:∀ cs,Wcs es cs→∃ y,AV.agg cs=f y) (h:Wc (.sl true es) a):∃ m:List α,a=.isl false false es.length (m.map f):=by
 rw [Wc] at h;obtain ⟨xs,rfl,_,h2⟩:=h;obtain ⟨m,rfl⟩:=Mb (f:=f) (l:=xs) (fun x hx=>by
  obtain ⟨cs,rfl,h3⟩:=(h2 x hx).1 rfl;exact hd cs h3)
 exact ⟨m,rfl⟩
theorem C8 {α:Type} {f:α→AV} {s:CSh} {a:AV} (hd:∀ x,Wc s x→∃ y,x=f y) (h:Wc (.sl false [s]) a):∃ m:List α,a=.isl false false 1 (m.map f):=by
 rw [Wc] at h;obtain ⟨xs,rfl,_,h2⟩:=h;obtain ⟨m,rfl⟩:=Mb (f:=f) (l:=xs) (fun x hx=>by
  have h3:=(h2 x hx).2 rfl;rw [YY] at h3;obtain ⟨a,r,h4,h5,h6⟩:=h3;rw [Xo] at h6;subst h6;cases h4;exact hd x h5)
 exact ⟨m,rfl⟩
abbrev iS:CSh:=.int .i64
abbrev ptS:List CSh:=[iS,iS]
abbrev nmS:List CSh:=[.str,iS,.str]
abbrev enS:List CSh:=[.str,iS,.str,iS,iS,iS,iS]
abbrev rgS:List CSh:=[.str,iS,iS,.sl true ptS,.sl true nmS,iS]
abbrev C9:List CSh:=[.str,iS,.sl true ptS,.sl true nmS,iS]
abbrev buS:List CSh:=[.str,iS,.sl true ptS,iS]
abbrev drS:List CSh:=[.str,.str,.str,iS,iS,.str,iS,iS,iS,iS,iS,iS,.sl false [.str],iS,iS,.str]
abbrev unS:List CSh:=[.str,.str,.str,iS,iS,iS]
abbrev sS:List CSh:=[.sl true rgS,.sl true C9,.sl true buS,.sl true drS,.sl true unS,.sl true ptS,.sl true ptS]
abbrev evS:List CSh:=[iS,iS,iS,iS,iS,.str,.str,.str,.sl false [.str],.sl true nmS,iS,.str,iS,iS,iS,iS,.sl true ptS,.sl true enS]
theorem HQ (cs:List AV) (h:Wcs ptS cs):∃ y:Pt,AV.agg cs=y.enc:=by
 simp only [YY,Xo] at h;obtain ⟨a,_,rfl,h1,b,_,rfl,h2,rfl⟩:=h;obtain ⟨x,rfl⟩:=ZQ h1;obtain ⟨y,rfl⟩:=ZQ h2;exact ⟨⟨x,y⟩,rfl⟩
theorem Ca (cs:List AV) (h:Wcs ptS cs):∃ y:Pair,AV.agg cs=y.enc:=by
 simp only [YY,Xo] at h;obtain ⟨a,_,rfl,h1,b,_,rfl,h2,rfl⟩:=h;obtain ⟨x,rfl⟩:=ZQ h1;obtain ⟨y,rfl⟩:=ZQ h2;exact ⟨⟨x,y⟩,rfl⟩
theorem Mc (cs:List AV) (h:Wcs nmS cs):∃ y:Nm,AV.agg cs=y.enc:=by
 simp only [YY,Xo] at h;obtain ⟨a,_,rfl,h1,b,_,rfl,h2,c,_,rfl,h3,rfl⟩:=h;obtain ⟨x,rfl⟩:=Y4 h1;obtain ⟨y,rfl⟩:=ZQ h2;obtain ⟨z,rfl⟩:=Y4 h3;exact ⟨⟨x,y,z⟩,rfl⟩
theorem Z6e (cs:List AV) (h:Wcs enS cs):∃ y:Ent,AV.agg cs=y.enc:=by
 simp only [YY,Xo] at h;obtain ⟨_,_,rfl,h1,_,_,rfl,h2,_,_,rfl,h3,_,_,rfl,h4,_,_,rfl,h5,_,_,rfl,h6,_,_,rfl,h7,rfl⟩:=h;obtain ⟨a,rfl⟩:=Y4 h1;obtain ⟨b,rfl⟩:=ZQ h2;obtain ⟨c,rfl⟩:=Y4 h3;obtain ⟨d,rfl⟩:=ZQ h4;obtain ⟨e,rfl⟩:=ZQ h5;obtain ⟨f,rfl⟩:=ZQ h6;obtain ⟨g,rfl⟩:=ZQ h7;exact ⟨⟨a,⟨b,c,d,e⟩,⟨f,g⟩⟩,rfl⟩
theorem Cb (x:AV) (h:Wc .str x):∃ y:Str,x=encS y:=Y4 h
theorem Z6f (cs:List AV) (h:Wcs rgS cs):∃ y:Region,AV.agg cs=y.enc:=by
 simp only [YY,Xo] at h;obtain ⟨_,_,rfl,h1,_,_,rfl,h2,_,_,rfl,h3,_,_,rfl,h4,_,_,rfl,h5,_,_,rfl,h6,rfl⟩:=h;obtain ⟨a,rfl⟩:=Y4 h1;obtain ⟨b,rfl⟩:=ZQ h2;obtain ⟨c,rfl⟩:=ZQ h3;obtain ⟨d,rfl⟩:=YB HQ h4;obtain ⟨e,rfl⟩:=YB Mc h5;obtain ⟨f,rfl⟩:=ZQ h6;exact ⟨⟨a,b,c,⟨false,d⟩,⟨false,e⟩,f⟩,rfl⟩
theorem Z6g (cs:List AV) (h:Wcs C9 cs):∃ y:Street,AV.agg cs=y.enc:=by
 simp only [YY,Xo] at h;obtain ⟨_,_,rfl,h1,_,_,rfl,h2,_,_,rfl,h4,_,_,rfl,h5,_,_,rfl,h6,rfl⟩:=h;obtain ⟨a,rfl⟩:=Y4 h1;obtain ⟨b,rfl⟩:=ZQ h2;obtain ⟨d,rfl⟩:=YB HQ h4;obtain ⟨e,rfl⟩:=YB Mc h5;obtain ⟨f,rfl⟩:=ZQ h6;exact ⟨⟨a,b,⟨false,d⟩,⟨false,e⟩,f⟩,rfl⟩
theorem Z6h (cs:List AV) (h:Wcs buS cs):∃ y:Building,AV.agg cs=y.enc:=by
 simp only [YY,Xo] at h;obtain ⟨_,_,rfl,h1,_,_,rfl,h2,_,_,rfl,h4,_,_,rfl,h6,rfl⟩:=h;obtain ⟨a,rfl⟩:=Y4 h1;obtain ⟨b,rfl⟩:=ZQ h2;obtain ⟨d,rfl⟩:=YB HQ h4;obtain ⟨f,rfl⟩:=ZQ h6;exact ⟨⟨a,b,⟨false,d⟩,f⟩,rfl⟩
theorem Z6i (cs:List AV) (h:Wcs unS cs):∃ y:Unit',AV.agg cs=y.enc:=by
 simp only [YY,Xo] at h;obtain ⟨_,_,rfl,h1,_,_,rfl,h2,_,_,rfl,h3,_,_,rfl,h4,_,_,rfl,h5,_,_,rfl,h6,rfl⟩:=h;obtain ⟨a,rfl⟩:=Y4 h1;obtain ⟨b,rfl⟩:=Y4 h2;obtain ⟨c,rfl⟩:=Y4 h3;obtain ⟨d,rfl⟩:=ZQ h4;obtain ⟨e,rfl⟩:=ZQ h5;obtain ⟨f,rfl⟩:=ZQ h6;exact ⟨⟨a,b,c,d,e,f⟩,rfl⟩
theorem Z6j (cs:List AV) (h:Wcs drS cs):∃ y:Door,AV.agg cs=y.enc:=by
 simp only [YY,Xo] at h;obtain ⟨_,_,rfl,h1,_,_,rfl,h2,_,_,rfl,h3,_,_,rfl,h4,_,_,rfl,h5,_,_,rfl,h6,_,_,rfl,h7,_,_,rfl,h8,_,_,rfl,h9,_,_,rfl,h10,_,_,rfl,h11,_,_,rfl,h12,_,_,rfl,h13,_,_,rfl,h14,_,_,rfl,h15,_,_,rfl,h16,rfl⟩:=h;obtain ⟨a1,rfl⟩:=Y4 h1;obtain ⟨a2,rfl⟩:=Y4 h2;obtain ⟨a3,rfl⟩:=Y4 h3;obtain ⟨a4,rfl⟩:=ZQ h4;obtain ⟨a5,rfl⟩:=ZQ h5;obtain ⟨a6,rfl⟩:=Y4 h6;obtain ⟨a7,rfl⟩:=ZQ h7;obtain ⟨a8,rfl⟩:=ZQ h8;obtain ⟨a9,rfl⟩:=ZQ h9;obtain ⟨a10,rfl⟩:=ZQ h10;obtain ⟨a11,rfl⟩:=ZQ h11;obtain ⟨a12,rfl⟩:=ZQ h12;obtain ⟨a13,rfl⟩:=C8 Cb h13;obtain ⟨a14,rfl⟩:=ZQ h14;obtain ⟨a15,rfl⟩:=ZQ h15;obtain ⟨a16,rfl⟩:=Y4 h16;exact ⟨⟨a1,a2,a3,a4,⟨a5,a6,a7,a8⟩,⟨a9,a10⟩,a11,a12,⟨false,a13⟩,a14,a15,a16⟩,rfl⟩
theorem Z6k (cs:List AV) (h:Wcs sS cs):∃ s:Sta,AV.agg cs=stA s:=by
 simp only [YY,Xo] at h;obtain ⟨_,_,rfl,h1,_,_,rfl,h2,_,_,rfl,h3,_,_,rfl,h4,_,_,rfl,h5,_,_,rfl,h6,_,_,rfl,h7,rfl⟩:=h;obtain ⟨a1,rfl⟩:=YB Z6f h1;obtain ⟨a2,rfl⟩:=YB Z6g h2;obtain ⟨a3,rfl⟩:=YB Z6h h3;obtain ⟨a4,rfl⟩:=YB Z6j h4;obtain ⟨a5,rfl⟩:=YB Z6i h5;obtain ⟨a6,rfl⟩:=YB Ca h6;obtain ⟨a7,rfl⟩:=YB Ca h7;exact ⟨⟨a1,a2,a3,a4,a5,a6,a7⟩,rfl⟩
theorem Z6l (cs:List AV) (h:Wcs evS cs):∃ e:Event,AV.agg cs=evA e:=by
 simp only [YY,Xo] at h;obtain ⟨_,_,rfl,h1,_,_,rfl,h2,_,_,rfl,h3,_,_,rfl,h4,_,_,rfl,h5,_,_,rfl,h6,_,_,rfl,h7,_,_,rfl,h8,_,_,rfl,h9,_,_,rfl,h10,_,_,rfl,h11,_,_,rfl,h12,_,_,rfl,h13,_,_,rfl,h14,_,_,rfl,h15,_,_,rfl,h16,_,_,rfl,h17,_,_,rfl,h18,rfl⟩:=h;obtain ⟨a1,rfl⟩:=ZQ h1;obtain ⟨a2,rfl⟩:=ZQ h2;obtain ⟨a3,rfl⟩:=ZQ h3;obtain ⟨a4,rfl⟩:=ZQ h4;obtain ⟨a5,rfl⟩:=ZQ h5;obtain ⟨a6,rfl⟩:=Y4 h6;obtain ⟨a7,rfl⟩:=Y4 h7;obtain ⟨a8,rfl⟩:=Y4 h8;obtain ⟨a9,rfl⟩:=C8 Cb h9;obtain ⟨a10,rfl⟩:=YB Mc h10;obtain ⟨a11,rfl⟩:=ZQ h11;obtain ⟨a12,rfl⟩:=Y4 h12;obtain ⟨a13,rfl⟩:=ZQ h13;obtain ⟨a14,rfl⟩:=ZQ h14;obtain ⟨a15,rfl⟩:=ZQ h15;obtain ⟨a16,rfl⟩:=ZQ h16;obtain ⟨a17,rfl⟩:=YB HQ h17;obtain ⟨a18,rfl⟩:=YB Z6e h18;exact ⟨⟨a1,a2,a3,a4,a5,a6,a7,a8,⟨false,a9⟩,⟨false,a10⟩,⟨a11,a12,a13,a14⟩,⟨a15,a16⟩,⟨false,a17⟩,⟨false,a18⟩⟩,rfl⟩
theorem Zrc {a:AV} (h:Wc (.int .u8) a):∃ d,a=.int .u8 d∧0≤d∧d≤255:=by
 rw [Wc] at h;obtain ⟨d,rfl,hw⟩:=h;have h9:(decide (IntKind.u8.min≤d)&&decide (d≤IntKind.u8.max))=true:=hw;rw [Bool.and_eq_true] at h9;have m1:IntKind.u8.min=0:=by decide
 have m2:IntKind.u8.max=255:=by decide
 have a1:=of_decide_eq_true h9.1;have a2:=of_decide_eq_true h9.2;exact ⟨d,rfl,by omega,by omega⟩
theorem Zq1 {a:AV} (h:Wcs [.int .u8] [a]):∃ d,a=.int .u8 d∧0≤d∧d≤255:=by
 rw [YY] at h;obtain ⟨_,_,e,k,_⟩:=h;cases e;exact Zrc k
theorem ZKm {k:IntKind} {a:AV} (h:Wcs [.int k] [a]):∃ n,a=.int k n:=by
 rw [YY] at h;obtain ⟨_,_,e,k,_⟩:=h;cases e;exact ZQ k
abbrev ZDj:List (Bool×List CSh):=[(true,sS),(false,[iS]),(true,evS),(false,[.int .u8])]
theorem ZJs {a:Int} (h:0≤a∧a≤255):∃ n:Nat,a=n∧n < 256:=⟨a.toNat,by omega,by omega⟩
theorem ZKn (xs:List AV) (h:Wvs ZDj xs):∃ (s:Sta) (a:Int) (e:Event) (n:Nat),xs=[stA s,I a,evA e,.int .u8 n]∧n < 256:=by
 obtain ⟨x,_,rfl,h1,_,y,_,rfl,_,h2,z,_,rfl,h3,_,u,_,rfl,_,h5,h4⟩:=h;have h4':_=[]:=h4;subst h4';obtain ⟨c1,rfl,k1⟩:=h1 rfl;obtain ⟨s,hs⟩:=Z6k c1 k1;obtain ⟨a,rfl⟩:=ZKm (h2 rfl);obtain ⟨c3,rfl,k5⟩:=h3 rfl;obtain ⟨e,he⟩:=Z6l c3 k5;obtain ⟨r,rfl,hr⟩:=Zq1 (h5 rfl);obtain ⟨n,rfl,hn⟩:=ZJs hr;exact ⟨s,a,e,n,by rw [hs,he],hn⟩
theorem Zf5 (xs:List AV) (h:Wvs ZDj xs):pfn rE 6 xs=some (.bool true):=by
 obtain ⟨s,a,e,n,rfl,hn⟩:=ZKn xs h;exact ZeL ZIh s a e n hn
end Go.AM
namespace Go.Proofs
open Go.Proofs.Tryz
open Go.Shelf
def Tryz.lays137_ren:Go.Shelf.Ren:=⟨fun | 137=>242 | 217=>254 | 266=>268 | n=>n,fun | 9=>9 | 5=>5 | 3=>3 | n=>n,fun | n=>n⟩
theorem Tryz.lays137:Go.Proofs.Lays.n137 Tryz.prog Tryz.lays137_ren:={
 mixed:=by kernel_rfl
 f137:=func242.trans (congrArg some (by kernel_rfl))
 f217:=func254.trans (congrArg some (by kernel_rfl))
 f266:=func268.trans (congrArg some (by kernel_rfl))
 t3:=underlying3
 a3:=isAgg3
 z3:=sizeOf3
 v3:=zeroValue3
 t5:=underlying5
 a5:=isAgg5
 z5:=sizeOf5
 v5:=zeroValue5
 t9:=underlying9
 a9:=isAgg9
 z9:=sizeOf9
 v9:=zeroValue9 }
open Go.RowKit in
theorem Tryz.strings_IndexByte (s:ByteArray) (c:Int) (w:World):
 Calls Tryz.prog 242 #[.string s,.int .u8 c] w fun e w'=>e=.returned (.int .i64 (Lib.indexByte s.data.toList c.toNat.toUInt8))∧w'=w:=Any.strings_IndexByte Tryz.lays137 s c w
def Tryz.lays172_ren:Go.Shelf.Ren:=⟨fun | 172=>243 | 244=>255 | 245=>256 | 247=>269 | 279=>270 | 280=>271 | 281=>272 | 282=>273 | 287=>281 | 316=>282 | 171=>284 | 205=>283 | 321=>287 | 322=>288 | 243=>289 | 246=>291 | 283=>292 | 284=>293 | 285=>294 | 286=>295 | 129=>176 | 317=>296 | 318=>297 | 319=>298 | 320=>299 | 337=>300 | 338=>301 | n=>n,fun | 9=>9 | 3=>3 | 75=>259 | 76=>260 | 4=>4 | 5=>5 | 167=>286 | 37=>287 | 0=>0 | 85=>288 | 2=>2 | 168=>290 | 53=>190 | 175=>297 | 46=>160 | 210=>300 | 127=>304 | 145=>307 | 143=>305 | 21=>21 | 171=>315 | 173=>317 | 212=>320 | 51=>188 | 20=>20 | 213=>321 | 232=>322 | 233=>323 | 80=>324 | n=>n,fun | 15=>1 | 16=>2 | 17=>5 | 18=>6 | 19=>7 | n=>n⟩
theorem Tryz.lays172:Go.Proofs.Lays.n172 Tryz.prog Tryz.lays172_ren:={
 mixed:=by kernel_rfl
 f129:=func176.trans (congrArg some (by kernel_rfl))
 f171:=func284.trans (congrArg some (by kernel_rfl))
 f172:=func243.trans (congrArg some (by kernel_rfl))
 f205:=func283.trans (congrArg some (by kernel_rfl))
 f243:=func289.trans (congrArg some (by kernel_rfl))
 f244:=func255.trans (congrArg some (by kernel_rfl))
 f245:=func256.trans (congrArg some (by kernel_rfl))
 f246:=func291.trans (congrArg some (by kernel_rfl))
 f247:=func269.trans (congrArg some (by kernel_rfl))
 f279:=func270.trans (congrArg some (by kernel_rfl))
 f280:=func271.trans (congrArg some (by kernel_rfl))
 f281:=func272.trans (congrArg some (by kernel_rfl))
 f282:=func273.trans (congrArg some (by kernel_rfl))
 f283:=func292.trans (congrArg some (by kernel_rfl))
 f284:=func293.trans (congrArg some (by kernel_rfl))
 f285:=func294.trans (congrArg some (by kernel_rfl))
 f286:=func295.trans (congrArg some (by kernel_rfl))
 f287:=func281.trans (congrArg some (by kernel_rfl))
 f316:=func282.trans (congrArg some (by kernel_rfl))
 f317:=func296.trans (congrArg some (by kernel_rfl))
 f318:=func297.trans (congrArg some (by kernel_rfl))
 f319:=func298.trans (congrArg some (by kernel_rfl))
 f320:=func299.trans (congrArg some (by kernel_rfl))
 f321:=func287.trans (congrArg some (by kernel_rfl))
 f322:=func288.trans (congrArg some (by kernel_rfl))
 f337:=func300.trans (congrArg some (by kernel_rfl))
 f338:=func301.trans (congrArg some (by kernel_rfl))
 t0:=underlying0
 a0:=isAgg0
 z0:=sizeOf0
 v0:=zeroValue0
 t2:=underlying2
 a2:=isAgg2
 z2:=sizeOf2
 v2:=zeroValue2
 t3:=underlying3
 a3:=isAgg3
 z3:=sizeOf3
 v3:=zeroValue3
 t4:=underlying4
 a4:=isAgg4
 z4:=sizeOf4
 v4:=zeroValue4
 t5:=underlying5
 a5:=isAgg5
 z5:=sizeOf5
 v5:=zeroValue5
 t9:=underlying9
 a9:=isAgg9
 z9:=sizeOf9
 v9:=zeroValue9
 t20:=underlying20
 a20:=isAgg20
 z20:=sizeOf20
 v20:=zeroValue20
 t21:=underlying21
 a21:=isAgg21
 z21:=sizeOf21
 v21:=zeroValue21
 t37:=underlying287
 a37:=isAgg287
 z37:=sizeOf287
 v37:=zeroValue287
 t46:=underlying160
 a46:=isAgg160
 z46:=sizeOf160
 v46:=zeroValue160
 t51:=underlying188
 a51:=isAgg188
 z51:=sizeOf188
 v51:=zeroValue188
 t53:=underlying190
 a53:=isAgg190
 z53:=sizeOf190
 v53:=zeroValue190
 t75:=underlying259
 a75:=isAgg259
 z75:=sizeOf259
 v75:=zeroValue259
 t76:=underlying260
 a76:=isAgg260
 z76:=sizeOf260
 v76:=zeroValue260
 t85:=underlying288
 a85:=isAgg288
 z85:=sizeOf288
 v85:=zeroValue288
 t127:=underlying304
 a127:=isAgg304
 z127:=sizeOf304
 v127:=zeroValue304
 t143:=underlying305
 a143:=isAgg305
 z143:=sizeOf305
 v143:=zeroValue305
 t145:=underlying307
 a145:=isAgg307
 z145:=sizeOf307
 v145:=zeroValue307
 t167:=underlying286
 a167:=isAgg286
 z167:=sizeOf286
 v167:=zeroValue286
 t168:=underlying290
 a168:=isAgg290
 z168:=sizeOf290
 v168:=zeroValue290
 t171:=underlying315
 a171:=isAgg315
 z171:=sizeOf315
 v171:=zeroValue315
 t173:=underlying317
 a173:=isAgg317
 z173:=sizeOf317
 v173:=zeroValue317
 t175:=underlying297
 a175:=isAgg297
 z175:=sizeOf297
 v175:=zeroValue297
 t210:=underlying300
 a210:=isAgg300
 z210:=sizeOf300
 v210:=zeroValue300
 t212:=underlying320
 a212:=isAgg320
 z212:=sizeOf320
 v212:=zeroValue320
 t213:=underlying321
 a213:=isAgg321
 z213:=sizeOf321
 t232:=underlying322
 a232:=isAgg322
 z232:=sizeOf322
 v232:=zeroValue322
 t233:=underlying323
 a233:=isAgg323
 z233:=sizeOf323
 v233:=zeroValue323
 g15:=by kernel_rfl
 g16:=by kernel_rfl
 g17:=by kernel_rfl
 g18:=by kernel_rfl
 g19:=by kernel_rfl }
open Go.RowKit in
theorem Tryz.strconv_Atoi (s:ByteArray) (n:Int) (hl:s.size≤18) (h:Lib.atoi s.data.toList=some n) (w:World):
 Calls Tryz.prog 243 #[.string s] w fun e w'=>e=.returned (.tuple #[.int .i64 n,.nilIface])∧∃ t,w'=Lib.bytesWorld w 5 t:=Any.strconv_Atoi Tryz.lays172 s n hl h w
def Tryz.lays190_ren:Go.Shelf.Ren:=⟨fun | 190=>68 | 125=>117 | 258=>116 | 128=>175 | 129=>176 | 302=>166 | 303=>167 | 304=>168 | 305=>169 | 306=>170 | 307=>171 | 308=>172 | 309=>173 | 310=>174 | 333=>213 | 329=>214 | 330=>215 | 334=>216 | 335=>217 | 336=>121 | 344=>236 | n=>n,fun | 31=>37 | 9=>9 | 3=>3 | 46=>160 | 0=>0 | 51=>188 | 53=>190 | 4=>4 | 183=>180 | 182=>179 | 131=>185 | 5=>5 | 218=>217 | 222=>221 | 228=>249 | 229=>250 | n=>n,fun | n=>n⟩
theorem Tryz.lays190:Go.Proofs.Lays.n190 Tryz.prog Tryz.lays190_ren:={
 mixed:=by kernel_rfl
 f125:=func117.trans (congrArg some (by kernel_rfl))
 f128:=func175.trans (congrArg some (by kernel_rfl))
 f129:=func176.trans (congrArg some (by kernel_rfl))
 f190:=func68.trans (congrArg some (by kernel_rfl))
 f258:=func116.trans (congrArg some (by kernel_rfl))
 f302:=func166.trans (congrArg some (by kernel_rfl))
 f303:=func167.trans (congrArg some (by kernel_rfl))
 f304:=func168.trans (congrArg some (by kernel_rfl))
 f305:=func169.trans (congrArg some (by kernel_rfl))
 f306:=func170.trans (congrArg some (by kernel_rfl))
 f307:=func171.trans (congrArg some (by kernel_rfl))
 f308:=func172.trans (congrArg some (by kernel_rfl))
 f309:=func173.trans (congrArg some (by kernel_rfl))
 f310:=func174.trans (congrArg some (by kernel_rfl))
 f329:=func214.trans (congrArg some (by kernel_rfl))
 f330:=func215.trans (congrArg some (by kernel_rfl))
 f333:=func213.trans (congrArg some (by kernel_rfl))
 f334:=func216.trans (congrArg some (by kernel_rfl))
 f335:=func217.trans (congrArg some (by kernel_rfl))
 f336:=func121.trans (congrArg some (by kernel_rfl))
 f344:=func236.trans (congrArg some (by kernel_rfl))
 t0:=underlying0
 a0:=isAgg0
 z0:=sizeOf0
 v0:=zeroValue0
 t3:=underlying3
 a3:=isAgg3
 z3:=sizeOf3
 v3:=zeroValue3
 t4:=underlying4
 a4:=isAgg4
 z4:=sizeOf4
 v4:=zeroValue4
 t5:=underlying5
 a5:=isAgg5
 z5:=sizeOf5
 v5:=zeroValue5
 t9:=underlying9
 a9:=isAgg9
 z9:=sizeOf9
 v9:=zeroValue9
 t31:=underlying37
 a31:=isAgg37
 z31:=sizeOf37
 v31:=zeroValue37
 t46:=underlying160
 a46:=isAgg160
 z46:=sizeOf160
 v46:=zeroValue160
 t51:=underlying188
 a51:=isAgg188
 z51:=sizeOf188
 v51:=zeroValue188
 t53:=underlying190
 a53:=isAgg190
 z53:=sizeOf190
 v53:=zeroValue190
 t131:=underlying185
 a131:=isAgg185
 z131:=sizeOf185
 v131:=zeroValue185
 t182:=underlying179
 a182:=isAgg179
 z182:=sizeOf179
 v182:=zeroValue179
 t183:=underlying180
 a183:=isAgg180
 z183:=sizeOf180
 v183:=zeroValue180
 t218:=underlying217
 a218:=isAgg217
 z218:=sizeOf217
 v218:=zeroValue217
 t222:=underlying221
 a222:=isAgg221
 z222:=sizeOf221
 v222:=zeroValue221
 t228:=underlying249
 a228:=isAgg249
 z228:=sizeOf249
 v228:=zeroValue249
 t229:=underlying250
 a229:=isAgg250
 z229:=sizeOf250
 v229:=zeroValue250 }
open Go.Sort Go.RowKit in
theorem Tryz.slices_Sort_string (blk off cap:Nat) (ss:List (List UInt8)) (w:World) (hH:Holds encStr w blk off ss.toArray) (hblk:blk < w.heap.size) (hsz:ss.length < 4611686018427387904):
 Calls Tryz.prog 68 #[.slice (some ⟨blk,off,none⟩) ss.length cap] w fun e w'=>
  e=.returned (.tuple #[])∧∃ n os,w'=grow (putRow encStr (Sort.ahead w n) blk off (ss.mergeSort fun x y=>decide (x≤y)).toArray) os:=Any.slices_Sort_string Tryz.lays190 blk off cap ss w hH hblk hsz
def Tryz.lays146_ren:Go.Shelf.Ren:=⟨fun | 146=>231 | 221=>252 | 268=>265 | 138=>266 | 143=>267 | 195=>277 | 197=>278 | 218=>279 | 219=>280 | 260=>285 | 217=>254 | 225=>276 | 224=>275 | 267=>286 | 266=>268 | 314=>290 | n=>n,fun | 9=>9 | 31=>37 | 3=>3 | 4=>4 | 0=>0 | 105=>295 | 21=>21 | 5=>5 | 46=>160 | 119=>308 | 139=>311 | 138=>310 | 146=>312 | 51=>188 | n=>n,fun | 1=>0 | 3=>3 | 4=>4 | n=>n⟩
theorem Tryz.lays146:Go.Proofs.Lays.n146 Tryz.prog Tryz.lays146_ren:={
 mixed:=by kernel_rfl
 f138:=func266.trans (congrArg some (by kernel_rfl))
 f143:=func267.trans (congrArg some (by kernel_rfl))
 f146:=func231.trans (congrArg some (by kernel_rfl))
 f195:=func277.trans (congrArg some (by kernel_rfl))
 f197:=func278.trans (congrArg some (by kernel_rfl))
 f217:=func254.trans (congrArg some (by kernel_rfl))
 f218:=func279.trans (congrArg some (by kernel_rfl))
 f219:=func280.trans (congrArg some (by kernel_rfl))
 f221:=func252.trans (congrArg some (by kernel_rfl))
 f224:=func275.trans (congrArg some (by kernel_rfl))
 f225:=func276.trans (congrArg some (by kernel_rfl))
 f260:=func285.trans (congrArg some (by kernel_rfl))
 f266:=func268.trans (congrArg some (by kernel_rfl))
 f267:=func286.trans (congrArg some (by kernel_rfl))
 f268:=func265.trans (congrArg some (by kernel_rfl))
 f314:=func290.trans (congrArg some (by kernel_rfl))
 t0:=underlying0
 a0:=isAgg0
 z0:=sizeOf0
 v0:=zeroValue0
 t3:=underlying3
 a3:=isAgg3
 z3:=sizeOf3
 v3:=zeroValue3
 t4:=underlying4
 a4:=isAgg4
 z4:=sizeOf4
 v4:=zeroValue4
 t5:=underlying5
 a5:=isAgg5
 z5:=sizeOf5
 v5:=zeroValue5
 t9:=underlying9
 a9:=isAgg9
 z9:=sizeOf9
 v9:=zeroValue9
 t21:=underlying21
 a21:=isAgg21
 z21:=sizeOf21
 v21:=zeroValue21
 t31:=underlying37
 a31:=isAgg37
 z31:=sizeOf37
 v31:=zeroValue37
 t46:=underlying160
 a46:=isAgg160
 z46:=sizeOf160
 v46:=zeroValue160
 t51:=underlying188
 a51:=isAgg188
 z51:=sizeOf188
 v51:=zeroValue188
 t105:=underlying295
 a105:=isAgg295
 z105:=sizeOf295
 v105:=zeroValue295
 t119:=underlying308
 a119:=isAgg308
 z119:=sizeOf308
 t138:=underlying310
 a138:=isAgg310
 z138:=sizeOf310
 v138:=zeroValue310
 t139:=underlying311
 a139:=isAgg311
 z139:=sizeOf311
 v139:=zeroValue311
 t146:=underlying312
 a146:=isAgg312
 z146:=sizeOf312
 v146:=zeroValue312
 g1:=by kernel_rfl
 g3:=by kernel_rfl
 g4:=by kernel_rfl }
def Tryz.lays153_ren:Go.Shelf.Ren:=⟨fun | 153=>244 | 152=>257 | 226=>258 | 227=>259 | 228=>260 | 137=>242 | 119=>274 | 224=>275 | 225=>276 | 217=>254 | 266=>268 | n=>n,fun | 9=>9 | 3=>3 | 4=>4 | 5=>5 | 21=>21 | 117=>280 | 116=>279 | 0=>0 | 46=>160 | 124=>293 | n=>n,fun | n=>n⟩
theorem Tryz.lays153:Go.Proofs.Lays.n153 Tryz.prog Tryz.lays153_ren:={
 mixed:=by kernel_rfl
 f119:=func274.trans (congrArg some (by kernel_rfl))
 f137:=func242.trans (congrArg some (by kernel_rfl))
 f152:=func257.trans (congrArg some (by kernel_rfl))
 f153:=func244.trans (congrArg some (by kernel_rfl))
 f217:=func254.trans (congrArg some (by kernel_rfl))
 f224:=func275.trans (congrArg some (by kernel_rfl))
 f225:=func276.trans (congrArg some (by kernel_rfl))
 f226:=func258.trans (congrArg some (by kernel_rfl))
 f227:=func259.trans (congrArg some (by kernel_rfl))
 f228:=func260.trans (congrArg some (by kernel_rfl))
 f266:=func268.trans (congrArg some (by kernel_rfl))
 t0:=underlying0
 a0:=isAgg0
 z0:=sizeOf0
 v0:=zeroValue0
 t3:=underlying3
 a3:=isAgg3
 z3:=sizeOf3
 v3:=zeroValue3
 t4:=underlying4
 a4:=isAgg4
 z4:=sizeOf4
 v4:=zeroValue4
 t5:=underlying5
 a5:=isAgg5
 z5:=sizeOf5
 v5:=zeroValue5
 t9:=underlying9
 a9:=isAgg9
 z9:=sizeOf9
 v9:=zeroValue9
 t21:=underlying21
 a21:=isAgg21
 z21:=sizeOf21
 v21:=zeroValue21
 t46:=underlying160
 a46:=isAgg160
 z46:=sizeOf160
 v46:=zeroValue160
 t116:=underlying279
 a116:=isAgg279
 z116:=sizeOf279
 t117:=underlying280
 a117:=isAgg280
 z117:=sizeOf280
 v117:=zeroValue280
 t124:=underlying293
 a124:=isAgg293
 z124:=sizeOf293
 v124:=zeroValue293 }
def Tryz.laysNm216_ren:Go.Shelf.Ren:=⟨fun | 16=>67 | n=>n,fun | 24=>37 | 9=>9 | 4=>4 | n=>n,fun | n=>n⟩
theorem Tryz.laysNm216:Go.Proofs.Lays2.n16 Tryz.prog Tryz.laysNm216_ren:={
 mixed:=by kernel_rfl
 f16:=func67.trans (congrArg some (by kernel_rfl))
 t4:=underlying4
 a4:=isAgg4
 z4:=sizeOf4
 v4:=zeroValue4
 t9:=underlying9
 a9:=isAgg9
 z9:=sizeOf9
 v9:=zeroValue9
 t24:=underlying37
 a24:=isAgg37
 z24:=sizeOf37
 v24:=zeroValue37
 i9:=by kernel_rfl }
open Go.RowKit Go.Lib in
theorem Tryz.slices_Clone_string_nil (n c:Nat) (w:World):
 Calls Tryz.prog 67 #[.slice none n c] w fun e w'=>e=.returned (.slice none 0 0)∧w'=w:=Any.slices_Clone_string_nil Tryz.laysNm216 n c w
open Go.RowKit Go.Lib in
theorem Tryz.slices_Clone_string_zero (a:Addr) (c:Nat) (w:World):
 Calls Tryz.prog 67 #[.slice (some a) 0 c] w fun e w'=>∃ v',e=.returned v'∧w'.ownsRow w.heap.size 9 1 v' 0 []∧v'≠.slice none 0 0∧Below w.heap.size w w':=Any.slices_Clone_string_zero Tryz.laysNm216 a c w
def Tryz.lays194_ren:Go.Shelf.Ren:=⟨fun | 194=>69 | n=>n,fun | 31=>37 | 9=>9 | 3=>3 | 4=>4 | 0=>0 | n=>n,fun | n=>n⟩
theorem Tryz.lays194:Go.Proofs.Lays.n194 Tryz.prog Tryz.lays194_ren:={
 mixed:=by kernel_rfl
 f194:=func69.trans (congrArg some (by kernel_rfl))
 t0:=underlying0
 a0:=isAgg0
 z0:=sizeOf0
 v0:=zeroValue0
 t3:=underlying3
 a3:=isAgg3
 z3:=sizeOf3
 v3:=zeroValue3
 t4:=underlying4
 a4:=isAgg4
 z4:=sizeOf4
 v4:=zeroValue4
 t9:=underlying9
 a9:=isAgg9
 z9:=sizeOf9
 v9:=zeroValue9
 t31:=underlying37
 a31:=isAgg37
 z31:=sizeOf37
 v31:=zeroValue37 }
open Go.RowKit Go.Lib Go.Sort in
theorem Tryz.slices_Compact_string (blk off cap:Nat) (zs:List (List UInt8)) (w:World) (hH:Holds encStr w blk off zs.toArray) (hsz:zs.length≤9223372036854775807) (hcap:zs.length≤cap):
 Calls Tryz.prog 69 #[.slice (some ⟨blk,off,none⟩) zs.length cap] w fun e w'=>e=.returned (.slice (some ⟨blk,off,none⟩) (Lib.compact zs).length cap)∧∃ q,w'=putRow encStr (Sort.ahead w q) blk off (Lib.compact zs++List.replicate (zs.length - (Lib.compact zs).length) []).toArray:=Any.slices_Compact_string Tryz.lays194 blk off cap zs w hH hsz hcap
open Go.RowKit Go.Lib Go.Sort in
theorem Tryz.slices_Compact_string_empty (a:Option Addr) (cap:Nat) (w:World):
 Calls Tryz.prog 69 #[.slice a 0 cap] w fun e w'=>e=.returned (.slice a 0 cap)∧w'=w:=Any.slices_Compact_string_empty Tryz.lays194 a cap w
open Go.RowKit Go.Sort in
theorem Tryz.slices_Sort_string_none (p:Option Addr) (cap:Nat) (w:World):
 Calls Tryz.prog 68 #[.slice p 0 cap] w fun e w'=>e=.returned (.tuple #[])∧w'=w:=Any.slices_Sort_string_none Tryz.lays190 p cap w
def Tryz.laysSlE041_f67_ren:Go.Shelf.Ren:=⟨fun | 41=>67 | n=>n,fun | 22=>37 | 23=>9 | 4=>4 | n=>n,fun | n=>n⟩
theorem Tryz.laysSlE041_f67:Go.Proofs.SlLaysE0.n41 Tryz.prog Tryz.laysSlE041_f67_ren:={
 mixed:=by kernel_rfl
 f41:=⟨f67.name,by decide,func67.trans (congrArg some (by kernel_rfl))⟩
 t4:=underlying4
 a4:=isAgg4
 z4:=sizeOf4
 v4:=zeroValue4
 t22:=underlying37
 a22:=isAgg37
 z22:=sizeOf37
 v22:=zeroValue37 }
open Go.RowKit Go.Lib in
theorem Tryz.slices_Clone (i0:TypeInfo) (z:Value) (size bytes:Nat) (hi:Tryz.prog.info? 9=some i0) (hz0:i0.zero=some z) (hz1:i0.size=size) (hz2:i0.bytes=bytes) (hzs:z.cells.size=size) (hsz:0 < size) (z23:∀ w,(Go.sizeOf 9).run Tryz.prog w=.ok size w) (b off n c:Nat) (news:List Value) (w:World) (hl:news.length=n * size) (hn:n≤maxLen) (hbig:n * bytes≤140737488355328) (hc:∀ j u,news[j]? = some u→w.cell? ⟨b,off+j,none⟩=some u) (h1:∀ u∈news,u.oneCell'=true):
 Calls Tryz.prog 67 #[.slice (some ⟨b,off,none⟩) n c] w fun e w'=>∃ v',e=.returned v'∧w'.ownsRow w.heap.size 9 size v' n news∧v'≠.slice none 0 0∧Below w.heap.size w w':=AnyE.slices_Clone Tryz.laysSlE041_f67 i0 z size bytes hi hz0 hz1 hz2 hzs hsz z23 b off n c news w hl hn hbig hc h1
def Tryz.laysSlF6_f72_ren:Go.Shelf.Ren:=⟨fun | 6=>72 | 15=>117 | 14=>120 | 28=>175 | 29=>176 | 20=>178 | 21=>179 | 22=>180 | 23=>181 | 24=>182 | 25=>183 | 26=>184 | 27=>185 | 46=>218 | 47=>214 | 48=>215 | 49=>219 | 50=>220 | 57=>237 | n=>n,fun | 22=>37 | 24=>9 | 25=>118 | 3=>3 | 39=>160 | 0=>0 | 53=>188 | 55=>190 | 4=>4 | 46=>180 | 45=>179 | 50=>185 | 5=>5 | 9=>9 | 66=>217 | 70=>221 | 76=>249 | 77=>250 | n=>n,fun | n=>n⟩
theorem Tryz.laysSlF6_f72:Go.Proofs.SlLaysF.n6 Tryz.prog Tryz.laysSlF6_f72_ren:={
 mixed:=by kernel_rfl
 f6:=⟨f72.name,by decide,func72.trans (congrArg some (by kernel_rfl))⟩
 f14:=⟨f120.name,by decide,func120.trans (congrArg some (by kernel_rfl))⟩
 f15:=func117.trans (congrArg some (by kernel_rfl))
 f20:=⟨f178.name,by decide,func178.trans (congrArg some (by kernel_rfl))⟩
 f21:=⟨f179.name,by decide,func179.trans (congrArg some (by kernel_rfl))⟩
 f22:=⟨f180.name,by decide,func180.trans (congrArg some (by kernel_rfl))⟩
 f23:=⟨f181.name,by decide,func181.trans (congrArg some (by kernel_rfl))⟩
 f24:=⟨f182.name,by decide,func182.trans (congrArg some (by kernel_rfl))⟩
 f25:=⟨f183.name,by decide,func183.trans (congrArg some (by kernel_rfl))⟩
 f26:=⟨f184.name,by decide,func184.trans (congrArg some (by kernel_rfl))⟩
 f27:=⟨f185.name,by decide,func185.trans (congrArg some (by kernel_rfl))⟩
 f28:=func175.trans (congrArg some (by kernel_rfl))
 f29:=func176.trans (congrArg some (by kernel_rfl))
 f46:=⟨f218.name,by decide,func218.trans (congrArg some (by kernel_rfl))⟩
 f47:=func214.trans (congrArg some (by kernel_rfl))
 f48:=func215.trans (congrArg some (by kernel_rfl))
 f49:=⟨f219.name,by decide,func219.trans (congrArg some (by kernel_rfl))⟩
 f50:=⟨f220.name,by decide,func220.trans (congrArg some (by kernel_rfl))⟩
 f57:=⟨f237.name,by decide,func237.trans (congrArg some (by kernel_rfl))⟩
 t0:=underlying0
 a0:=isAgg0
 z0:=sizeOf0
 v0:=zeroValue0
 t3:=underlying3
 a3:=isAgg3
 z3:=sizeOf3
 v3:=zeroValue3
 t4:=underlying4
 a4:=isAgg4
 z4:=sizeOf4
 v4:=zeroValue4
 t5:=underlying5
 a5:=isAgg5
 z5:=sizeOf5
 v5:=zeroValue5
 t9:=underlying9
 a9:=isAgg9
 z9:=sizeOf9
 v9:=zeroValue9
 t22:=underlying37
 a22:=isAgg37
 z22:=sizeOf37
 v22:=zeroValue37
 a24:=isAgg9
 z24:=sizeOf9
 t25:=underlying118
 a25:=isAgg118
 z25:=sizeOf118
 v25:=zeroValue118
 t39:=underlying160
 a39:=isAgg160
 z39:=sizeOf160
 v39:=zeroValue160
 t45:=underlying179
 a45:=isAgg179
 z45:=sizeOf179
 v45:=zeroValue179
 t46:=underlying180
 a46:=isAgg180
 z46:=sizeOf180
 v46:=zeroValue180
 t50:=underlying185
 a50:=isAgg185
 z50:=sizeOf185
 v50:=zeroValue185
 t53:=underlying188
 a53:=isAgg188
 z53:=sizeOf188
 v53:=zeroValue188
 t55:=underlying190
 a55:=isAgg190
 z55:=sizeOf190
 v55:=zeroValue190
 t66:=underlying217
 a66:=isAgg217
 z66:=sizeOf217
 v66:=zeroValue217
 t70:=underlying221
 a70:=isAgg221
 z70:=sizeOf221
 v70:=zeroValue221
 t76:=underlying249
 a76:=isAgg249
 z76:=sizeOf249
 v76:=zeroValue249
 t77:=underlying250
 a77:=isAgg250
 z77:=sizeOf250
 v77:=zeroValue250 }
open Go.RowKit Go.Lib Go.Sort in
theorem Tryz.slices_SortFunc {α:Type} [Inhabited α] (enc:α→Value) (h1:OneCell enc) (cf:α→α→Int) (hO:SWO (ltOf cf)) (g:Nat) (cb:Array Value) (blk off cap:Nat) (d:Array α) (w:World) (eg:∀ args w,(callFunc g args).run Tryz.prog w=.ok (.enter g args) w) (hcmp:CmpLays1 Tryz.prog g cb enc cf blk off d.size w) (hH:Holds enc w blk off d) (hblk:blk < w.heap.size) (hsz:d.size < 4611686018427387904):
 Calls Tryz.prog 72 #[.slice (some ⟨blk,off,none⟩) d.size cap,.func (.func g) #[] cb] w fun e w'=>
  e=.returned (.tuple #[])∧∃ d' n os,PermIn 0 d.size d d'∧SortedIn (ltOf cf) 0 d.size d'∧w'=sortWorld enc w blk off n d' os:=Any.slices_SortFunc Tryz.laysSlF6_f72 enc h1 cf hO g cb blk off cap d w eg hcmp hH hblk hsz
def Tryz.laysSlF06_f72_ren:Go.Shelf.Ren:=⟨fun | 6=>72 | 15=>117 | 14=>120 | 28=>175 | 29=>176 | 20=>178 | 21=>179 | 22=>180 | 23=>181 | 24=>182 | 25=>183 | 26=>184 | 27=>185 | 46=>218 | 47=>214 | 48=>215 | 49=>219 | 50=>220 | 57=>237 | n=>n,fun | 22=>37 | 24=>9 | 25=>118 | 3=>3 | 39=>160 | 0=>0 | 53=>188 | 55=>190 | 4=>4 | 46=>180 | 45=>179 | 50=>185 | 5=>5 | 9=>9 | 66=>217 | 70=>221 | 76=>249 | 77=>250 | n=>n,fun | n=>n⟩
theorem Tryz.laysSlF06_f72:Go.Proofs.SlLaysF0.n6 Tryz.prog Tryz.laysSlF06_f72_ren:={
 mixed:=by kernel_rfl
 f6:=⟨f72.name,by decide,func72.trans (congrArg some (by kernel_rfl))⟩
 f14:=⟨f120.name,by decide,func120.trans (congrArg some (by kernel_rfl))⟩
 f15:=func117.trans (congrArg some (by kernel_rfl))
 f20:=⟨f178.name,by decide,func178.trans (congrArg some (by kernel_rfl))⟩
 f21:=⟨f179.name,by decide,func179.trans (congrArg some (by kernel_rfl))⟩
 f22:=⟨f180.name,by decide,func180.trans (congrArg some (by kernel_rfl))⟩
 f23:=⟨f181.name,by decide,func181.trans (congrArg some (by kernel_rfl))⟩
 f24:=⟨f182.name,by decide,func182.trans (congrArg some (by kernel_rfl))⟩
 f25:=⟨f183.name,by decide,func183.trans (congrArg some (by kernel_rfl))⟩
 f26:=⟨f184.name,by decide,func184.trans (congrArg some (by kernel_rfl))⟩
 f27:=⟨f185.name,by decide,func185.trans (congrArg some (by kernel_rfl))⟩
 f28:=func175.trans (congrArg some (by kernel_rfl))
 f29:=func176.trans (congrArg some (by kernel_rfl))
 f46:=⟨f218.name,by decide,func218.trans (congrArg some (by kernel_rfl))⟩
 f47:=func214.trans (congrArg some (by kernel_rfl))
 f48:=func215.trans (congrArg some (by kernel_rfl))
 f49:=⟨f219.name,by decide,func219.trans (congrArg some (by kernel_rfl))⟩
 f50:=⟨f220.name,by decide,func220.trans (congrArg some (by kernel_rfl))⟩
 f57:=⟨f237.name,by decide,func237.trans (congrArg some (by kernel_rfl))⟩
 t0:=underlying0
 a0:=isAgg0
 z0:=sizeOf0
 v0:=zeroValue0
 t3:=underlying3
 a3:=isAgg3
 z3:=sizeOf3
 v3:=zeroValue3
 t4:=underlying4
 a4:=isAgg4
 z4:=sizeOf4
 v4:=zeroValue4
 t5:=underlying5
 a5:=isAgg5
 z5:=sizeOf5
 v5:=zeroValue5
 t9:=underlying9
 a9:=isAgg9
 z9:=sizeOf9
 v9:=zeroValue9
 t22:=underlying37
 a22:=isAgg37
 z22:=sizeOf37
 v22:=zeroValue37
 t25:=underlying118
 a25:=isAgg118
 z25:=sizeOf118
 v25:=zeroValue118
 t39:=underlying160
 a39:=isAgg160
 z39:=sizeOf160
 v39:=zeroValue160
 t45:=underlying179
 a45:=isAgg179
 z45:=sizeOf179
 v45:=zeroValue179
 t46:=underlying180
 a46:=isAgg180
 z46:=sizeOf180
 v46:=zeroValue180
 t50:=underlying185
 a50:=isAgg185
 z50:=sizeOf185
 v50:=zeroValue185
 t53:=underlying188
 a53:=isAgg188
 z53:=sizeOf188
 v53:=zeroValue188
 t55:=underlying190
 a55:=isAgg190
 z55:=sizeOf190
 v55:=zeroValue190
 t66:=underlying217
 a66:=isAgg217
 z66:=sizeOf217
 v66:=zeroValue217
 t70:=underlying221
 a70:=isAgg221
 z70:=sizeOf221
 v70:=zeroValue221
 t76:=underlying249
 a76:=isAgg249
 z76:=sizeOf249
 v76:=zeroValue249
 t77:=underlying250
 a77:=isAgg250
 z77:=sizeOf250
 v77:=zeroValue250 }
open Go.RowKit Go.Lib Go.Sort in
theorem Tryz.slices_SortFunc_none {α:Type} [Inhabited α] (p:Option Addr) (cap:Nat) (fv:Value) (w:World):
 Calls Tryz.prog 72 #[.slice p 0 cap,fv] w fun e w'=>e=.returned (.tuple #[])∧w'=w:=AnyF.slices_SortFunc_none Tryz.laysSlF06_f72 p cap fv w
end Go.Proofs
namespace Go.Proofs
open Go.Proofs.Tryz
open Go.Shelf
def Tryz.laysSlE041_f152_ren:Go.Shelf.Ren:=⟨fun | 41=>152 | n=>n,fun | 22=>22 | 23=>71 | 4=>4 | n=>n,fun | n=>n⟩
theorem Tryz.laysSlE041_f152:Go.Proofs.SlLaysE0.n41 Tryz.prog Tryz.laysSlE041_f152_ren:={
 mixed:=by kernel_rfl
 f41:=⟨f152.name,by decide,func152.trans (congrArg some (by kernel_rfl))⟩
 t4:=underlying4
 a4:=isAgg4
 z4:=sizeOf4
 v4:=zeroValue4
 t22:=underlying22
 a22:=isAgg22
 z22:=sizeOf22
 v22:=zeroValue22 }
def Tryz.laysSlE041_f153_ren:Go.Shelf.Ren:=⟨fun | 41=>153 | n=>n,fun | 22=>23 | 23=>76 | 4=>4 | n=>n,fun | n=>n⟩
theorem Tryz.laysSlE041_f153:Go.Proofs.SlLaysE0.n41 Tryz.prog Tryz.laysSlE041_f153_ren:={
 mixed:=by kernel_rfl
 f41:=⟨f153.name,by decide,func153.trans (congrArg some (by kernel_rfl))⟩
 t4:=underlying4
 a4:=isAgg4
 z4:=sizeOf4
 v4:=zeroValue4
 t22:=underlying23
 a22:=isAgg23
 z22:=sizeOf23
 v22:=zeroValue23 }
def Tryz.laysSlE041_f156_ren:Go.Shelf.Ren:=⟨fun | 41=>156 | n=>n,fun | 22=>25 | 23=>39 | 4=>4 | n=>n,fun | n=>n⟩
theorem Tryz.laysSlE041_f156:Go.Proofs.SlLaysE0.n41 Tryz.prog Tryz.laysSlE041_f156_ren:={
 mixed:=by kernel_rfl
 f41:=⟨f156.name,by decide,func156.trans (congrArg some (by kernel_rfl))⟩
 t4:=underlying4
 a4:=isAgg4
 z4:=sizeOf4
 v4:=zeroValue4
 t22:=underlying25
 a22:=isAgg25
 z22:=sizeOf25
 v22:=zeroValue25 }
def Tryz.laysSlE041_f160_ren:Go.Shelf.Ren:=⟨fun | 41=>160 | n=>n,fun | 22=>24 | 23=>78 | 4=>4 | n=>n,fun | n=>n⟩
theorem Tryz.laysSlE041_f160:Go.Proofs.SlLaysE0.n41 Tryz.prog Tryz.laysSlE041_f160_ren:={
 mixed:=by kernel_rfl
 f41:=⟨f160.name,by decide,func160.trans (congrArg some (by kernel_rfl))⟩
 t4:=underlying4
 a4:=isAgg4
 z4:=sizeOf4
 v4:=zeroValue4
 t22:=underlying24
 a22:=isAgg24
 z22:=sizeOf24
 v22:=zeroValue24 }
def Tryz.laysSlE041_f163_ren:Go.Shelf.Ren:=⟨fun | 41=>163 | n=>n,fun | 22=>26 | 23=>68 | 4=>4 | n=>n,fun | n=>n⟩
theorem Tryz.laysSlE041_f163:Go.Proofs.SlLaysE0.n41 Tryz.prog Tryz.laysSlE041_f163_ren:={
 mixed:=by kernel_rfl
 f41:=⟨f163.name,by decide,func163.trans (congrArg some (by kernel_rfl))⟩
 t4:=underlying4
 a4:=isAgg4
 z4:=sizeOf4
 v4:=zeroValue4
 t22:=underlying26
 a22:=isAgg26
 z22:=sizeOf26
 v22:=zeroValue26 }
def Tryz.laysSlF06_f75_ren:Go.Shelf.Ren:=⟨fun | 6=>75 | 15=>117 | 14=>122 | 28=>175 | 29=>176 | 20=>186 | 21=>187 | 22=>188 | 23=>189 | 24=>190 | 25=>191 | 26=>192 | 27=>193 | 46=>221 | 47=>214 | 48=>215 | 49=>222 | 50=>223 | 57=>238 | n=>n,fun | 22=>40 | 24=>48 | 25=>120 | 3=>3 | 39=>160 | 0=>0 | 53=>188 | 55=>190 | 4=>4 | 46=>180 | 45=>179 | 50=>185 | 5=>5 | 9=>9 | 66=>217 | 70=>221 | 76=>249 | 77=>250 | n=>n,fun | n=>n⟩
theorem Tryz.laysSlF06_f75:Go.Proofs.SlLaysF0.n6 Tryz.prog Tryz.laysSlF06_f75_ren:={
 mixed:=by kernel_rfl
 f6:=⟨f75.name,by decide,func75.trans (congrArg some (by kernel_rfl))⟩
 f14:=⟨f122.name,by decide,func122.trans (congrArg some (by kernel_rfl))⟩
 f15:=func117.trans (congrArg some (by kernel_rfl))
 f20:=⟨f186.name,by decide,func186.trans (congrArg some (by kernel_rfl))⟩
 f21:=⟨f187.name,by decide,func187.trans (congrArg some (by kernel_rfl))⟩
 f22:=⟨f188.name,by decide,func188.trans (congrArg some (by kernel_rfl))⟩
 f23:=⟨f189.name,by decide,func189.trans (congrArg some (by kernel_rfl))⟩
 f24:=⟨f190.name,by decide,func190.trans (congrArg some (by kernel_rfl))⟩
 f25:=⟨f191.name,by decide,func191.trans (congrArg some (by kernel_rfl))⟩
 f26:=⟨f192.name,by decide,func192.trans (congrArg some (by kernel_rfl))⟩
 f27:=⟨f193.name,by decide,func193.trans (congrArg some (by kernel_rfl))⟩
 f28:=func175.trans (congrArg some (by kernel_rfl))
 f29:=func176.trans (congrArg some (by kernel_rfl))
 f46:=⟨f221.name,by decide,func221.trans (congrArg some (by kernel_rfl))⟩
 f47:=func214.trans (congrArg some (by kernel_rfl))
 f48:=func215.trans (congrArg some (by kernel_rfl))
 f49:=⟨f222.name,by decide,func222.trans (congrArg some (by kernel_rfl))⟩
 f50:=⟨f223.name,by decide,func223.trans (congrArg some (by kernel_rfl))⟩
 f57:=⟨f238.name,by decide,func238.trans (congrArg some (by kernel_rfl))⟩
 t0:=underlying0
 a0:=isAgg0
 z0:=sizeOf0
 v0:=zeroValue0
 t3:=underlying3
 a3:=isAgg3
 z3:=sizeOf3
 v3:=zeroValue3
 t4:=underlying4
 a4:=isAgg4
 z4:=sizeOf4
 v4:=zeroValue4
 t5:=underlying5
 a5:=isAgg5
 z5:=sizeOf5
 v5:=zeroValue5
 t9:=underlying9
 a9:=isAgg9
 z9:=sizeOf9
 v9:=zeroValue9
 t22:=underlying40
 a22:=isAgg40
 z22:=sizeOf40
 v22:=zeroValue40
 t25:=underlying120
 a25:=isAgg120
 z25:=sizeOf120
 v25:=zeroValue120
 t39:=underlying160
 a39:=isAgg160
 z39:=sizeOf160
 v39:=zeroValue160
 t45:=underlying179
 a45:=isAgg179
 z45:=sizeOf179
 v45:=zeroValue179
 t46:=underlying180
 a46:=isAgg180
 z46:=sizeOf180
 v46:=zeroValue180
 t50:=underlying185
 a50:=isAgg185
 z50:=sizeOf185
 v50:=zeroValue185
 t53:=underlying188
 a53:=isAgg188
 z53:=sizeOf188
 v53:=zeroValue188
 t55:=underlying190
 a55:=isAgg190
 z55:=sizeOf190
 v55:=zeroValue190
 t66:=underlying217
 a66:=isAgg217
 z66:=sizeOf217
 v66:=zeroValue217
 t70:=underlying221
 a70:=isAgg221
 z70:=sizeOf221
 v70:=zeroValue221
 t76:=underlying249
 a76:=isAgg249
 z76:=sizeOf249
 v76:=zeroValue249
 t77:=underlying250
 a77:=isAgg250
 z77:=sizeOf250
 v77:=zeroValue250 }
open Go.RowKit Go.Lib Go.Sort in
theorem Tryz.slices_SortFuncE {α:Type} [Inhabited α] (k:Nat) (aE:∀ w,(isAgg 48).run Tryz.prog w=.ok true w) (zE:∀ w,(Go.sizeOf 48).run Tryz.prog w=.ok k w) (enc:α→List Value) (hk:∀ x,(enc x).length=k) (h1:∀ x,∀ v∈enc x,v.oneCell'=true) (cf:α→α→Int) (hO:SWO (ltOf cf)) (g:Nat) (cb:Array Value) (blk off cap:Nat) (d:Array α) (w:World) (eg:∀ args w,(callFunc g args).run Tryz.prog w=.ok (.enter g args) w) (hcmp:CmpLays Tryz.prog g cb enc k cf blk off d.size w) (hH:HoldsK enc k w blk off d) (hblk:blk < w.heap.size) (hsz:d.size < 4611686018427387904):
 Calls Tryz.prog 75 #[.slice (some ⟨blk,off,none⟩) d.size cap,.func (.func g) #[] cb] w fun e w'=>
  e=.returned (.tuple #[])∧∃ d' n os,PermIn 0 d.size d d'∧SortedIn (ltOf cf) 0 d.size d'∧w'=sortWorldK enc k w blk off n d' os:=AnyQ.slices_SortFunc Tryz.laysSlF06_f75 k aE zE enc hk h1 cf hO g cb blk off cap d w eg hcmp hH hblk hsz
open Go.RowKit Go.Lib Go.Sort in
theorem Tryz.slices_SortFuncE_none {α:Type} [Inhabited α] (p:Option Addr) (cap:Nat) (fv:Value) (w:World):
 Calls Tryz.prog 75 #[.slice p 0 cap,fv] w fun e w'=>e=.returned (.tuple #[])∧w'=w:=AnyF.slices_SortFunc_none Tryz.laysSlF06_f75 p cap fv w
end Go.Proofs
namespace Go.Proofs.YtceijililnjcpaaGreatDoor
open Go.Proofs.Tryz
open Go.AM
theorem JN {P:Go.Program} {e:Go.TypeId} {sz bytes:Nat} (h:(match P.info? e with | some i=>(match i.zero with | some z=>z.cells.size==sz&&(i.size==sz&&i.bytes==bytes) | none=>false) | none=>false)=true):
 ∃ i0 z,P.info? e=some i0∧i0.zero=some z∧i0.size=sz∧i0.bytes=bytes∧z.cells.size=sz:=by
 split at h
 ·rename_i i hi;split at h
  ·rename_i z hz;simp only [Bool.and_eq_true,beq_iff_eq] at h;exact ⟨i,z,hi,hz,h.2.1,h.2.2,h.1⟩
  ·cases h
 ·cases h
theorem ZIp:Qn Tryz.prog rE 68 J7:=EV (Go.Proofs.enters_of func68 (by kernel_rfl) rfl) (fun blk off cap ss w hH hb hs=>Go.Proofs.Tryz.slices_Sort_string blk off cap ss w hH hb hs) (fun p cap w=>Go.Proofs.Tryz.slices_Sort_string_none p cap w)
theorem ZIq:Qn Tryz.prog rE 69 J8:=EY (Go.Proofs.enters_of func69 (by kernel_rfl) rfl) (fun blk off cap zs w hH h1 h2=>Go.Proofs.Tryz.slices_Compact_string blk off cap zs w hH h1 h2) (fun p cap w=>Go.Proofs.Tryz.slices_Compact_string_empty p cap w)
theorem ZIr:Qn Tryz.prog rE 242 U9:=EK (Go.Proofs.enters_of func242 (by kernel_rfl) rfl) (fun s c w=>Go.Proofs.Tryz.strings_IndexByte s c w)
theorem ZIs:Qn Tryz.prog rE 152 (YL 6):=by
 obtain ⟨i0,z,a1,a2,a3,a4,a5⟩:=JN (P:=Tryz.prog) (e:=Go.Proofs.Tryz.laysSlE041_f152_ren.t 23) (sz:=6) (bytes:=88) (by kernel_rfl)
 exact Ud (bytes:=88) (by decide) (by decide) (Go.Proofs.enters_of func152 (by kernel_rfl) rfl) (fun b off n c news w h1 h2 h3 h4 h5=>Go.Proofs.AnyE.slices_Clone Go.Proofs.Tryz.laysSlE041_f152 i0 z 6 88 a1 a2 a3 a4 a5 (by decide) (fun w=>by kernel_rfl) b off n c news w h1 h2 h3 h4 h5)
theorem ZIt:Qn Tryz.prog rE 153 (YL 5):=by
 obtain ⟨i0,z,a1,a2,a3,a4,a5⟩:=JN (P:=Tryz.prog) (e:=Go.Proofs.Tryz.laysSlE041_f153_ren.t 23) (sz:=5) (bytes:=80) (by kernel_rfl)
 exact Ud (bytes:=80) (by decide) (by decide) (Go.Proofs.enters_of func153 (by kernel_rfl) rfl) (fun b off n c news w h1 h2 h3 h4 h5=>Go.Proofs.AnyE.slices_Clone Go.Proofs.Tryz.laysSlE041_f153 i0 z 5 80 a1 a2 a3 a4 a5 (by decide) (fun w=>by kernel_rfl) b off n c news w h1 h2 h3 h4 h5)
theorem ZIu:Qn Tryz.prog rE 156 (YL 16):=by
 obtain ⟨i0,z,a1,a2,a3,a4,a5⟩:=JN (P:=Tryz.prog) (e:=Go.Proofs.Tryz.laysSlE041_f156_ren.t 23) (sz:=16) (bytes:=184) (by kernel_rfl)
 exact Ud (bytes:=184) (by decide) (by decide) (Go.Proofs.enters_of func156 (by kernel_rfl) rfl) (fun b off n c news w h1 h2 h3 h4 h5=>Go.Proofs.AnyE.slices_Clone Go.Proofs.Tryz.laysSlE041_f156 i0 z 16 184 a1 a2 a3 a4 a5 (by decide) (fun w=>by kernel_rfl) b off n c news w h1 h2 h3 h4 h5)
theorem ZIv:Qn Tryz.prog rE 160 (YL 4):=by
 obtain ⟨i0,z,a1,a2,a3,a4,a5⟩:=JN (P:=Tryz.prog) (e:=Go.Proofs.Tryz.laysSlE041_f160_ren.t 23) (sz:=4) (bytes:=56) (by kernel_rfl)
 exact Ud (bytes:=56) (by decide) (by decide) (Go.Proofs.enters_of func160 (by kernel_rfl) rfl) (fun b off n c news w h1 h2 h3 h4 h5=>Go.Proofs.AnyE.slices_Clone Go.Proofs.Tryz.laysSlE041_f160 i0 z 4 56 a1 a2 a3 a4 a5 (by decide) (fun w=>by kernel_rfl) b off n c news w h1 h2 h3 h4 h5)
theorem Z7b:Qn Tryz.prog rE 163 (YL 6):=by
 obtain ⟨i0,z,a1,a2,a3,a4,a5⟩:=JN (P:=Tryz.prog) (e:=Go.Proofs.Tryz.laysSlE041_f163_ren.t 23) (sz:=6) (bytes:=72) (by kernel_rfl)
 exact Ud (bytes:=72) (by decide) (by decide) (Go.Proofs.enters_of func163 (by kernel_rfl) rfl) (fun b off n c news w h1 h2 h3 h4 h5=>Go.Proofs.AnyE.slices_Clone Go.Proofs.Tryz.laysSlE041_f163 i0 z 6 72 a1 a2 a3 a4 a5 (by decide) (fun w=>by kernel_rfl) b off n c news w h1 h2 h3 h4 h5)
theorem ZIw:Qn Tryz.prog rE 67 J9:=by
 obtain ⟨i0,z,a1,a2,a3,a4,a5⟩:=JN (P:=Tryz.prog) (e:=9) (sz:=1) (bytes:=16) (by kernel_rfl)
 exact EZ (el:=9) (Go.Proofs.enters_of func67 (by kernel_rfl) rfl) (fun b off n c news w h1 h2 h3 h4 h5=>Go.Proofs.Tryz.slices_Clone i0 z 1 16 a1 a2 a3 a4 a5 (by decide) (fun w=>by kernel_rfl) b off n c news w h1 h2 h3 h4 h5)
  (fun n c w=>Go.Proofs.Tryz.slices_Clone_string_nil n c w) (fun a c w=>Go.Proofs.Tryz.slices_Clone_string_zero a c w)
theorem ZIx:Qn Tryz.prog rE 231 Ja:=I2 (el:=9) (Go.Proofs.enters_of func231 (by kernel_rfl) rfl) (fun s x w hs=>Go.Proofs.Z9R Go.Proofs.Tryz.lays146 (by kernel_rfl) s x w hs)
theorem ZIy:Qn Tryz.prog rE 243 J5:=EM (Go.Proofs.enters_of func243 (by kernel_rfl) rfl) (fun s n w h1 h2=>(Go.Proofs.Tryz.strconv_Atoi s n h1 h2 w).mono (by
 rintro e w' ⟨rfl,t,rfl⟩;exact ⟨rfl,Go.Lib.bytesWorld_below w _ t⟩))
theorem ZIz:Qn Tryz.prog rE 244 J6:=EN (Go.Proofs.enters_of func244 (by kernel_rfl) rfl) (fun s c w hs h2 ha=>Go.Proofs.Z9S Go.Proofs.Tryz.lays153 (by kernel_rfl) (by kernel_rfl) s c w hs h2 ha)
theorem ZCa:OkL Tryz.prog Zz9:=ZCg _ (by kernel_rfl)
theorem ZIA:OkL Tryz.prog ZGv:=ZCg _ (by kernel_rfl)
theorem ZCb (f:Nat) (q:AFun) (h:Zza f=some q):Z0 Tryz.prog f q:=ZjX ZCa h
theorem ZIB (f:Nat) (q:AFun) (h:ZGw f=some q):Z0 Tryz.prog f q:=ZjX ZIA h
theorem ZCc:@EnvOk dT Tryz.prog e0:=@EnvOk.mk dT Tryz.prog e0 (fun _=>rfl) (fun f q h=>ZCb f q h) (fun f s h=>by cases h) (fun f s h=>by cases h)
theorem lfS {P:Go.Program} {E:Env} {f k:Nat} {a q:List AV→Hp→Option (AV×Hp)} {r:Option (List AV→Hp→Option (AV×Hp))} (h:(bif Nat.beq f k then some a else r)=some q) (g:Qn P E k a) (e:r=some q→Qn P E f q):Qn P E f q:=by
 cases hb:Nat.beq f k with
 | true=>
  rw [hb] at h;obtain rfl:a=q:=Option.some.inj h;rw [Nat.eq_of_beq_eq_true hb];exact g
 | false=>
  rw [hb] at h;exact e h
theorem nnS {f:Nat} {q:List AV→Hp→Option (AV×Hp)} {P:Go.Program} {E:Env} (h:(none:Option (List AV→Hp→Option (AV×Hp)))=some q):Qn P E f q:=by cases h
theorem ZIC:Qn Tryz.prog e1 72 (ZEt 73 (ckS 37)):=ZGL ZCc (fun _=>rfl) rfl (Go.Proofs.enters_of func72 (by kernel_rfl) rfl) ZGN
 (fun enc h1 cf hO cb blk off cap d w hcmp hH hblk hsz=>Go.Proofs.Tryz.slices_SortFunc enc h1 cf hO 73 cb blk off cap d w (Go.Proofs.enters_of func73 (by kernel_rfl) rfl) hcmp hH hblk hsz)
 (fun p cap fv w=>Go.Proofs.Tryz.slices_SortFunc_none (α:=Nat) p cap fv w)
theorem ZID:Qn Tryz.prog e1 75 (ZvW 76 3 ZEm):=ZzO (by decide) ZCc (fun _=>rfl) rfl (Go.Proofs.enters_of func75 (by kernel_rfl) rfl) ZGP
 (fun enc hk h1 cf hO cb blk off cap d w hcmp hH hblk hsz=>Go.Proofs.Tryz.slices_SortFuncE 3 (fun w=>by kernel_rfl) (fun w=>by kernel_rfl) enc hk h1 cf hO 76 cb blk off cap d w (Go.Proofs.enters_of func76 (by kernel_rfl) rfl) hcmp hH hblk hsz)
 (fun p cap fv w=>Go.Proofs.Tryz.slices_SortFuncE_none (α:=Nat) p cap fv w)
theorem ZIE (f:Nat) (s:List AV→Hp→Option (AV×Hp)) (h:e1.sum f=some s):Qn Tryz.prog e1 f s:=by
 change ZFE f=some s at h;unfold ZFE at h;exact lfS h ZIC fun h=>lfS h ZID nnS
theorem ZGs:EnvOk Tryz.prog e1:=⟨fun _=>rfl,fun f q h=>ZIB f q h,ZIE,fun f s h=>by cases h⟩
theorem ZGt:ZEs Tryz.prog rE 36 (ZE7 37):=ZFH (E:=rE) (E1:=e1) ZGs (fun _=>rfl) ZGQ
theorem ZGu:ZEs Tryz.prog rE 38 (ZEe 39 3 ZEf):=ZFH (E:=rE) (E1:=e1) ZGs (fun _=>rfl) ZGR
end Go.Proofs.YtceijililnjcpaaGreatDoor
namespace Go.Proofs.YtceijililnjcpaaGreatDoor
open Go.AM
theorem brS {α:Type} {b:Bool} {x y:Option α} {q:α} {G:Prop} (h:(bif b then x else y)=some q) (h1:x=some q→G) (h2:y=some q→G):G:=by
 cases b with
 | true=>exact h1 h
 | false=>exact h2 h
theorem ZIF (f:Nat) (s:List AV→Hp→Option (AV×Hp)) (h:N8 f=some s):Qn Tryz.prog rE f s:=by
 unfold N8 at h;exact (brS h (fun h=>(brS h (fun h=>(brS h (fun h=>(lfS h ZIw nnS)) (fun h=>(brS h (fun h=>(lfS h ZIp nnS)) (fun h=>(lfS h ZIq nnS)))))) (fun h=>(brS h (fun h=>(lfS h ZIs nnS)) (fun h=>(brS h (fun h=>(lfS h ZIt nnS)) (fun h=>(lfS h ZIu nnS)))))))) (fun h=>(brS h (fun h=>(brS h (fun h=>(lfS h ZIv nnS)) (fun h=>(brS h (fun h=>(lfS h Z7b nnS)) (fun h=>(lfS h ZIx nnS)))))) (fun h=>(brS h (fun h=>(lfS h ZIr nnS)) (fun h=>(brS h (fun h=>(lfS h ZIy nnS)) (fun h=>(lfS h ZIz nnS)))))))))
theorem Cd (f:Nat) (s:List AV→Hp→Option (AV×Hp)) (h:rE.sum f=some s):Qn Tryz.prog rE f s:=by
 change ZF0 f=some s at h;unfold ZF0 at h;exact lfS h (ZFI ZGt) fun h=>lfS h (ZFI ZGu) fun h=>ZIF f s h
theorem ZIG (f:Nat) (s:List AV→Nat→List AV→Option (List AV)) (h:rE.rs f=some s):ZEs Tryz.prog rE f s:=by
 change ZF1 f=some s at h;unfold ZF1 at h;cases hb:Nat.beq f 36 with
 | true=>
  rw [hb] at h;obtain rfl:=Option.some.inj h;rw [Nat.eq_of_beq_eq_true hb];exact ZGt
 | false=>
  rw [hb] at h;cases hc:Nat.beq f 38 with
  | true=>
   rw [hc] at h;obtain rfl:=Option.some.inj h;rw [Nat.eq_of_beq_eq_true hc];exact ZGu
  | false=>rw [hc] at h;cases h
theorem Z9o:EnvOk Tryz.prog rE:=⟨fun _=>rfl,fun f q h=>Z98 f q h,Cd,ZIG⟩
theorem Z9l (W:Go.World):GlR rE T0 (X0 Tryz.prog) W:=fun g=>trivial
theorem ZDT:sig Tryz.prog 10 Tryz.f6.params.toList=some ZDj:=by kernel_rfl
theorem lineageEvents_card:Rows.LineageEventsCardSaid:=Zf4 Z9o Z9l (n:=10) (S:=ZDj) rfl ZDT Zf5
end Go.Proofs.YtceijililnjcpaaGreatDoor
