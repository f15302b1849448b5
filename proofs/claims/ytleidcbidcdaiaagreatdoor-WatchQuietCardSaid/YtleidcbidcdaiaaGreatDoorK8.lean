/- WatchQuiet holds for all its arguments. No condition. -/
import Derived.Test.YtleidcbidcdaiaaGreatDoorT8
import Derived.Test.YtleidcbidcdaiaaGreatDoorQ5
import Derived.Test.YtleidcbidcdaiaaGreatDoorP8c
import Derived.Test.YtleidcbidcdaiaaGreatDoorR8
import Derived.Shelf.Small.Utf8
import Derived.Shelf.Small.Bits
import Derived.Shelf.Small.Strs
import Derived.Shelf.Utf8.RuneCount
import Derived.Shelf.Strconv.Atoi
import Derived.Shelf.Strconv.Itoa0
import Derived.Shelf.Strconv.Itoa1
import Derived.Shelf.LaysM
import Derived.Shelf.Strconv.Itoa2
import Derived.Shelf.Strconv.Itoa3
import Derived.Shelf.Strconv.AtoiErrFast
import Derived.Shelf.Strconv.ParseIntEmpty
import Derived.Shelf.Strconv.AtoiFail
import Derived.Shelf.Strconv.Clone
import Derived.Shelf.Strconv.SyntaxError
import Derived.Shelf.LaysC
import Derived.Shelf.Strconv.ToError
import Derived.Shelf.Strconv.AtoiErr
import Derived.Shelf.Strconv.ErrVar
import Derived.Shelf.Strconv.Lower
import Derived.Shelf.Strconv.ParseUint10
import Derived.Shelf.Strconv.ParseUint10Empty
import Derived.Shelf.Strconv.ParseUint10Any
import Derived.Shelf.Strconv.ParseInt10
import Derived.Shelf.Strconv.AtoiLong
import Derived.Shelf.Strconv.AtoiInnerAll
import Derived.Shelf.Strconv.RangeError
import Derived.Shelf.Strconv.ToErrorRange
import Derived.Shelf.Strconv.ParseUintEmpty
import Derived.Shelf.Strconv.ParseUint10b64
import Derived.Shelf.Strconv.ParseUint10b32
import Derived.Shelf.Strconv.ParseUint10b16
import Derived.Shelf.Strconv.ParseUint10b8
import Derived.Shelf.Strconv.ParseUint10At
import Derived.Shelf.Strconv.ParseInt10At64
import Derived.Shelf.Strconv.ParseInt10At32
import Derived.Shelf.Strconv.ParseInt10At16
import Derived.Shelf.Strconv.ParseInt10At8
import Derived.Shelf.Strconv.ParseInt10All
import Derived.Shelf.Strings.Search1
import Derived.Shelf.Strings.Search2
import Derived.Shelf.Strings.Search3
import Derived.Shelf.Strings.Count
import Derived.Shelf.Strings.Shaped
import Derived.Shelf.Sort.Plain
import Derived.Shelf.Strings.Prefix
import Derived.Shelf.Strings.Split
import Derived.Shelf.Strings.SplitShaped
import Derived.Shelf.Unicode.Decode
import Derived.Shelf.Strings.Runes
import Derived.Shelf.Strings.RuneCount
import Derived.Shelf.Strings.IndexAny
import Derived.Shelf.Strings.AsciiSet
import Derived.Shelf.Strings.IndexAnyAll
import Derived.Shelf.Strings.Explode
import Derived.Shelf.Unicode.DecodeSlow
import Derived.Shelf.Unicode.DecodeAny
import Derived.Shelf.Slices.Turned
import Derived.Shelf.Slices.Equal
import Derived.Ground.Names2Prog
import Derived.Shelf.Slices.Clone
import Derived.Shelf.Slices.CompactS
import Derived.Shelf.Slices.Cells
import Derived.Shelf.Slices.In.SortNone
import Derived.Shelf.Slices.Empties2
import Derived.Ground.SlgnProg
import Derived.Shelf.SlicesE.Clone
import Derived.Ground.SlsfProg
import Derived.Shelf.SlSortCmp.Insertion
import Derived.Shelf.SlSortCmp.SiftDown1
import Derived.Shelf.SlSortCmp.HeapSort1
import Derived.Shelf.SlSortCmp.Insertion1
import Derived.Shelf.SlSortCmp.Median1
import Derived.Shelf.SlSortCmp.Pivot1
import Derived.Shelf.SlSortCmp.ReverseRange1
import Derived.Shelf.SlSortCmp.PartialInsertion1
import Derived.Shelf.SlSortCmp.PartitionEqual1
import Derived.Shelf.SlSortCmp.Partition1
import Derived.Shelf.SlSortCmp.Pdq1
import Derived.Shelf.SlSortCmp.Whole1
import Derived.Shelf.SlSortCmp.NoneTotal
import Derived.Shelf.SlSortCmp.WholeK
import Derived.Lib.AtoiErrMem
set_option linter.unusedVariables false
set_option linter.unusedSimpArgs false
set_option linter.unusedSectionVars false
namespace Go.AM
open Go
theorem Mb {α:Type} {f:α→AV}:∀ {l:List AV},(∀ x∈l,∃ y,x=f y)→∃ m:List α,l=m.map f
 | [],_=>⟨[],rfl⟩
 | x::r,h=>by
  obtain ⟨y,rfl⟩:=h x (List.mem_cons_self ..);obtain ⟨m,rfl⟩:=Mb (fun z hz=>h z (List.mem_cons_of_mem _ hz))
  exact ⟨y::m,rfl⟩
theorem YY {s:CSh} {ss:List CSh} {l:List AV}:Wcs (s::ss) l↔∃ a r,l=a::r∧Wc s a∧Wcs ss r:=by rw [Wcs]
theorem Xo {l:List AV}:Wcs [] l↔l=[]:=by rw [Wcs]
theorem ZQ {k:IntKind} {a:AV} (h:Wc (.int k) a):∃ n,a=.int k n:=by rw [Wc] at h;obtain ⟨n,h,_⟩:=h;exact ⟨n,h⟩
theorem Y4 {a:AV} (h:Wc .str a):∃ s:ByteArray,a=.str s:=by rw [Wc] at h;obtain ⟨n,h,_⟩:=h;exact ⟨n,h⟩
theorem YB {α:Type} {f:α→AV} {es:List CSh} {a:AV} (hd:∀ cs,Wcs es cs→∃ y,AV.agg cs=f y) (h:Wc (.sl true es) a):∃ m:List α,a=.isl false false es.length (m.map f):=by
 rw [Wc] at h;obtain ⟨xs,rfl,_,h2⟩:=h;obtain ⟨m,rfl⟩:=Mb (f:=f) (l:=xs) (fun x hx=>by
  obtain ⟨cs,rfl,h3⟩:=(h2 x hx).1 rfl;exact hd cs h3)
 exact ⟨m,rfl⟩
theorem C8 {α:Type} {f:α→AV} {s:CSh} {a:AV} (hd:∀ x,Wc s x→∃ y,x=f y) (h:Wc (.sl false [s]) a):∃ m:List α,a=.isl false false 1 (m.map f):=by
 rw [Wc] at h;obtain ⟨xs,rfl,_,h2⟩:=h;obtain ⟨m,rfl⟩:=Mb (f:=f) (l:=xs) (fun x hx=>by
  have h3:=(h2 x hx).2 rfl;rw [YY] at h3;obtain ⟨a,r,h4,h5,h6⟩:=h3;rw [Xo] at h6;subst h6;cases h4;exact hd x h5)
 exact ⟨m,rfl⟩
abbrev iS:CSh:=.int .i64
abbrev ptS:List CSh:=[iS,iS]
abbrev nmS:List CSh:=[.str,iS,.str]
abbrev enS:List CSh:=[.str,iS,.str,iS,iS,iS,iS]
abbrev rgS:List CSh:=[.str,iS,iS,.sl true ptS,.sl true nmS,iS]
abbrev C9:List CSh:=[.str,iS,.sl true ptS,.sl true nmS,iS]
abbrev buS:List CSh:=[.str,iS,.sl true ptS,iS]
abbrev drS:List CSh:=[.str,.str,.str,iS,iS,.str,iS,iS,iS,iS,iS,iS,.sl false [.str],iS,iS,.str]
abbrev unS:List CSh:=[.str,.str,.str,iS,iS,iS]
abbrev sS:List CSh:=[.sl true rgS,.sl true C9,.sl true buS,.sl true drS,.sl true unS,.sl true ptS,.sl true ptS]
abbrev evS:List CSh:=[iS,iS,iS,iS,iS,.str,.str,.str,.sl false [.str],.sl true nmS,iS,.str,iS,iS,iS,iS,.sl true ptS,.sl true enS]
theorem HQ (cs:List AV) (h:Wcs ptS cs):∃ y:Pt,AV.agg cs=y.enc:=by
 simp only [YY,Xo] at h;obtain ⟨a,_,rfl,h1,b,_,rfl,h2,rfl⟩:=h;obtain ⟨x,rfl⟩:=ZQ h1;obtain ⟨y,rfl⟩:=ZQ h2;exact ⟨⟨x,y⟩,rfl⟩
theorem Ca (cs:List AV) (h:Wcs ptS cs):∃ y:Pair,AV.agg cs=y.enc:=by
 simp only [YY,Xo] at h;obtain ⟨a,_,rfl,h1,b,_,rfl,h2,rfl⟩:=h;obtain ⟨x,rfl⟩:=ZQ h1;obtain ⟨y,rfl⟩:=ZQ h2;exact ⟨⟨x,y⟩,rfl⟩
theorem Mc (cs:List AV) (h:Wcs nmS cs):∃ y:Nm,AV.agg cs=y.enc:=by
 simp only [YY,Xo] at h;obtain ⟨a,_,rfl,h1,b,_,rfl,h2,c,_,rfl,h3,rfl⟩:=h;obtain ⟨x,rfl⟩:=Y4 h1;obtain ⟨y,rfl⟩:=ZQ h2;obtain ⟨z,rfl⟩:=Y4 h3;exact ⟨⟨x,y,z⟩,rfl⟩
theorem Z6e (cs:List AV) (h:Wcs enS cs):∃ y:Ent,AV.agg cs=y.enc:=by
 simp only [YY,Xo] at h;obtain ⟨_,_,rfl,h1,_,_,rfl,h2,_,_,rfl,h3,_,_,rfl,h4,_,_,rfl,h5,_,_,rfl,h6,_,_,rfl,h7,rfl⟩:=h;obtain ⟨a,rfl⟩:=Y4 h1;obtain ⟨b,rfl⟩:=ZQ h2;obtain ⟨c,rfl⟩:=Y4 h3;obtain ⟨d,rfl⟩:=ZQ h4;obtain ⟨e,rfl⟩:=ZQ h5;obtain ⟨f,rfl⟩:=ZQ h6;obtain ⟨g,rfl⟩:=ZQ h7;exact ⟨⟨a,⟨b,c,d,e⟩,⟨f,g⟩⟩,rfl⟩
theorem Cb (x:AV) (h:Wc .str x):∃ y:Str,x=encS y:=Y4 h
theorem Z6f (cs:List AV) (h:Wcs rgS cs):∃ y:Region,AV.agg cs=y.enc:=by
 simp only [YY,Xo] at h;obtain ⟨_,_,rfl,h1,_,_,rfl,h2,_,_,rfl,h3,_,_,rfl,h4,_,_,rfl,h5,_,_,rfl,h6,rfl⟩:=h;obtain ⟨a,rfl⟩:=Y4 h1;obtain ⟨b,rfl⟩:=ZQ h2;obtain ⟨c,rfl⟩:=ZQ h3;obtain ⟨d,rfl⟩:=YB HQ h4;obtain ⟨e,rfl⟩:=YB Mc h5;obtain ⟨f,rfl⟩:=ZQ h6;exact ⟨⟨a,b,c,⟨false,d⟩,⟨false,e⟩,f⟩,rfl⟩
theorem Z6g (cs:List AV) (h:Wcs C9 cs):∃ y:Street,AV.agg cs=y.enc:=by
 simp only [YY,Xo] at h;obtain ⟨_,_,rfl,h1,_,_,rfl,h2,_,_,rfl,h4,_,_,rfl,h5,_,_,rfl,h6,rfl⟩:=h;obtain ⟨a,rfl⟩:=Y4 h1;obtain ⟨b,rfl⟩:=ZQ h2;obtain ⟨d,rfl⟩:=YB HQ h4;obtain ⟨e,rfl⟩:=YB Mc h5;obtain ⟨f,rfl⟩:=ZQ h6;exact ⟨⟨a,b,⟨false,d⟩,⟨false,e⟩,f⟩,rfl⟩
theorem Z6h (cs:List AV) (h:Wcs buS cs):∃ y:Building,AV.agg cs=y.enc:=by
 simp only [YY,Xo] at h;obtain ⟨_,_,rfl,h1,_,_,rfl,h2,_,_,rfl,h4,_,_,rfl,h6,rfl⟩:=h;obtain ⟨a,rfl⟩:=Y4 h1;obtain ⟨b,rfl⟩:=ZQ h2;obtain ⟨d,rfl⟩:=YB HQ h4;obtain ⟨f,rfl⟩:=ZQ h6;exact ⟨⟨a,b,⟨false,d⟩,f⟩,rfl⟩
theorem Z6i (cs:List AV) (h:Wcs unS cs):∃ y:Unit',AV.agg cs=y.enc:=by
 simp only [YY,Xo] at h;obtain ⟨_,_,rfl,h1,_,_,rfl,h2,_,_,rfl,h3,_,_,rfl,h4,_,_,rfl,h5,_,_,rfl,h6,rfl⟩:=h;obtain ⟨a,rfl⟩:=Y4 h1;obtain ⟨b,rfl⟩:=Y4 h2;obtain ⟨c,rfl⟩:=Y4 h3;obtain ⟨d,rfl⟩:=ZQ h4;obtain ⟨e,rfl⟩:=ZQ h5;obtain ⟨f,rfl⟩:=ZQ h6;exact ⟨⟨a,b,c,d,e,f⟩,rfl⟩
theorem Z6j (cs:List AV) (h:Wcs drS cs):∃ y:Door,AV.agg cs=y.enc:=by
 simp only [YY,Xo] at h;obtain ⟨_,_,rfl,h1,_,_,rfl,h2,_,_,rfl,h3,_,_,rfl,h4,_,_,rfl,h5,_,_,rfl,h6,_,_,rfl,h7,_,_,rfl,h8,_,_,rfl,h9,_,_,rfl,h10,_,_,rfl,h11,_,_,rfl,h12,_,_,rfl,h13,_,_,rfl,h14,_,_,rfl,h15,_,_,rfl,h16,rfl⟩:=h;obtain ⟨a1,rfl⟩:=Y4 h1;obtain ⟨a2,rfl⟩:=Y4 h2;obtain ⟨a3,rfl⟩:=Y4 h3;obtain ⟨a4,rfl⟩:=ZQ h4;obtain ⟨a5,rfl⟩:=ZQ h5;obtain ⟨a6,rfl⟩:=Y4 h6;obtain ⟨a7,rfl⟩:=ZQ h7;obtain ⟨a8,rfl⟩:=ZQ h8;obtain ⟨a9,rfl⟩:=ZQ h9;obtain ⟨a10,rfl⟩:=ZQ h10;obtain ⟨a11,rfl⟩:=ZQ h11;obtain ⟨a12,rfl⟩:=ZQ h12;obtain ⟨a13,rfl⟩:=C8 Cb h13;obtain ⟨a14,rfl⟩:=ZQ h14;obtain ⟨a15,rfl⟩:=ZQ h15;obtain ⟨a16,rfl⟩:=Y4 h16;exact ⟨⟨a1,a2,a3,a4,⟨a5,a6,a7,a8⟩,⟨a9,a10⟩,a11,a12,⟨false,a13⟩,a14,a15,a16⟩,rfl⟩
theorem Z6k (cs:List AV) (h:Wcs sS cs):∃ s:Sta,AV.agg cs=stA s:=by
 simp only [YY,Xo] at h;obtain ⟨_,_,rfl,h1,_,_,rfl,h2,_,_,rfl,h3,_,_,rfl,h4,_,_,rfl,h5,_,_,rfl,h6,_,_,rfl,h7,rfl⟩:=h;obtain ⟨a1,rfl⟩:=YB Z6f h1;obtain ⟨a2,rfl⟩:=YB Z6g h2;obtain ⟨a3,rfl⟩:=YB Z6h h3;obtain ⟨a4,rfl⟩:=YB Z6j h4;obtain ⟨a5,rfl⟩:=YB Z6i h5;obtain ⟨a6,rfl⟩:=YB Ca h6;obtain ⟨a7,rfl⟩:=YB Ca h7;exact ⟨⟨a1,a2,a3,a4,a5,a6,a7⟩,rfl⟩
theorem Z6l (cs:List AV) (h:Wcs evS cs):∃ e:Event,AV.agg cs=evA e:=by
 simp only [YY,Xo] at h;obtain ⟨_,_,rfl,h1,_,_,rfl,h2,_,_,rfl,h3,_,_,rfl,h4,_,_,rfl,h5,_,_,rfl,h6,_,_,rfl,h7,_,_,rfl,h8,_,_,rfl,h9,_,_,rfl,h10,_,_,rfl,h11,_,_,rfl,h12,_,_,rfl,h13,_,_,rfl,h14,_,_,rfl,h15,_,_,rfl,h16,_,_,rfl,h17,_,_,rfl,h18,rfl⟩:=h;obtain ⟨a1,rfl⟩:=ZQ h1;obtain ⟨a2,rfl⟩:=ZQ h2;obtain ⟨a3,rfl⟩:=ZQ h3;obtain ⟨a4,rfl⟩:=ZQ h4;obtain ⟨a5,rfl⟩:=ZQ h5;obtain ⟨a6,rfl⟩:=Y4 h6;obtain ⟨a7,rfl⟩:=Y4 h7;obtain ⟨a8,rfl⟩:=Y4 h8;obtain ⟨a9,rfl⟩:=C8 Cb h9;obtain ⟨a10,rfl⟩:=YB Mc h10;obtain ⟨a11,rfl⟩:=ZQ h11;obtain ⟨a12,rfl⟩:=Y4 h12;obtain ⟨a13,rfl⟩:=ZQ h13;obtain ⟨a14,rfl⟩:=ZQ h14;obtain ⟨a15,rfl⟩:=ZQ h15;obtain ⟨a16,rfl⟩:=ZQ h16;obtain ⟨a17,rfl⟩:=YB HQ h17;obtain ⟨a18,rfl⟩:=YB Z6e h18;exact ⟨⟨a1,a2,a3,a4,a5,a6,a7,a8,⟨false,a9⟩,⟨false,a10⟩,⟨a11,a12,a13,a14⟩,⟨a15,a16⟩,⟨false,a17⟩,⟨false,a18⟩⟩,rfl⟩
theorem Zrc {a:AV} (h:Wc (.int .u8) a):∃ d,a=.int .u8 d∧0≤d∧d≤255:=by
 rw [Wc] at h;obtain ⟨d,rfl,hw⟩:=h;have h9:(decide (IntKind.u8.min≤d)&&decide (d≤IntKind.u8.max))=true:=hw;rw [Bool.and_eq_true] at h9;have m1:IntKind.u8.min=0:=by decide
 have m2:IntKind.u8.max=255:=by decide
 have a1:=of_decide_eq_true h9.1;have a2:=of_decide_eq_true h9.2;exact ⟨d,rfl,by omega,by omega⟩
theorem Zq1 {a:AV} (h:Wcs [.int .u8] [a]):∃ d,a=.int .u8 d∧0≤d∧d≤255:=by
 rw [YY] at h;obtain ⟨_,_,e,k,_⟩:=h;cases e;exact Zrc k
theorem ZJs {a:Int} (h:0≤a∧a≤255):∃ n:Nat,a=n∧n < 256:=⟨a.toNat,by omega,by omega⟩
theorem ZMa {a:AV} (h:∃ cs,a=.agg cs∧Wcs sS cs):∃ s:Sta,a=stA s:=by
 obtain ⟨cs,rfl,k⟩:=h;exact Z6k cs k
abbrev ZN0:List (Bool×List CSh):=[(true,sS),(true,evS),(false,[.int .u8])]
theorem ZNi (xs:List AV) (h:Wvs ZN0 xs):∃ (s:Sta) (e:Event) (n:Nat),xs=[stA s,evA e,.int .u8 n]∧n < 256:=by
 obtain ⟨x,_,rfl,h1,_,z,_,rfl,h3,_,u,_,rfl,_,h5,h4⟩:=h;have h4':_=[]:=h4;subst h4';obtain ⟨s,rfl⟩:=ZMa (h1 rfl);obtain ⟨c3,rfl,k5⟩:=h3 rfl;obtain ⟨e,he⟩:=Z6l c3 k5;obtain ⟨r,rfl,hr⟩:=Zq1 (h5 rfl);obtain ⟨n,rfl,hn⟩:=ZJs hr;exact ⟨s,e,n,by rw [he],hn⟩
theorem Z6n (xs:List AV) (h:Wvs ZN0 xs):pfn rE 8 xs=some (.bool true):=by
 obtain ⟨s,e,n,rfl,hn⟩:=ZNi xs h;exact Z5t s e n hn
end Go.AM
namespace Go.Proofs
open Go.Proofs.Tryz
open Go.Shelf
def Tryz.lays137_ren:Go.Shelf.Ren:=⟨fun | 137=>224 | 217=>262 | 266=>286 | n=>n,fun | 9=>9 | 5=>5 | 3=>3 | n=>n,fun | n=>n⟩
theorem Tryz.lays137:Go.Proofs.Lays.n137 Tryz.prog Tryz.lays137_ren:={
 mixed:=by kernel_rfl
 f137:=func224.trans (congrArg some (by kernel_rfl))
 f217:=func262.trans (congrArg some (by kernel_rfl))
 f266:=func286.trans (congrArg some (by kernel_rfl))
 t3:=underlying3
 a3:=isAgg3
 z3:=sizeOf3
 v3:=zeroValue3
 t5:=underlying5
 a5:=isAgg5
 z5:=sizeOf5
 v5:=zeroValue5
 t9:=underlying9
 a9:=isAgg9
 z9:=sizeOf9
 v9:=zeroValue9 }
open Go.RowKit in
theorem Tryz.strings_IndexByte (s:ByteArray) (c:Int) (w:World):
 Calls Tryz.prog 224 #[.string s,.int .u8 c] w fun e w'=>e=.returned (.int .i64 (Lib.indexByte s.data.toList c.toNat.toUInt8))∧w'=w:=Any.strings_IndexByte Tryz.lays137 s c w
def Tryz.lays172_ren:Go.Shelf.Ren:=⟨fun | 172=>225 | 244=>263 | 245=>264 | 247=>287 | 279=>288 | 280=>289 | 281=>290 | 282=>291 | 287=>303 | 316=>304 | 171=>306 | 205=>305 | 321=>311 | 322=>312 | 243=>313 | 246=>316 | 283=>318 | 284=>319 | 285=>320 | 286=>321 | 129=>220 | 317=>322 | 318=>323 | 319=>324 | 320=>325 | 337=>326 | 338=>327 | n=>n,fun | 9=>9 | 3=>3 | 75=>260 | 76=>261 | 4=>4 | 5=>5 | 167=>323 | 37=>324 | 0=>0 | 85=>325 | 2=>2 | 168=>327 | 53=>254 | 175=>336 | 46=>215 | 210=>339 | 127=>345 | 145=>348 | 143=>346 | 21=>21 | 171=>356 | 173=>358 | 212=>361 | 51=>252 | 20=>20 | 213=>362 | 232=>363 | 233=>364 | 80=>365 | n=>n,fun | 15=>1 | 16=>2 | 17=>5 | 18=>6 | 19=>7 | n=>n⟩
theorem Tryz.lays172:Go.Proofs.Lays.n172 Tryz.prog Tryz.lays172_ren:={
 mixed:=by kernel_rfl
 f129:=func220.trans (congrArg some (by kernel_rfl))
 f171:=func306.trans (congrArg some (by kernel_rfl))
 f172:=func225.trans (congrArg some (by kernel_rfl))
 f205:=func305.trans (congrArg some (by kernel_rfl))
 f243:=func313.trans (congrArg some (by kernel_rfl))
 f244:=func263.trans (congrArg some (by kernel_rfl))
 f245:=func264.trans (congrArg some (by kernel_rfl))
 f246:=func316.trans (congrArg some (by kernel_rfl))
 f247:=func287.trans (congrArg some (by kernel_rfl))
 f279:=func288.trans (congrArg some (by kernel_rfl))
 f280:=func289.trans (congrArg some (by kernel_rfl))
 f281:=func290.trans (congrArg some (by kernel_rfl))
 f282:=func291.trans (congrArg some (by kernel_rfl))
 f283:=func318.trans (congrArg some (by kernel_rfl))
 f284:=func319.trans (congrArg some (by kernel_rfl))
 f285:=func320.trans (congrArg some (by kernel_rfl))
 f286:=func321.trans (congrArg some (by kernel_rfl))
 f287:=func303.trans (congrArg some (by kernel_rfl))
 f316:=func304.trans (congrArg some (by kernel_rfl))
 f317:=func322.trans (congrArg some (by kernel_rfl))
 f318:=func323.trans (congrArg some (by kernel_rfl))
 f319:=func324.trans (congrArg some (by kernel_rfl))
 f320:=func325.trans (congrArg some (by kernel_rfl))
 f321:=func311.trans (congrArg some (by kernel_rfl))
 f322:=func312.trans (congrArg some (by kernel_rfl))
 f337:=func326.trans (congrArg some (by kernel_rfl))
 f338:=func327.trans (congrArg some (by kernel_rfl))
 t0:=underlying0
 a0:=isAgg0
 z0:=sizeOf0
 v0:=zeroValue0
 t2:=underlying2
 a2:=isAgg2
 z2:=sizeOf2
 v2:=zeroValue2
 t3:=underlying3
 a3:=isAgg3
 z3:=sizeOf3
 v3:=zeroValue3
 t4:=underlying4
 a4:=isAgg4
 z4:=sizeOf4
 v4:=zeroValue4
 t5:=underlying5
 a5:=isAgg5
 z5:=sizeOf5
 v5:=zeroValue5
 t9:=underlying9
 a9:=isAgg9
 z9:=sizeOf9
 v9:=zeroValue9
 t20:=underlying20
 a20:=isAgg20
 z20:=sizeOf20
 v20:=zeroValue20
 t21:=underlying21
 a21:=isAgg21
 z21:=sizeOf21
 v21:=zeroValue21
 t37:=underlying324
 a37:=isAgg324
 z37:=sizeOf324
 v37:=zeroValue324
 t46:=underlying215
 a46:=isAgg215
 z46:=sizeOf215
 v46:=zeroValue215
 t51:=underlying252
 a51:=isAgg252
 z51:=sizeOf252
 v51:=zeroValue252
 t53:=underlying254
 a53:=isAgg254
 z53:=sizeOf254
 v53:=zeroValue254
 t75:=underlying260
 a75:=isAgg260
 z75:=sizeOf260
 v75:=zeroValue260
 t76:=underlying261
 a76:=isAgg261
 z76:=sizeOf261
 v76:=zeroValue261
 t85:=underlying325
 a85:=isAgg325
 z85:=sizeOf325
 v85:=zeroValue325
 t127:=underlying345
 a127:=isAgg345
 z127:=sizeOf345
 v127:=zeroValue345
 t143:=underlying346
 a143:=isAgg346
 z143:=sizeOf346
 v143:=zeroValue346
 t145:=underlying348
 a145:=isAgg348
 z145:=sizeOf348
 v145:=zeroValue348
 t167:=underlying323
 a167:=isAgg323
 z167:=sizeOf323
 v167:=zeroValue323
 t168:=underlying327
 a168:=isAgg327
 z168:=sizeOf327
 v168:=zeroValue327
 t171:=underlying356
 a171:=isAgg356
 z171:=sizeOf356
 v171:=zeroValue356
 t173:=underlying358
 a173:=isAgg358
 z173:=sizeOf358
 v173:=zeroValue358
 t175:=underlying336
 a175:=isAgg336
 z175:=sizeOf336
 v175:=zeroValue336
 t210:=underlying339
 a210:=isAgg339
 z210:=sizeOf339
 v210:=zeroValue339
 t212:=underlying361
 a212:=isAgg361
 z212:=sizeOf361
 v212:=zeroValue361
 t213:=underlying362
 a213:=isAgg362
 z213:=sizeOf362
 t232:=underlying363
 a232:=isAgg363
 z232:=sizeOf363
 v232:=zeroValue363
 t233:=underlying364
 a233:=isAgg364
 z233:=sizeOf364
 v233:=zeroValue364
 g15:=by kernel_rfl
 g16:=by kernel_rfl
 g17:=by kernel_rfl
 g18:=by kernel_rfl
 g19:=by kernel_rfl }
open Go.RowKit in
theorem Tryz.strconv_Atoi (s:ByteArray) (n:Int) (hl:s.size≤18) (h:Lib.atoi s.data.toList=some n) (w:World):
 Calls Tryz.prog 225 #[.string s] w fun e w'=>e=.returned (.tuple #[.int .i64 n,.nilIface])∧∃ t,w'=Lib.bytesWorld w 5 t:=Any.strconv_Atoi Tryz.lays172 s n hl h w
def Tryz.lays190_ren:Go.Shelf.Ren:=⟨fun | 190=>116 | 125=>177 | 258=>176 | 128=>219 | 129=>220 | 302=>210 | 303=>211 | 304=>212 | 305=>213 | 306=>214 | 307=>215 | 308=>216 | 309=>217 | 310=>218 | 333=>257 | 329=>258 | 330=>259 | 334=>260 | 335=>261 | 336=>182 | 344=>285 | n=>n,fun | 31=>37 | 9=>9 | 3=>3 | 46=>215 | 0=>0 | 51=>252 | 53=>254 | 4=>4 | 183=>244 | 182=>243 | 131=>249 | 5=>5 | 218=>289 | 222=>293 | 228=>320 | 229=>321 | n=>n,fun | n=>n⟩
theorem Tryz.lays190:Go.Proofs.Lays.n190 Tryz.prog Tryz.lays190_ren:={
 mixed:=by kernel_rfl
 f125:=func177.trans (congrArg some (by kernel_rfl))
 f128:=func219.trans (congrArg some (by kernel_rfl))
 f129:=func220.trans (congrArg some (by kernel_rfl))
 f190:=func116.trans (congrArg some (by kernel_rfl))
 f258:=func176.trans (congrArg some (by kernel_rfl))
 f302:=func210.trans (congrArg some (by kernel_rfl))
 f303:=func211.trans (congrArg some (by kernel_rfl))
 f304:=func212.trans (congrArg some (by kernel_rfl))
 f305:=func213.trans (congrArg some (by kernel_rfl))
 f306:=func214.trans (congrArg some (by kernel_rfl))
 f307:=func215.trans (congrArg some (by kernel_rfl))
 f308:=func216.trans (congrArg some (by kernel_rfl))
 f309:=func217.trans (congrArg some (by kernel_rfl))
 f310:=func218.trans (congrArg some (by kernel_rfl))
 f329:=func258.trans (congrArg some (by kernel_rfl))
 f330:=func259.trans (congrArg some (by kernel_rfl))
 f333:=func257.trans (congrArg some (by kernel_rfl))
 f334:=func260.trans (congrArg some (by kernel_rfl))
 f335:=func261.trans (congrArg some (by kernel_rfl))
 f336:=func182.trans (congrArg some (by kernel_rfl))
 f344:=func285.trans (congrArg some (by kernel_rfl))
 t0:=underlying0
 a0:=isAgg0
 z0:=sizeOf0
 v0:=zeroValue0
 t3:=underlying3
 a3:=isAgg3
 z3:=sizeOf3
 v3:=zeroValue3
 t4:=underlying4
 a4:=isAgg4
 z4:=sizeOf4
 v4:=zeroValue4
 t5:=underlying5
 a5:=isAgg5
 z5:=sizeOf5
 v5:=zeroValue5
 t9:=underlying9
 a9:=isAgg9
 z9:=sizeOf9
 v9:=zeroValue9
 t31:=underlying37
 a31:=isAgg37
 z31:=sizeOf37
 v31:=zeroValue37
 t46:=underlying215
 a46:=isAgg215
 z46:=sizeOf215
 v46:=zeroValue215
 t51:=underlying252
 a51:=isAgg252
 z51:=sizeOf252
 v51:=zeroValue252
 t53:=underlying254
 a53:=isAgg254
 z53:=sizeOf254
 v53:=zeroValue254
 t131:=underlying249
 a131:=isAgg249
 z131:=sizeOf249
 v131:=zeroValue249
 t182:=underlying243
 a182:=isAgg243
 z182:=sizeOf243
 v182:=zeroValue243
 t183:=underlying244
 a183:=isAgg244
 z183:=sizeOf244
 v183:=zeroValue244
 t218:=underlying289
 a218:=isAgg289
 z218:=sizeOf289
 v218:=zeroValue289
 t222:=underlying293
 a222:=isAgg293
 z222:=sizeOf293
 v222:=zeroValue293
 t228:=underlying320
 a228:=isAgg320
 z228:=sizeOf320
 v228:=zeroValue320
 t229:=underlying321
 a229:=isAgg321
 z229:=sizeOf321
 v229:=zeroValue321 }
open Go.Sort Go.RowKit in
theorem Tryz.slices_Sort_string (blk off cap:Nat) (ss:List (List UInt8)) (w:World) (hH:Holds encStr w blk off ss.toArray) (hblk:blk < w.heap.size) (hsz:ss.length < 4611686018427387904):
 Calls Tryz.prog 116 #[.slice (some ⟨blk,off,none⟩) ss.length cap] w fun e w'=>
  e=.returned (.tuple #[])∧∃ n os,w'=grow (putRow encStr (Sort.ahead w n) blk off (ss.mergeSort fun x y=>decide (x≤y)).toArray) os:=Any.slices_Sort_string Tryz.lays190 blk off cap ss w hH hblk hsz
def Tryz.lays146_ren:Go.Shelf.Ren:=⟨fun | 146=>248 | 221=>282 | 268=>300 | 138=>301 | 143=>302 | 195=>307 | 197=>308 | 218=>309 | 219=>310 | 260=>314 | 217=>262 | 225=>294 | 224=>293 | 267=>315 | 266=>286 | 314=>317 | n=>n,fun | 9=>9 | 31=>37 | 3=>3 | 4=>4 | 0=>0 | 105=>342 | 21=>21 | 5=>5 | 46=>215 | 119=>350 | 139=>353 | 138=>352 | 146=>354 | 51=>252 | n=>n,fun | 1=>0 | 3=>3 | 4=>4 | n=>n⟩
theorem Tryz.lays146:Go.Proofs.Lays.n146 Tryz.prog Tryz.lays146_ren:={
 mixed:=by kernel_rfl
 f138:=func301.trans (congrArg some (by kernel_rfl))
 f143:=func302.trans (congrArg some (by kernel_rfl))
 f146:=func248.trans (congrArg some (by kernel_rfl))
 f195:=func307.trans (congrArg some (by kernel_rfl))
 f197:=func308.trans (congrArg some (by kernel_rfl))
 f217:=func262.trans (congrArg some (by kernel_rfl))
 f218:=func309.trans (congrArg some (by kernel_rfl))
 f219:=func310.trans (congrArg some (by kernel_rfl))
 f221:=func282.trans (congrArg some (by kernel_rfl))
 f224:=func293.trans (congrArg some (by kernel_rfl))
 f225:=func294.trans (congrArg some (by kernel_rfl))
 f260:=func314.trans (congrArg some (by kernel_rfl))
 f266:=func286.trans (congrArg some (by kernel_rfl))
 f267:=func315.trans (congrArg some (by kernel_rfl))
 f268:=func300.trans (congrArg some (by kernel_rfl))
 f314:=func317.trans (congrArg some (by kernel_rfl))
 t0:=underlying0
 a0:=isAgg0
 z0:=sizeOf0
 v0:=zeroValue0
 t3:=underlying3
 a3:=isAgg3
 z3:=sizeOf3
 v3:=zeroValue3
 t4:=underlying4
 a4:=isAgg4
 z4:=sizeOf4
 v4:=zeroValue4
 t5:=underlying5
 a5:=isAgg5
 z5:=sizeOf5
 v5:=zeroValue5
 t9:=underlying9
 a9:=isAgg9
 z9:=sizeOf9
 v9:=zeroValue9
 t21:=underlying21
 a21:=isAgg21
 z21:=sizeOf21
 v21:=zeroValue21
 t31:=underlying37
 a31:=isAgg37
 z31:=sizeOf37
 v31:=zeroValue37
 t46:=underlying215
 a46:=isAgg215
 z46:=sizeOf215
 v46:=zeroValue215
 t51:=underlying252
 a51:=isAgg252
 z51:=sizeOf252
 v51:=zeroValue252
 t105:=underlying342
 a105:=isAgg342
 z105:=sizeOf342
 v105:=zeroValue342
 t119:=underlying350
 a119:=isAgg350
 z119:=sizeOf350
 t138:=underlying352
 a138:=isAgg352
 z138:=sizeOf352
 v138:=zeroValue352
 t139:=underlying353
 a139:=isAgg353
 z139:=sizeOf353
 v139:=zeroValue353
 t146:=underlying354
 a146:=isAgg354
 z146:=sizeOf354
 v146:=zeroValue354
 g1:=by kernel_rfl
 g3:=by kernel_rfl
 g4:=by kernel_rfl }
def Tryz.lays153_ren:Go.Shelf.Ren:=⟨fun | 153=>226 | 152=>265 | 226=>266 | 227=>267 | 228=>268 | 137=>224 | 119=>292 | 224=>293 | 225=>294 | 217=>262 | 266=>286 | n=>n,fun | 9=>9 | 3=>3 | 4=>4 | 5=>5 | 21=>21 | 117=>299 | 116=>298 | 0=>0 | 46=>215 | 124=>330 | n=>n,fun | n=>n⟩
theorem Tryz.lays153:Go.Proofs.Lays.n153 Tryz.prog Tryz.lays153_ren:={
 mixed:=by kernel_rfl
 f119:=func292.trans (congrArg some (by kernel_rfl))
 f137:=func224.trans (congrArg some (by kernel_rfl))
 f152:=func265.trans (congrArg some (by kernel_rfl))
 f153:=func226.trans (congrArg some (by kernel_rfl))
 f217:=func262.trans (congrArg some (by kernel_rfl))
 f224:=func293.trans (congrArg some (by kernel_rfl))
 f225:=func294.trans (congrArg some (by kernel_rfl))
 f226:=func266.trans (congrArg some (by kernel_rfl))
 f227:=func267.trans (congrArg some (by kernel_rfl))
 f228:=func268.trans (congrArg some (by kernel_rfl))
 f266:=func286.trans (congrArg some (by kernel_rfl))
 t0:=underlying0
 a0:=isAgg0
 z0:=sizeOf0
 v0:=zeroValue0
 t3:=underlying3
 a3:=isAgg3
 z3:=sizeOf3
 v3:=zeroValue3
 t4:=underlying4
 a4:=isAgg4
 z4:=sizeOf4
 v4:=zeroValue4
 t5:=underlying5
 a5:=isAgg5
 z5:=sizeOf5
 v5:=zeroValue5
 t9:=underlying9
 a9:=isAgg9
 z9:=sizeOf9
 v9:=zeroValue9
 t21:=underlying21
 a21:=isAgg21
 z21:=sizeOf21
 v21:=zeroValue21
 t46:=underlying215
 a46:=isAgg215
 z46:=sizeOf215
 v46:=zeroValue215
 t116:=underlying298
 a116:=isAgg298
 z116:=sizeOf298
 t117:=underlying299
 a117:=isAgg299
 z117:=sizeOf299
 v117:=zeroValue299
 t124:=underlying330
 a124:=isAgg330
 z124:=sizeOf330
 v124:=zeroValue330 }
def Tryz.laysNm216_ren:Go.Shelf.Ren:=⟨fun | 16=>115 | n=>n,fun | 24=>37 | 9=>9 | 4=>4 | n=>n,fun | n=>n⟩
theorem Tryz.laysNm216:Go.Proofs.Lays2.n16 Tryz.prog Tryz.laysNm216_ren:={
 mixed:=by kernel_rfl
 f16:=func115.trans (congrArg some (by kernel_rfl))
 t4:=underlying4
 a4:=isAgg4
 z4:=sizeOf4
 v4:=zeroValue4
 t9:=underlying9
 a9:=isAgg9
 z9:=sizeOf9
 v9:=zeroValue9
 t24:=underlying37
 a24:=isAgg37
 z24:=sizeOf37
 v24:=zeroValue37
 i9:=by kernel_rfl }
open Go.RowKit Go.Lib in
theorem Tryz.slices_Clone_string_nil (n c:Nat) (w:World):
 Calls Tryz.prog 115 #[.slice none n c] w fun e w'=>e=.returned (.slice none 0 0)∧w'=w:=Any.slices_Clone_string_nil Tryz.laysNm216 n c w
open Go.RowKit Go.Lib in
theorem Tryz.slices_Clone_string_zero (a:Addr) (c:Nat) (w:World):
 Calls Tryz.prog 115 #[.slice (some a) 0 c] w fun e w'=>∃ v',e=.returned v'∧w'.ownsRow w.heap.size 9 1 v' 0 []∧v'≠.slice none 0 0∧Below w.heap.size w w':=Any.slices_Clone_string_zero Tryz.laysNm216 a c w
def Tryz.lays194_ren:Go.Shelf.Ren:=⟨fun | 194=>117 | n=>n,fun | 31=>37 | 9=>9 | 3=>3 | 4=>4 | 0=>0 | n=>n,fun | n=>n⟩
theorem Tryz.lays194:Go.Proofs.Lays.n194 Tryz.prog Tryz.lays194_ren:={
 mixed:=by kernel_rfl
 f194:=func117.trans (congrArg some (by kernel_rfl))
 t0:=underlying0
 a0:=isAgg0
 z0:=sizeOf0
 v0:=zeroValue0
 t3:=underlying3
 a3:=isAgg3
 z3:=sizeOf3
 v3:=zeroValue3
 t4:=underlying4
 a4:=isAgg4
 z4:=sizeOf4
 v4:=zeroValue4
 t9:=underlying9
 a9:=isAgg9
 z9:=sizeOf9
 v9:=zeroValue9
 t31:=underlying37
 a31:=isAgg37
 z31:=sizeOf37
 v31:=zeroValue37 }
open Go.RowKit Go.Lib Go.Sort in
theorem Tryz.slices_Compact_string (blk off cap:Nat) (zs:List (List UInt8)) (w:World) (hH:Holds encStr w blk off zs.toArray) (hsz:zs.length≤9223372036854775807) (hcap:zs.length≤cap):
 Calls Tryz.prog 117 #[.slice (some ⟨blk,off,none⟩) zs.length cap] w fun e w'=>e=.returned (.slice (some ⟨blk,off,none⟩) (Lib.compact zs).length cap)∧∃ q,w'=putRow encStr (Sort.ahead w q) blk off (Lib.compact zs++List.replicate (zs.length - (Lib.compact zs).length) []).toArray:=Any.slices_Compact_string Tryz.lays194 blk off cap zs w hH hsz hcap
open Go.RowKit Go.Lib Go.Sort in
theorem Tryz.slices_Compact_string_empty (a:Option Addr) (cap:Nat) (w:World):
 Calls Tryz.prog 117 #[.slice a 0 cap] w fun e w'=>e=.returned (.slice a 0 cap)∧w'=w:=Any.slices_Compact_string_empty Tryz.lays194 a cap w
open Go.RowKit Go.Sort in
theorem Tryz.slices_Sort_string_none (p:Option Addr) (cap:Nat) (w:World):
 Calls Tryz.prog 116 #[.slice p 0 cap] w fun e w'=>e=.returned (.tuple #[])∧w'=w:=Any.slices_Sort_string_none Tryz.lays190 p cap w
def Tryz.laysSlE041_f115_ren:Go.Shelf.Ren:=⟨fun | 41=>115 | n=>n,fun | 22=>37 | 23=>9 | 4=>4 | n=>n,fun | n=>n⟩
theorem Tryz.laysSlE041_f115:Go.Proofs.SlLaysE0.n41 Tryz.prog Tryz.laysSlE041_f115_ren:={
 mixed:=by kernel_rfl
 f41:=⟨f115.name,by decide,func115.trans (congrArg some (by kernel_rfl))⟩
 t4:=underlying4
 a4:=isAgg4
 z4:=sizeOf4
 v4:=zeroValue4
 t22:=underlying37
 a22:=isAgg37
 z22:=sizeOf37
 v22:=zeroValue37 }
open Go.RowKit Go.Lib in
theorem Tryz.slices_Clone (i0:TypeInfo) (z:Value) (size bytes:Nat) (hi:Tryz.prog.info? 9=some i0) (hz0:i0.zero=some z) (hz1:i0.size=size) (hz2:i0.bytes=bytes) (hzs:z.cells.size=size) (hsz:0 < size) (z23:∀ w,(Go.sizeOf 9).run Tryz.prog w=.ok size w) (b off n c:Nat) (news:List Value) (w:World) (hl:news.length=n * size) (hn:n≤maxLen) (hbig:n * bytes≤140737488355328) (hc:∀ j u,news[j]? = some u→w.cell? ⟨b,off+j,none⟩=some u) (h1:∀ u∈news,u.oneCell'=true):
 Calls Tryz.prog 115 #[.slice (some ⟨b,off,none⟩) n c] w fun e w'=>∃ v',e=.returned v'∧w'.ownsRow w.heap.size 9 size v' n news∧v'≠.slice none 0 0∧Below w.heap.size w w':=AnyE.slices_Clone Tryz.laysSlE041_f115 i0 z size bytes hi hz0 hz1 hz2 hzs hsz z23 b off n c news w hl hn hbig hc h1
def Tryz.laysSlF6_f122_ren:Go.Shelf.Ren:=⟨fun | 6=>122 | 15=>177 | 14=>181 | 28=>219 | 29=>220 | 20=>228 | 21=>229 | 22=>230 | 23=>231 | 24=>232 | 25=>233 | 26=>234 | 27=>235 | 46=>270 | 47=>258 | 48=>259 | 49=>271 | 50=>272 | 57=>295 | n=>n,fun | 22=>37 | 24=>9 | 25=>184 | 3=>3 | 39=>215 | 0=>0 | 53=>252 | 55=>254 | 4=>4 | 46=>244 | 45=>243 | 50=>249 | 5=>5 | 9=>9 | 66=>289 | 70=>293 | 76=>320 | 77=>321 | n=>n,fun | n=>n⟩
theorem Tryz.laysSlF6_f122:Go.Proofs.SlLaysF.n6 Tryz.prog Tryz.laysSlF6_f122_ren:={
 mixed:=by kernel_rfl
 f6:=⟨f122.name,by decide,func122.trans (congrArg some (by kernel_rfl))⟩
 f14:=⟨f181.name,by decide,func181.trans (congrArg some (by kernel_rfl))⟩
 f15:=func177.trans (congrArg some (by kernel_rfl))
 f20:=⟨f228.name,by decide,func228.trans (congrArg some (by kernel_rfl))⟩
 f21:=⟨f229.name,by decide,func229.trans (congrArg some (by kernel_rfl))⟩
 f22:=⟨f230.name,by decide,func230.trans (congrArg some (by kernel_rfl))⟩
 f23:=⟨f231.name,by decide,func231.trans (congrArg some (by kernel_rfl))⟩
 f24:=⟨f232.name,by decide,func232.trans (congrArg some (by kernel_rfl))⟩
 f25:=⟨f233.name,by decide,func233.trans (congrArg some (by kernel_rfl))⟩
 f26:=⟨f234.name,by decide,func234.trans (congrArg some (by kernel_rfl))⟩
 f27:=⟨f235.name,by decide,func235.trans (congrArg some (by kernel_rfl))⟩
 f28:=func219.trans (congrArg some (by kernel_rfl))
 f29:=func220.trans (congrArg some (by kernel_rfl))
 f46:=⟨f270.name,by decide,func270.trans (congrArg some (by kernel_rfl))⟩
 f47:=func258.trans (congrArg some (by kernel_rfl))
 f48:=func259.trans (congrArg some (by kernel_rfl))
 f49:=⟨f271.name,by decide,func271.trans (congrArg some (by kernel_rfl))⟩
 f50:=⟨f272.name,by decide,func272.trans (congrArg some (by kernel_rfl))⟩
 f57:=⟨f295.name,by decide,func295.trans (congrArg some (by kernel_rfl))⟩
 t0:=underlying0
 a0:=isAgg0
 z0:=sizeOf0
 v0:=zeroValue0
 t3:=underlying3
 a3:=isAgg3
 z3:=sizeOf3
 v3:=zeroValue3
 t4:=underlying4
 a4:=isAgg4
 z4:=sizeOf4
 v4:=zeroValue4
 t5:=underlying5
 a5:=isAgg5
 z5:=sizeOf5
 v5:=zeroValue5
 t9:=underlying9
 a9:=isAgg9
 z9:=sizeOf9
 v9:=zeroValue9
 t22:=underlying37
 a22:=isAgg37
 z22:=sizeOf37
 v22:=zeroValue37
 a24:=isAgg9
 z24:=sizeOf9
 t25:=underlying184
 a25:=isAgg184
 z25:=sizeOf184
 v25:=zeroValue184
 t39:=underlying215
 a39:=isAgg215
 z39:=sizeOf215
 v39:=zeroValue215
 t45:=underlying243
 a45:=isAgg243
 z45:=sizeOf243
 v45:=zeroValue243
 t46:=underlying244
 a46:=isAgg244
 z46:=sizeOf244
 v46:=zeroValue244
 t50:=underlying249
 a50:=isAgg249
 z50:=sizeOf249
 v50:=zeroValue249
 t53:=underlying252
 a53:=isAgg252
 z53:=sizeOf252
 v53:=zeroValue252
 t55:=underlying254
 a55:=isAgg254
 z55:=sizeOf254
 v55:=zeroValue254
 t66:=underlying289
 a66:=isAgg289
 z66:=sizeOf289
 v66:=zeroValue289
 t70:=underlying293
 a70:=isAgg293
 z70:=sizeOf293
 v70:=zeroValue293
 t76:=underlying320
 a76:=isAgg320
 z76:=sizeOf320
 v76:=zeroValue320
 t77:=underlying321
 a77:=isAgg321
 z77:=sizeOf321
 v77:=zeroValue321 }
open Go.RowKit Go.Lib Go.Sort in
theorem Tryz.slices_SortFunc {α:Type} [Inhabited α] (enc:α→Value) (h1:OneCell enc) (cf:α→α→Int) (hO:SWO (ltOf cf)) (g:Nat) (cb:Array Value) (blk off cap:Nat) (d:Array α) (w:World) (eg:∀ args w,(callFunc g args).run Tryz.prog w=.ok (.enter g args) w) (hcmp:CmpLays1 Tryz.prog g cb enc cf blk off d.size w) (hH:Holds enc w blk off d) (hblk:blk < w.heap.size) (hsz:d.size < 4611686018427387904):
 Calls Tryz.prog 122 #[.slice (some ⟨blk,off,none⟩) d.size cap,.func (.func g) #[] cb] w fun e w'=>
  e=.returned (.tuple #[])∧∃ d' n os,PermIn 0 d.size d d'∧SortedIn (ltOf cf) 0 d.size d'∧w'=sortWorld enc w blk off n d' os:=Any.slices_SortFunc Tryz.laysSlF6_f122 enc h1 cf hO g cb blk off cap d w eg hcmp hH hblk hsz
def Tryz.laysSlF06_f122_ren:Go.Shelf.Ren:=⟨fun | 6=>122 | 15=>177 | 14=>181 | 28=>219 | 29=>220 | 20=>228 | 21=>229 | 22=>230 | 23=>231 | 24=>232 | 25=>233 | 26=>234 | 27=>235 | 46=>270 | 47=>258 | 48=>259 | 49=>271 | 50=>272 | 57=>295 | n=>n,fun | 22=>37 | 24=>9 | 25=>184 | 3=>3 | 39=>215 | 0=>0 | 53=>252 | 55=>254 | 4=>4 | 46=>244 | 45=>243 | 50=>249 | 5=>5 | 9=>9 | 66=>289 | 70=>293 | 76=>320 | 77=>321 | n=>n,fun | n=>n⟩
theorem Tryz.laysSlF06_f122:Go.Proofs.SlLaysF0.n6 Tryz.prog Tryz.laysSlF06_f122_ren:={
 mixed:=by kernel_rfl
 f6:=⟨f122.name,by decide,func122.trans (congrArg some (by kernel_rfl))⟩
 f14:=⟨f181.name,by decide,func181.trans (congrArg some (by kernel_rfl))⟩
 f15:=func177.trans (congrArg some (by kernel_rfl))
 f20:=⟨f228.name,by decide,func228.trans (congrArg some (by kernel_rfl))⟩
 f21:=⟨f229.name,by decide,func229.trans (congrArg some (by kernel_rfl))⟩
 f22:=⟨f230.name,by decide,func230.trans (congrArg some (by kernel_rfl))⟩
 f23:=⟨f231.name,by decide,func231.trans (congrArg some (by kernel_rfl))⟩
 f24:=⟨f232.name,by decide,func232.trans (congrArg some (by kernel_rfl))⟩
 f25:=⟨f233.name,by decide,func233.trans (congrArg some (by kernel_rfl))⟩
 f26:=⟨f234.name,by decide,func234.trans (congrArg some (by kernel_rfl))⟩
 f27:=⟨f235.name,by decide,func235.trans (congrArg some (by kernel_rfl))⟩
 f28:=func219.trans (congrArg some (by kernel_rfl))
 f29:=func220.trans (congrArg some (by kernel_rfl))
 f46:=⟨f270.name,by decide,func270.trans (congrArg some (by kernel_rfl))⟩
 f47:=func258.trans (congrArg some (by kernel_rfl))
 f48:=func259.trans (congrArg some (by kernel_rfl))
 f49:=⟨f271.name,by decide,func271.trans (congrArg some (by kernel_rfl))⟩
 f50:=⟨f272.name,by decide,func272.trans (congrArg some (by kernel_rfl))⟩
 f57:=⟨f295.name,by decide,func295.trans (congrArg some (by kernel_rfl))⟩
 t0:=underlying0
 a0:=isAgg0
 z0:=sizeOf0
 v0:=zeroValue0
 t3:=underlying3
 a3:=isAgg3
 z3:=sizeOf3
 v3:=zeroValue3
 t4:=underlying4
 a4:=isAgg4
 z4:=sizeOf4
 v4:=zeroValue4
 t5:=underlying5
 a5:=isAgg5
 z5:=sizeOf5
 v5:=zeroValue5
 t9:=underlying9
 a9:=isAgg9
 z9:=sizeOf9
 v9:=zeroValue9
 t22:=underlying37
 a22:=isAgg37
 z22:=sizeOf37
 v22:=zeroValue37
 t25:=underlying184
 a25:=isAgg184
 z25:=sizeOf184
 v25:=zeroValue184
 t39:=underlying215
 a39:=isAgg215
 z39:=sizeOf215
 v39:=zeroValue215
 t45:=underlying243
 a45:=isAgg243
 z45:=sizeOf243
 v45:=zeroValue243
 t46:=underlying244
 a46:=isAgg244
 z46:=sizeOf244
 v46:=zeroValue244
 t50:=underlying249
 a50:=isAgg249
 z50:=sizeOf249
 v50:=zeroValue249
 t53:=underlying252
 a53:=isAgg252
 z53:=sizeOf252
 v53:=zeroValue252
 t55:=underlying254
 a55:=isAgg254
 z55:=sizeOf254
 v55:=zeroValue254
 t66:=underlying289
 a66:=isAgg289
 z66:=sizeOf289
 v66:=zeroValue289
 t70:=underlying293
 a70:=isAgg293
 z70:=sizeOf293
 v70:=zeroValue293
 t76:=underlying320
 a76:=isAgg320
 z76:=sizeOf320
 v76:=zeroValue320
 t77:=underlying321
 a77:=isAgg321
 z77:=sizeOf321
 v77:=zeroValue321 }
open Go.RowKit Go.Lib Go.Sort in
theorem Tryz.slices_SortFunc_none {α:Type} [Inhabited α] (p:Option Addr) (cap:Nat) (fv:Value) (w:World):
 Calls Tryz.prog 122 #[.slice p 0 cap,fv] w fun e w'=>e=.returned (.tuple #[])∧w'=w:=AnyF.slices_SortFunc_none Tryz.laysSlF06_f122 p cap fv w
end Go.Proofs
namespace Go.Proofs
open Go.Proofs.Tryz
open Go.Shelf
def Tryz.laysSlE041_f156_ren:Go.Shelf.Ren:=⟨fun | 41=>156 | n=>n,fun | 22=>22 | 23=>93 | 4=>4 | n=>n,fun | n=>n⟩
theorem Tryz.laysSlE041_f156:Go.Proofs.SlLaysE0.n41 Tryz.prog Tryz.laysSlE041_f156_ren:={
 mixed:=by kernel_rfl
 f41:=⟨f156.name,by decide,func156.trans (congrArg some (by kernel_rfl))⟩
 t4:=underlying4
 a4:=isAgg4
 z4:=sizeOf4
 v4:=zeroValue4
 t22:=underlying22
 a22:=isAgg22
 z22:=sizeOf22
 v22:=zeroValue22 }
def Tryz.laysSlE041_f159_ren:Go.Shelf.Ren:=⟨fun | 41=>159 | n=>n,fun | 22=>23 | 23=>96 | 4=>4 | n=>n,fun | n=>n⟩
theorem Tryz.laysSlE041_f159:Go.Proofs.SlLaysE0.n41 Tryz.prog Tryz.laysSlE041_f159_ren:={
 mixed:=by kernel_rfl
 f41:=⟨f159.name,by decide,func159.trans (congrArg some (by kernel_rfl))⟩
 t4:=underlying4
 a4:=isAgg4
 z4:=sizeOf4
 v4:=zeroValue4
 t22:=underlying23
 a22:=isAgg23
 z22:=sizeOf23
 v22:=zeroValue23 }
def Tryz.laysSlE041_f164_ren:Go.Shelf.Ren:=⟨fun | 41=>164 | n=>n,fun | 22=>25 | 23=>60 | 4=>4 | n=>n,fun | n=>n⟩
theorem Tryz.laysSlE041_f164:Go.Proofs.SlLaysE0.n41 Tryz.prog Tryz.laysSlE041_f164_ren:={
 mixed:=by kernel_rfl
 f41:=⟨f164.name,by decide,func164.trans (congrArg some (by kernel_rfl))⟩
 t4:=underlying4
 a4:=isAgg4
 z4:=sizeOf4
 v4:=zeroValue4
 t22:=underlying25
 a22:=isAgg25
 z22:=sizeOf25
 v22:=zeroValue25 }
def Tryz.laysSlE041_f168_ren:Go.Shelf.Ren:=⟨fun | 41=>168 | n=>n,fun | 22=>24 | 23=>98 | 4=>4 | n=>n,fun | n=>n⟩
theorem Tryz.laysSlE041_f168:Go.Proofs.SlLaysE0.n41 Tryz.prog Tryz.laysSlE041_f168_ren:={
 mixed:=by kernel_rfl
 f41:=⟨f168.name,by decide,func168.trans (congrArg some (by kernel_rfl))⟩
 t4:=underlying4
 a4:=isAgg4
 z4:=sizeOf4
 v4:=zeroValue4
 t22:=underlying24
 a22:=isAgg24
 z22:=sizeOf24
 v22:=zeroValue24 }
def Tryz.laysSlE041_f172_ren:Go.Shelf.Ren:=⟨fun | 41=>172 | n=>n,fun | 22=>26 | 23=>100 | 4=>4 | n=>n,fun | n=>n⟩
theorem Tryz.laysSlE041_f172:Go.Proofs.SlLaysE0.n41 Tryz.prog Tryz.laysSlE041_f172_ren:={
 mixed:=by kernel_rfl
 f41:=⟨f172.name,by decide,func172.trans (congrArg some (by kernel_rfl))⟩
 t4:=underlying4
 a4:=isAgg4
 z4:=sizeOf4
 v4:=zeroValue4
 t22:=underlying26
 a22:=isAgg26
 z22:=sizeOf26
 v22:=zeroValue26 }
def Tryz.laysSlF06_f125_ren:Go.Shelf.Ren:=⟨fun | 6=>125 | 15=>177 | 14=>183 | 28=>219 | 29=>220 | 20=>236 | 21=>237 | 22=>238 | 23=>239 | 24=>240 | 25=>241 | 26=>242 | 27=>243 | 46=>273 | 47=>258 | 48=>259 | 49=>274 | 50=>275 | 57=>296 | n=>n,fun | 22=>38 | 24=>90 | 25=>186 | 3=>3 | 39=>215 | 0=>0 | 53=>252 | 55=>254 | 4=>4 | 46=>244 | 45=>243 | 50=>249 | 5=>5 | 9=>9 | 66=>289 | 70=>293 | 76=>320 | 77=>321 | n=>n,fun | n=>n⟩
theorem Tryz.laysSlF06_f125:Go.Proofs.SlLaysF0.n6 Tryz.prog Tryz.laysSlF06_f125_ren:={
 mixed:=by kernel_rfl
 f6:=⟨f125.name,by decide,func125.trans (congrArg some (by kernel_rfl))⟩
 f14:=⟨f183.name,by decide,func183.trans (congrArg some (by kernel_rfl))⟩
 f15:=func177.trans (congrArg some (by kernel_rfl))
 f20:=⟨f236.name,by decide,func236.trans (congrArg some (by kernel_rfl))⟩
 f21:=⟨f237.name,by decide,func237.trans (congrArg some (by kernel_rfl))⟩
 f22:=⟨f238.name,by decide,func238.trans (congrArg some (by kernel_rfl))⟩
 f23:=⟨f239.name,by decide,func239.trans (congrArg some (by kernel_rfl))⟩
 f24:=⟨f240.name,by decide,func240.trans (congrArg some (by kernel_rfl))⟩
 f25:=⟨f241.name,by decide,func241.trans (congrArg some (by kernel_rfl))⟩
 f26:=⟨f242.name,by decide,func242.trans (congrArg some (by kernel_rfl))⟩
 f27:=⟨f243.name,by decide,func243.trans (congrArg some (by kernel_rfl))⟩
 f28:=func219.trans (congrArg some (by kernel_rfl))
 f29:=func220.trans (congrArg some (by kernel_rfl))
 f46:=⟨f273.name,by decide,func273.trans (congrArg some (by kernel_rfl))⟩
 f47:=func258.trans (congrArg some (by kernel_rfl))
 f48:=func259.trans (congrArg some (by kernel_rfl))
 f49:=⟨f274.name,by decide,func274.trans (congrArg some (by kernel_rfl))⟩
 f50:=⟨f275.name,by decide,func275.trans (congrArg some (by kernel_rfl))⟩
 f57:=⟨f296.name,by decide,func296.trans (congrArg some (by kernel_rfl))⟩
 t0:=underlying0
 a0:=isAgg0
 z0:=sizeOf0
 v0:=zeroValue0
 t3:=underlying3
 a3:=isAgg3
 z3:=sizeOf3
 v3:=zeroValue3
 t4:=underlying4
 a4:=isAgg4
 z4:=sizeOf4
 v4:=zeroValue4
 t5:=underlying5
 a5:=isAgg5
 z5:=sizeOf5
 v5:=zeroValue5
 t9:=underlying9
 a9:=isAgg9
 z9:=sizeOf9
 v9:=zeroValue9
 t22:=underlying38
 a22:=isAgg38
 z22:=sizeOf38
 v22:=zeroValue38
 t25:=underlying186
 a25:=isAgg186
 z25:=sizeOf186
 v25:=zeroValue186
 t39:=underlying215
 a39:=isAgg215
 z39:=sizeOf215
 v39:=zeroValue215
 t45:=underlying243
 a45:=isAgg243
 z45:=sizeOf243
 v45:=zeroValue243
 t46:=underlying244
 a46:=isAgg244
 z46:=sizeOf244
 v46:=zeroValue244
 t50:=underlying249
 a50:=isAgg249
 z50:=sizeOf249
 v50:=zeroValue249
 t53:=underlying252
 a53:=isAgg252
 z53:=sizeOf252
 v53:=zeroValue252
 t55:=underlying254
 a55:=isAgg254
 z55:=sizeOf254
 v55:=zeroValue254
 t66:=underlying289
 a66:=isAgg289
 z66:=sizeOf289
 v66:=zeroValue289
 t70:=underlying293
 a70:=isAgg293
 z70:=sizeOf293
 v70:=zeroValue293
 t76:=underlying320
 a76:=isAgg320
 z76:=sizeOf320
 v76:=zeroValue320
 t77:=underlying321
 a77:=isAgg321
 z77:=sizeOf321
 v77:=zeroValue321 }
open Go.RowKit Go.Lib Go.Sort in
theorem Tryz.slices_SortFuncE {α:Type} [Inhabited α] (k:Nat) (aE:∀ w,(isAgg 90).run Tryz.prog w=.ok true w) (zE:∀ w,(Go.sizeOf 90).run Tryz.prog w=.ok k w) (enc:α→List Value) (hk:∀ x,(enc x).length=k) (h1:∀ x,∀ v∈enc x,v.oneCell'=true) (cf:α→α→Int) (hO:SWO (ltOf cf)) (g:Nat) (cb:Array Value) (blk off cap:Nat) (d:Array α) (w:World) (eg:∀ args w,(callFunc g args).run Tryz.prog w=.ok (.enter g args) w) (hcmp:CmpLays Tryz.prog g cb enc k cf blk off d.size w) (hH:HoldsK enc k w blk off d) (hblk:blk < w.heap.size) (hsz:d.size < 4611686018427387904):
 Calls Tryz.prog 125 #[.slice (some ⟨blk,off,none⟩) d.size cap,.func (.func g) #[] cb] w fun e w'=>
  e=.returned (.tuple #[])∧∃ d' n os,PermIn 0 d.size d d'∧SortedIn (ltOf cf) 0 d.size d'∧w'=sortWorldK enc k w blk off n d' os:=AnyQ.slices_SortFunc Tryz.laysSlF06_f125 k aE zE enc hk h1 cf hO g cb blk off cap d w eg hcmp hH hblk hsz
open Go.RowKit Go.Lib Go.Sort in
theorem Tryz.slices_SortFuncE_none {α:Type} [Inhabited α] (p:Option Addr) (cap:Nat) (fv:Value) (w:World):
 Calls Tryz.prog 125 #[.slice p 0 cap,fv] w fun e w'=>e=.returned (.tuple #[])∧w'=w:=AnyF.slices_SortFunc_none Tryz.laysSlF06_f125 p cap fv w
end Go.Proofs
namespace Go.Proofs.YtleidcbidcdaiaaGreatDoor
open Go.Proofs.Tryz
open Go.AM
theorem JN {P:Go.Program} {e:Go.TypeId} {sz bytes:Nat} (h:(match P.info? e with | some i=>(match i.zero with | some z=>z.cells.size==sz&&(i.size==sz&&i.bytes==bytes) | none=>false) | none=>false)=true):
 ∃ i0 z,P.info? e=some i0∧i0.zero=some z∧i0.size=sz∧i0.bytes=bytes∧z.cells.size=sz:=by
 split at h
 ·rename_i i hi;split at h
  ·rename_i z hz;simp only [Bool.and_eq_true,beq_iff_eq] at h;exact ⟨i,z,hi,hz,h.2.1,h.2.2,h.1⟩
  ·cases h
 ·cases h
theorem ZMO:Qn Tryz.prog rE 116 J7:=EV (Go.Proofs.enters_of func116 (by kernel_rfl) rfl) (fun blk off cap ss w hH hb hs=>Go.Proofs.Tryz.slices_Sort_string blk off cap ss w hH hb hs) (fun p cap w=>Go.Proofs.Tryz.slices_Sort_string_none p cap w)
theorem ZMP:Qn Tryz.prog rE 117 J8:=EY (Go.Proofs.enters_of func117 (by kernel_rfl) rfl) (fun blk off cap zs w hH h1 h2=>Go.Proofs.Tryz.slices_Compact_string blk off cap zs w hH h1 h2) (fun p cap w=>Go.Proofs.Tryz.slices_Compact_string_empty p cap w)
theorem ZMQ:Qn Tryz.prog rE 224 U9:=EK (Go.Proofs.enters_of func224 (by kernel_rfl) rfl) (fun s c w=>Go.Proofs.Tryz.strings_IndexByte s c w)
theorem ZIu:Qn Tryz.prog rE 156 (YL 6):=by
 obtain ⟨i0,z,a1,a2,a3,a4,a5⟩:=JN (P:=Tryz.prog) (e:=Go.Proofs.Tryz.laysSlE041_f156_ren.t 23) (sz:=6) (bytes:=88) (by kernel_rfl)
 exact Ud (bytes:=88) (by decide) (by decide) (Go.Proofs.enters_of func156 (by kernel_rfl) rfl) (fun b off n c news w h1 h2 h3 h4 h5=>Go.Proofs.AnyE.slices_Clone Go.Proofs.Tryz.laysSlE041_f156 i0 z 6 88 a1 a2 a3 a4 a5 (by decide) (fun w=>by kernel_rfl) b off n c news w h1 h2 h3 h4 h5)
theorem ZMR:Qn Tryz.prog rE 159 (YL 5):=by
 obtain ⟨i0,z,a1,a2,a3,a4,a5⟩:=JN (P:=Tryz.prog) (e:=Go.Proofs.Tryz.laysSlE041_f159_ren.t 23) (sz:=5) (bytes:=80) (by kernel_rfl)
 exact Ud (bytes:=80) (by decide) (by decide) (Go.Proofs.enters_of func159 (by kernel_rfl) rfl) (fun b off n c news w h1 h2 h3 h4 h5=>Go.Proofs.AnyE.slices_Clone Go.Proofs.Tryz.laysSlE041_f159 i0 z 5 80 a1 a2 a3 a4 a5 (by decide) (fun w=>by kernel_rfl) b off n c news w h1 h2 h3 h4 h5)
theorem Z9h:Qn Tryz.prog rE 164 (YL 16):=by
 obtain ⟨i0,z,a1,a2,a3,a4,a5⟩:=JN (P:=Tryz.prog) (e:=Go.Proofs.Tryz.laysSlE041_f164_ren.t 23) (sz:=16) (bytes:=184) (by kernel_rfl)
 exact Ud (bytes:=184) (by decide) (by decide) (Go.Proofs.enters_of func164 (by kernel_rfl) rfl) (fun b off n c news w h1 h2 h3 h4 h5=>Go.Proofs.AnyE.slices_Clone Go.Proofs.Tryz.laysSlE041_f164 i0 z 16 184 a1 a2 a3 a4 a5 (by decide) (fun w=>by kernel_rfl) b off n c news w h1 h2 h3 h4 h5)
theorem Z7d:Qn Tryz.prog rE 168 (YL 4):=by
 obtain ⟨i0,z,a1,a2,a3,a4,a5⟩:=JN (P:=Tryz.prog) (e:=Go.Proofs.Tryz.laysSlE041_f168_ren.t 23) (sz:=4) (bytes:=56) (by kernel_rfl)
 exact Ud (bytes:=56) (by decide) (by decide) (Go.Proofs.enters_of func168 (by kernel_rfl) rfl) (fun b off n c news w h1 h2 h3 h4 h5=>Go.Proofs.AnyE.slices_Clone Go.Proofs.Tryz.laysSlE041_f168 i0 z 4 56 a1 a2 a3 a4 a5 (by decide) (fun w=>by kernel_rfl) b off n c news w h1 h2 h3 h4 h5)
theorem Z7h:Qn Tryz.prog rE 172 (YL 6):=by
 obtain ⟨i0,z,a1,a2,a3,a4,a5⟩:=JN (P:=Tryz.prog) (e:=Go.Proofs.Tryz.laysSlE041_f172_ren.t 23) (sz:=6) (bytes:=72) (by kernel_rfl)
 exact Ud (bytes:=72) (by decide) (by decide) (Go.Proofs.enters_of func172 (by kernel_rfl) rfl) (fun b off n c news w h1 h2 h3 h4 h5=>Go.Proofs.AnyE.slices_Clone Go.Proofs.Tryz.laysSlE041_f172 i0 z 6 72 a1 a2 a3 a4 a5 (by decide) (fun w=>by kernel_rfl) b off n c news w h1 h2 h3 h4 h5)
theorem ZMS:Qn Tryz.prog rE 115 J9:=by
 obtain ⟨i0,z,a1,a2,a3,a4,a5⟩:=JN (P:=Tryz.prog) (e:=9) (sz:=1) (bytes:=16) (by kernel_rfl)
 exact EZ (el:=9) (Go.Proofs.enters_of func115 (by kernel_rfl) rfl) (fun b off n c news w h1 h2 h3 h4 h5=>Go.Proofs.Tryz.slices_Clone i0 z 1 16 a1 a2 a3 a4 a5 (by decide) (fun w=>by kernel_rfl) b off n c news w h1 h2 h3 h4 h5)
  (fun n c w=>Go.Proofs.Tryz.slices_Clone_string_nil n c w) (fun a c w=>Go.Proofs.Tryz.slices_Clone_string_zero a c w)
theorem Z8c:Qn Tryz.prog rE 248 Ja:=I2 (el:=9) (Go.Proofs.enters_of func248 (by kernel_rfl) rfl) (fun s x w hs=>Go.Proofs.Z9R Go.Proofs.Tryz.lays146 (by kernel_rfl) s x w hs)
theorem ZMT:Qn Tryz.prog rE 225 J5:=EM (Go.Proofs.enters_of func225 (by kernel_rfl) rfl) (fun s n w h1 h2=>(Go.Proofs.Tryz.strconv_Atoi s n h1 h2 w).mono (by
 rintro e w' ⟨rfl,t,rfl⟩;exact ⟨rfl,Go.Lib.bytesWorld_below w _ t⟩))
theorem ZMU:Qn Tryz.prog rE 226 J6:=EN (Go.Proofs.enters_of func226 (by kernel_rfl) rfl) (fun s c w hs h2 ha=>Go.Proofs.Z9S Go.Proofs.Tryz.lays153 (by kernel_rfl) (by kernel_rfl) s c w hs h2 ha)
theorem ZCa:OkL Tryz.prog Zz9:=ZCg _ (by kernel_rfl)
theorem ZIA:OkL Tryz.prog ZGv:=ZCg _ (by kernel_rfl)
theorem ZCb (f:Nat) (q:AFun) (h:Zza f=some q):Z0 Tryz.prog f q:=ZjX ZCa h
theorem ZIB (f:Nat) (q:AFun) (h:ZGw f=some q):Z0 Tryz.prog f q:=ZjX ZIA h
theorem ZCc:@EnvOk dT Tryz.prog e0:=@EnvOk.mk dT Tryz.prog e0 (fun _=>rfl) (fun f q h=>ZCb f q h) (fun f s h=>by cases h) (fun f s h=>by cases h)
theorem lfS {P:Go.Program} {E:Env} {f k:Nat} {a q:List AV→Hp→Option (AV×Hp)} {r:Option (List AV→Hp→Option (AV×Hp))} (h:(bif Nat.beq f k then some a else r)=some q) (g:Qn P E k a) (e:r=some q→Qn P E f q):Qn P E f q:=by
 cases hb:Nat.beq f k with
 | true=>
  rw [hb] at h;obtain rfl:a=q:=Option.some.inj h;rw [Nat.eq_of_beq_eq_true hb];exact g
 | false=>
  rw [hb] at h;exact e h
theorem nnS {f:Nat} {q:List AV→Hp→Option (AV×Hp)} {P:Go.Program} {E:Env} (h:(none:Option (List AV→Hp→Option (AV×Hp)))=some q):Qn P E f q:=by cases h
theorem ZMV:Qn Tryz.prog e1 122 (ZEt 123 (ckS 69)):=ZGL ZCc (fun _=>rfl) rfl (Go.Proofs.enters_of func122 (by kernel_rfl) rfl) ZGN
 (fun enc h1 cf hO cb blk off cap d w hcmp hH hblk hsz=>Go.Proofs.Tryz.slices_SortFunc enc h1 cf hO 123 cb blk off cap d w (Go.Proofs.enters_of func123 (by kernel_rfl) rfl) hcmp hH hblk hsz)
 (fun p cap fv w=>Go.Proofs.Tryz.slices_SortFunc_none (α:=Nat) p cap fv w)
theorem ZhY:Qn Tryz.prog e1 125 (ZvW 126 3 ZEm):=ZzO (by decide) ZCc (fun _=>rfl) rfl (Go.Proofs.enters_of func125 (by kernel_rfl) rfl) ZGP
 (fun enc hk h1 cf hO cb blk off cap d w hcmp hH hblk hsz=>Go.Proofs.Tryz.slices_SortFuncE 3 (fun w=>by kernel_rfl) (fun w=>by kernel_rfl) enc hk h1 cf hO 126 cb blk off cap d w (Go.Proofs.enters_of func126 (by kernel_rfl) rfl) hcmp hH hblk hsz)
 (fun p cap fv w=>Go.Proofs.Tryz.slices_SortFuncE_none (α:=Nat) p cap fv w)
theorem ZIE (f:Nat) (s:List AV→Hp→Option (AV×Hp)) (h:e1.sum f=some s):Qn Tryz.prog e1 f s:=by
 change ZFE f=some s at h;unfold ZFE at h;exact lfS h ZMV fun h=>lfS h ZhY nnS
theorem ZGs:EnvOk Tryz.prog e1:=⟨fun _=>rfl,fun f q h=>ZIB f q h,ZIE,fun f s h=>by cases h⟩
theorem ZMb:ZEs Tryz.prog rE 68 (ZE7 69):=ZFH (E:=rE) (E1:=e1) ZGs (fun _=>rfl) ZGQ
theorem ZMc:ZEs Tryz.prog rE 70 (ZEe 71 3 ZEf):=ZFH (E:=rE) (E1:=e1) ZGs (fun _=>rfl) ZGR
end Go.Proofs.YtleidcbidcdaiaaGreatDoor
namespace Go.Proofs.YtleidcbidcdaiaaGreatDoor
open Go.AM
theorem brS {α:Type} {b:Bool} {x y:Option α} {q:α} {G:Prop} (h:(bif b then x else y)=some q) (h1:x=some q→G) (h2:y=some q→G):G:=by
 cases b with
 | true=>exact h1 h
 | false=>exact h2 h
theorem ZIF (f:Nat) (s:List AV→Hp→Option (AV×Hp)) (h:N8 f=some s):Qn Tryz.prog rE f s:=by
 unfold N8 at h;exact (brS h (fun h=>(brS h (fun h=>(brS h (fun h=>(lfS h ZMS nnS)) (fun h=>(brS h (fun h=>(lfS h ZMO nnS)) (fun h=>(lfS h ZMP nnS)))))) (fun h=>(brS h (fun h=>(lfS h ZIu nnS)) (fun h=>(brS h (fun h=>(lfS h ZMR nnS)) (fun h=>(lfS h Z9h nnS)))))))) (fun h=>(brS h (fun h=>(brS h (fun h=>(lfS h Z7d nnS)) (fun h=>(brS h (fun h=>(lfS h Z7h nnS)) (fun h=>(lfS h ZMQ nnS)))))) (fun h=>(brS h (fun h=>(lfS h ZMT nnS)) (fun h=>(brS h (fun h=>(lfS h ZMU nnS)) (fun h=>(lfS h Z8c nnS)))))))))
theorem Cd (f:Nat) (s:List AV→Hp→Option (AV×Hp)) (h:rE.sum f=some s):Qn Tryz.prog rE f s:=by
 change ZF0 f=some s at h;unfold ZF0 at h;exact lfS h (ZFI ZMb) fun h=>lfS h (ZFI ZMc) fun h=>ZIF f s h
theorem ZIG (f:Nat) (s:List AV→Nat→List AV→Option (List AV)) (h:rE.rs f=some s):ZEs Tryz.prog rE f s:=by
 change ZF1 f=some s at h;unfold ZF1 at h;cases hb:Nat.beq f 68 with
 | true=>
  rw [hb] at h;obtain rfl:=Option.some.inj h;rw [Nat.eq_of_beq_eq_true hb];exact ZMb
 | false=>
  rw [hb] at h;cases hc:Nat.beq f 70 with
  | true=>
   rw [hc] at h;obtain rfl:=Option.some.inj h;rw [Nat.eq_of_beq_eq_true hc];exact ZMc
  | false=>rw [hc] at h;cases h
theorem Z9o:EnvOk Tryz.prog rE:=⟨fun _=>rfl,fun f q h=>Z98 f q h,Cd,ZIG⟩
theorem Z9l (W:Go.World):GlR rE T0 (X0 Tryz.prog) W:=fun g=>trivial
theorem Z9k:sig Tryz.prog 10 Tryz.f8.params.toList=some ZN0:=by kernel_rfl
theorem watchQuiet_card:Rows.WatchQuietCardSaid:=Z6d Z9o Z9l (n:=10) (S:=ZN0) rfl Z9k Z6n
end Go.Proofs.YtleidcbidcdaiaaGreatDoor
