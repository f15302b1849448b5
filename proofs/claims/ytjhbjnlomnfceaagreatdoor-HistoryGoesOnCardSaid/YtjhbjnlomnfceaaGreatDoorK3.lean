/- HistoryGoesOn holds for all its arguments. No condition. -/
import Derived.Test.YtjhbjnlomnfceaaGreatDoorT3
import Derived.Test.YtjhbjnlomnfceaaGreatDoorQ5
import Derived.Test.YtjhbjnlomnfceaaGreatDoorP3c
import Derived.Test.YtjhbjnlomnfceaaGreatDoorR3
import Derived.Shelf.Small.Utf8
import Derived.Shelf.Small.Bits
import Derived.Shelf.Small.Strs
import Derived.Shelf.Small.Wraps
import Derived.Shelf.Utf8.RuneCount
import Derived.Shelf.Strconv.Atoi
import Derived.Shelf.Strconv.Itoa0
import Derived.Shelf.Strconv.Itoa1
import Derived.Shelf.LaysM
import Derived.Shelf.Strconv.Itoa2
import Derived.Shelf.Strconv.Itoa3
import Derived.Shelf.Strconv.AtoiErrFast
import Derived.Shelf.Strconv.ParseIntEmpty
import Derived.Shelf.Strconv.AtoiFail
import Derived.Shelf.Strconv.Clone
import Derived.Shelf.Strconv.SyntaxError
import Derived.Shelf.LaysC
import Derived.Shelf.Strconv.ToError
import Derived.Shelf.Strconv.AtoiErr
import Derived.Shelf.Strconv.ErrVar
import Derived.Shelf.Strconv.Lower
import Derived.Shelf.Strconv.ParseUint10
import Derived.Shelf.Strconv.ParseUint10Empty
import Derived.Shelf.Strconv.ParseUint10Any
import Derived.Shelf.Strconv.ParseInt10
import Derived.Shelf.Strconv.AtoiLong
import Derived.Shelf.Strconv.AtoiInnerAll
import Derived.Shelf.Strconv.RangeError
import Derived.Shelf.Strconv.ToErrorRange
import Derived.Shelf.Strconv.ParseUintEmpty
import Derived.Shelf.Strconv.ParseUint10b64
import Derived.Shelf.Strconv.ParseUint10b32
import Derived.Shelf.Strconv.ParseUint10b16
import Derived.Shelf.Strconv.ParseUint10b8
import Derived.Shelf.Strconv.ParseUint10At
import Derived.Shelf.Strconv.ParseInt10At64
import Derived.Shelf.Strconv.ParseInt10At32
import Derived.Shelf.Strconv.ParseInt10At16
import Derived.Shelf.Strconv.ParseInt10At8
import Derived.Shelf.Strconv.ParseInt10All
import Derived.Shelf.Strings.Search1
import Derived.Shelf.Strings.Search2
import Derived.Shelf.Strings.Search3
import Derived.Shelf.Strings.Count
import Derived.Shelf.Strings.Shaped
import Derived.Shelf.Sort.Plain
import Derived.Shelf.Strings.Prefix
import Derived.Shelf.Strings.Split
import Derived.Shelf.Strings.SplitShaped
import Derived.Shelf.Unicode.Decode
import Derived.Shelf.Strings.Runes
import Derived.Shelf.Strings.RuneCount
import Derived.Shelf.Strings.IndexAny
import Derived.Shelf.Strings.AsciiSet
import Derived.Shelf.Strings.IndexAnyAll
import Derived.Shelf.Strings.Explode
import Derived.Shelf.Unicode.DecodeSlow
import Derived.Shelf.Unicode.DecodeAny
import Derived.Shelf.Slices.Turned
import Derived.Ground.Names2Prog
import Derived.Shelf.Slices.Clone
import Derived.Shelf.Slices.CompactI
import Derived.Shelf.Slices.CompactS
import Derived.Shelf.Slices.SearchI
import Derived.Shelf.Slices.Cells
import Derived.Shelf.Slices.In.SortNone
import Derived.Ground.SlgnProg
import Derived.Shelf.SlicesE.Clone
import Derived.Ground.SlsfProg
import Derived.Shelf.SlSortCmp.InsertionK
import Derived.Shelf.SlSortCmp.SiftDownK
import Derived.Shelf.SlSortCmp.HeapSortK
import Derived.Shelf.SlSortCmp.MedianK
import Derived.Shelf.SlSortCmp.PivotK
import Derived.Shelf.SlSortCmp.ReverseRangeK
import Derived.Shelf.SlSortCmp.PartialInsertionK
import Derived.Shelf.SlSortCmp.PartitionEqualK
import Derived.Shelf.SlSortCmp.PartitionK
import Derived.Shelf.SlSortCmp.PdqK
import Derived.Shelf.SlSortCmp.WholeK
import Derived.Shelf.SlSortCmp.NoneTotal
import Derived.Shelf.SlIterI.Nil
import Derived.Shelf.SortM.Plain
import Derived.Shelf.SortM.SortNone
import Derived.Ground.GgzProg
import Derived.Ground.SlgmProg
import Derived.Lib.AtoiErrMem
set_option linter.unusedVariables false
set_option linter.unusedSimpArgs false
set_option linter.unusedSectionVars false
namespace Go.AM
open Go
theorem Mb {α:Type} {f:α→AV}:∀ {l:List AV},(∀ x∈l,∃ y,x=f y)→∃ m:List α,l=m.map f
 | [],_=>⟨[],rfl⟩
 | x::r,h=>by
  obtain ⟨y,rfl⟩:=h x (List.mem_cons_self ..);obtain ⟨m,rfl⟩:=Mb (fun z hz=>h z (List.mem_cons_of_mem _ hz))
  exact ⟨y::m,rfl⟩
theorem YY {s:CSh} {ss:List CSh} {l:List AV}:Wcs (s::ss) l↔∃ a r,l=a::r∧Wc s a∧Wcs ss r:=by rw [Wcs]
theorem Xo {l:List AV}:Wcs [] l↔l=[]:=by rw [Wcs]
theorem ZQ {k:IntKind} {a:AV} (h:Wc (.int k) a):∃ n,a=.int k n:=by rw [Wc] at h;obtain ⟨n,h,_⟩:=h;exact ⟨n,h⟩
theorem Y4 {a:AV} (h:Wc .str a):∃ s:ByteArray,a=.str s:=by rw [Wc] at h;obtain ⟨n,h,_⟩:=h;exact ⟨n,h⟩
theorem YB {α:Type} {f:α→AV} {es:List CSh} {a:AV} (hd:∀ cs,Wcs es cs→∃ y,AV.agg cs=f y) (h:Wc (.sl true es) a):∃ m:List α,a=.isl false false es.length (m.map f):=by
 rw [Wc] at h;obtain ⟨xs,rfl,_,h2⟩:=h;obtain ⟨m,rfl⟩:=Mb (f:=f) (l:=xs) (fun x hx=>by
  obtain ⟨cs,rfl,h3⟩:=(h2 x hx).1 rfl;exact hd cs h3)
 exact ⟨m,rfl⟩
theorem C8 {α:Type} {f:α→AV} {s:CSh} {a:AV} (hd:∀ x,Wc s x→∃ y,x=f y) (h:Wc (.sl false [s]) a):∃ m:List α,a=.isl false false 1 (m.map f):=by
 rw [Wc] at h;obtain ⟨xs,rfl,_,h2⟩:=h;obtain ⟨m,rfl⟩:=Mb (f:=f) (l:=xs) (fun x hx=>by
  have h3:=(h2 x hx).2 rfl;rw [YY] at h3;obtain ⟨a,r,h4,h5,h6⟩:=h3;rw [Xo] at h6;subst h6;cases h4;exact hd x h5)
 exact ⟨m,rfl⟩
abbrev iS:CSh:=.int .i64
abbrev ptS:List CSh:=[iS,iS]
abbrev nmS:List CSh:=[.str,iS,.str]
abbrev enS:List CSh:=[.str,iS,.str,iS,iS,iS,iS]
abbrev evS:List CSh:=[iS,iS,iS,iS,iS,.str,.str,.str,.sl false [.str],.sl true nmS,iS,.str,iS,iS,iS,iS,.sl true ptS,.sl true enS]
theorem HQ (cs:List AV) (h:Wcs ptS cs):∃ y:Pt,AV.agg cs=y.enc:=by
 simp only [YY,Xo] at h;obtain ⟨a,_,rfl,h1,b,_,rfl,h2,rfl⟩:=h;obtain ⟨x,rfl⟩:=ZQ h1;obtain ⟨y,rfl⟩:=ZQ h2;exact ⟨⟨x,y⟩,rfl⟩
theorem Mc (cs:List AV) (h:Wcs nmS cs):∃ y:Nm,AV.agg cs=y.enc:=by
 simp only [YY,Xo] at h;obtain ⟨a,_,rfl,h1,b,_,rfl,h2,c,_,rfl,h3,rfl⟩:=h;obtain ⟨x,rfl⟩:=Y4 h1;obtain ⟨y,rfl⟩:=ZQ h2;obtain ⟨z,rfl⟩:=Y4 h3;exact ⟨⟨x,y,z⟩,rfl⟩
theorem Z6e (cs:List AV) (h:Wcs enS cs):∃ y:Ent,AV.agg cs=y.enc:=by
 simp only [YY,Xo] at h;obtain ⟨_,_,rfl,h1,_,_,rfl,h2,_,_,rfl,h3,_,_,rfl,h4,_,_,rfl,h5,_,_,rfl,h6,_,_,rfl,h7,rfl⟩:=h;obtain ⟨a,rfl⟩:=Y4 h1;obtain ⟨b,rfl⟩:=ZQ h2;obtain ⟨c,rfl⟩:=Y4 h3;obtain ⟨d,rfl⟩:=ZQ h4;obtain ⟨e,rfl⟩:=ZQ h5;obtain ⟨f,rfl⟩:=ZQ h6;obtain ⟨g,rfl⟩:=ZQ h7;exact ⟨⟨a,⟨b,c,d,e⟩,⟨f,g⟩⟩,rfl⟩
theorem Cb (x:AV) (h:Wc .str x):∃ y:Str,x=encS y:=Y4 h
theorem Z6l (cs:List AV) (h:Wcs evS cs):∃ e:Event,AV.agg cs=evA e:=by
 simp only [YY,Xo] at h;obtain ⟨_,_,rfl,h1,_,_,rfl,h2,_,_,rfl,h3,_,_,rfl,h4,_,_,rfl,h5,_,_,rfl,h6,_,_,rfl,h7,_,_,rfl,h8,_,_,rfl,h9,_,_,rfl,h10,_,_,rfl,h11,_,_,rfl,h12,_,_,rfl,h13,_,_,rfl,h14,_,_,rfl,h15,_,_,rfl,h16,_,_,rfl,h17,_,_,rfl,h18,rfl⟩:=h;obtain ⟨a1,rfl⟩:=ZQ h1;obtain ⟨a2,rfl⟩:=ZQ h2;obtain ⟨a3,rfl⟩:=ZQ h3;obtain ⟨a4,rfl⟩:=ZQ h4;obtain ⟨a5,rfl⟩:=ZQ h5;obtain ⟨a6,rfl⟩:=Y4 h6;obtain ⟨a7,rfl⟩:=Y4 h7;obtain ⟨a8,rfl⟩:=Y4 h8;obtain ⟨a9,rfl⟩:=C8 Cb h9;obtain ⟨a10,rfl⟩:=YB Mc h10;obtain ⟨a11,rfl⟩:=ZQ h11;obtain ⟨a12,rfl⟩:=Y4 h12;obtain ⟨a13,rfl⟩:=ZQ h13;obtain ⟨a14,rfl⟩:=ZQ h14;obtain ⟨a15,rfl⟩:=ZQ h15;obtain ⟨a16,rfl⟩:=ZQ h16;obtain ⟨a17,rfl⟩:=YB HQ h17;obtain ⟨a18,rfl⟩:=YB Z6e h18;exact ⟨⟨a1,a2,a3,a4,a5,a6,a7,a8,⟨false,a9⟩,⟨false,a10⟩,⟨a11,a12,a13,a14⟩,⟨a15,a16⟩,⟨false,a17⟩,⟨false,a18⟩⟩,rfl⟩
theorem Zz7 {α:Type} {f:α→AV} {Q:α→Prop} {es:List CSh} {a:AV} (hd:∀ cs,Wcs es cs→∃ y,AV.agg cs=f y∧Q y) (h:Wc (.sl true es) a):∃ m:List α,a=.isl false false es.length (m.map f)∧m.length≤reachBytes∧∀ y∈m,Q y:=by
 rw [Wc] at h;obtain ⟨xs,rfl,hl,h2⟩:=h
 suffices G:∀ l:List AV,(∀ x∈l,∃ y,x=f y∧Q y)→∃ m:List α,l=m.map f∧∀ y∈m,Q y by
  obtain ⟨m,rfl,hm⟩:=G xs (fun x hx=>by
   obtain ⟨cs,rfl,h3⟩:=(h2 x hx).1 rfl;exact hd cs h3)
  exact ⟨m,rfl,by simpa using hl,hm⟩
 intro l;induction l with
 | nil=>intro _;exact ⟨[],rfl,fun y hy=>by cases hy⟩
 | cons x r ih=>
  intro h;obtain ⟨y,rfl,hq⟩:=h x (List.mem_cons_self ..);obtain ⟨m,rfl,hm⟩:=ih (fun z hz=>h z (List.mem_cons_of_mem _ hz))
  refine ⟨y::m,rfl,fun z hz=>?_⟩
  rcases List.mem_cons.1 hz with rfl | hz
  ·exact hq
  ·exact hm z hz
abbrev veS:List CSh:=[iS,iS,iS,.str,.sl true evS,iS,.sl false [.str],.sl false [.str]]
theorem ZAV (cs:List AV) (h:Wcs veS cs):∃ v:Ver,AV.agg cs=v.enc∧v.Events.l.length≤140737488355328:=by
 simp only [YY,Xo] at h;obtain ⟨_,_,rfl,h1,_,_,rfl,h2,_,_,rfl,h3,_,_,rfl,h4,_,_,rfl,h5,_,_,rfl,h6,_,_,rfl,h7,_,_,rfl,h8,rfl⟩:=h;obtain ⟨a1,rfl⟩:=ZQ h1;obtain ⟨a2,rfl⟩:=ZQ h2;obtain ⟨a3,rfl⟩:=ZQ h3;obtain ⟨a4,rfl⟩:=Y4 h4;obtain ⟨a5,rfl,hl,_⟩:=Zz7 (f:=fun e=>evA e) (Q:=fun _=>True) (fun cs h=>by obtain ⟨y,hy⟩:=Z6l cs h;exact ⟨y,hy,trivial⟩) h5
 obtain ⟨a6,rfl⟩:=ZQ h6;obtain ⟨a7,rfl⟩:=C8 Cb h7;obtain ⟨a8,rfl⟩:=C8 Cb h8;exact ⟨⟨a1,a2,a3,a4,⟨false,a5⟩,a6,⟨false,a7⟩,⟨false,a8⟩⟩,rfl,Nat.le_trans hl (by decide)⟩
theorem Zrc {a:AV} (h:Wc (.int .u8) a):∃ d,a=.int .u8 d∧0≤d∧d≤255:=by
 rw [Wc] at h;obtain ⟨d,rfl,hw⟩:=h;have h9:(decide (IntKind.u8.min≤d)&&decide (d≤IntKind.u8.max))=true:=hw;rw [Bool.and_eq_true] at h9;have m1:IntKind.u8.min=0:=by decide
 have m2:IntKind.u8.max=255:=by decide
 have a1:=of_decide_eq_true h9.1;have a2:=of_decide_eq_true h9.2;exact ⟨d,rfl,by omega,by omega⟩
theorem Zz8 {a:AV} (h:Wc iS a):∃ d,a=I d∧-9223372036854775808≤d:=by
 rw [Wc] at h;obtain ⟨d,rfl,hw⟩:=h;have h9:(decide (IntKind.i64.min≤d)&&decide (d≤IntKind.i64.max))=true:=hw;rw [Bool.and_eq_true] at h9;have m1:IntKind.i64.min=-9223372036854775808:=by decide
 have a1:=of_decide_eq_true h9.1;exact ⟨d,rfl,by omega⟩
theorem Zxg {s:CSh} {a:AV} (h:Wcs [s] [a]):Wc s a:=by
 rw [YY] at h;obtain ⟨_,_,e,k,_⟩:=h;cases e;exact k
theorem ZAW {a:AV} (h:Wcs [.sl true veS] [a]):∃ V:NL Ver,a=vsA V∧∀ v∈V.l,v.Events.l.length≤140737488355328:=by
 obtain ⟨m,rfl,_,hm⟩:=Zz7 ZAV (Zxg h);exact ⟨⟨false,m⟩,rfl,hm⟩
abbrev ZCj:List (Bool×List CSh):=[(false,[.sl true veS]),(false,[iS]),(false,[.int .u8]),(false,[iS])]
theorem ZCJ (xs:List AV) (h:Wvs ZCj xs):pfn rE 3 xs=some (.bool true):=by
 obtain ⟨x,_,rfl,_,h1,y,_,rfl,_,h2,z,_,rfl,_,h3,u,_,rfl,_,h4,h5⟩:=h;have h5':_=[]:=h5;subst h5';obtain ⟨V,rfl,hV⟩:=ZAW (h1 rfl);obtain ⟨a,rfl,ha⟩:=Zz8 (Zxg (h2 rfl));obtain ⟨b,rfl,hb0,hb1⟩:=Zrc (Zxg (h3 rfl));obtain ⟨c,rfl,_⟩:=Zz8 (Zxg (h4 rfl));exact ZCp ZAT V hV a b c ha hb0 hb1
end Go.AM
namespace Go.Proofs
open Go.Proofs.Tryz
open Go.Shelf
def Tryz.lays137_ren:Go.Shelf.Ren:=⟨fun | 137=>263 | 217=>284 | 266=>301 | n=>n,fun | 9=>9 | 5=>5 | 3=>3 | n=>n,fun | n=>n⟩
theorem Tryz.lays137:Go.Proofs.Lays.n137 Tryz.prog Tryz.lays137_ren:={
 mixed:=by kernel_rfl
 f137:=func263.trans (congrArg some (by kernel_rfl))
 f217:=func284.trans (congrArg some (by kernel_rfl))
 f266:=func301.trans (congrArg some (by kernel_rfl))
 t3:=underlying3
 a3:=isAgg3
 z3:=sizeOf3
 v3:=zeroValue3
 t5:=underlying5
 a5:=isAgg5
 z5:=sizeOf5
 v5:=zeroValue5
 t9:=underlying9
 a9:=isAgg9
 z9:=sizeOf9
 v9:=zeroValue9 }
open Go.RowKit in
theorem Tryz.strings_IndexByte (s:ByteArray) (c:Int) (w:World):
 Calls Tryz.prog 263 #[.string s,.int .u8 c] w fun e w'=>e=.returned (.int .i64 (Lib.indexByte s.data.toList c.toNat.toUInt8))∧w'=w:=Any.strings_IndexByte Tryz.lays137 s c w
def Tryz.lays172_ren:Go.Shelf.Ren:=⟨fun | 172=>264 | 244=>285 | 245=>286 | 247=>302 | 279=>303 | 280=>304 | 281=>305 | 282=>306 | 287=>315 | 316=>316 | 171=>318 | 205=>317 | 321=>321 | 322=>322 | 243=>323 | 246=>325 | 283=>326 | 284=>327 | 285=>328 | 286=>329 | 129=>94 | 317=>330 | 318=>331 | 319=>332 | 320=>333 | 337=>334 | 338=>335 | n=>n,fun | 9=>9 | 3=>3 | 75=>286 | 76=>287 | 4=>4 | 5=>5 | 167=>320 | 37=>321 | 0=>0 | 85=>322 | 2=>2 | 168=>324 | 53=>150 | 175=>332 | 46=>108 | 210=>336 | 127=>340 | 145=>343 | 143=>341 | 21=>21 | 171=>351 | 173=>353 | 212=>356 | 51=>148 | 20=>20 | 213=>357 | 232=>358 | 233=>359 | 80=>360 | n=>n,fun | 15=>1 | 16=>2 | 17=>5 | 18=>6 | 19=>7 | n=>n⟩
theorem Tryz.lays172:Go.Proofs.Lays.n172 Tryz.prog Tryz.lays172_ren:={
 mixed:=by kernel_rfl
 f129:=func94.trans (congrArg some (by kernel_rfl))
 f171:=func318.trans (congrArg some (by kernel_rfl))
 f172:=func264.trans (congrArg some (by kernel_rfl))
 f205:=func317.trans (congrArg some (by kernel_rfl))
 f243:=func323.trans (congrArg some (by kernel_rfl))
 f244:=func285.trans (congrArg some (by kernel_rfl))
 f245:=func286.trans (congrArg some (by kernel_rfl))
 f246:=func325.trans (congrArg some (by kernel_rfl))
 f247:=func302.trans (congrArg some (by kernel_rfl))
 f279:=func303.trans (congrArg some (by kernel_rfl))
 f280:=func304.trans (congrArg some (by kernel_rfl))
 f281:=func305.trans (congrArg some (by kernel_rfl))
 f282:=func306.trans (congrArg some (by kernel_rfl))
 f283:=func326.trans (congrArg some (by kernel_rfl))
 f284:=func327.trans (congrArg some (by kernel_rfl))
 f285:=func328.trans (congrArg some (by kernel_rfl))
 f286:=func329.trans (congrArg some (by kernel_rfl))
 f287:=func315.trans (congrArg some (by kernel_rfl))
 f316:=func316.trans (congrArg some (by kernel_rfl))
 f317:=func330.trans (congrArg some (by kernel_rfl))
 f318:=func331.trans (congrArg some (by kernel_rfl))
 f319:=func332.trans (congrArg some (by kernel_rfl))
 f320:=func333.trans (congrArg some (by kernel_rfl))
 f321:=func321.trans (congrArg some (by kernel_rfl))
 f322:=func322.trans (congrArg some (by kernel_rfl))
 f337:=func334.trans (congrArg some (by kernel_rfl))
 f338:=func335.trans (congrArg some (by kernel_rfl))
 t0:=underlying0
 a0:=isAgg0
 z0:=sizeOf0
 v0:=zeroValue0
 t2:=underlying2
 a2:=isAgg2
 z2:=sizeOf2
 v2:=zeroValue2
 t3:=underlying3
 a3:=isAgg3
 z3:=sizeOf3
 v3:=zeroValue3
 t4:=underlying4
 a4:=isAgg4
 z4:=sizeOf4
 v4:=zeroValue4
 t5:=underlying5
 a5:=isAgg5
 z5:=sizeOf5
 v5:=zeroValue5
 t9:=underlying9
 a9:=isAgg9
 z9:=sizeOf9
 v9:=zeroValue9
 t20:=underlying20
 a20:=isAgg20
 z20:=sizeOf20
 v20:=zeroValue20
 t21:=underlying21
 a21:=isAgg21
 z21:=sizeOf21
 v21:=zeroValue21
 t37:=underlying321
 a37:=isAgg321
 z37:=sizeOf321
 v37:=zeroValue321
 t46:=underlying108
 a46:=isAgg108
 z46:=sizeOf108
 v46:=zeroValue108
 t51:=underlying148
 a51:=isAgg148
 z51:=sizeOf148
 v51:=zeroValue148
 t53:=underlying150
 a53:=isAgg150
 z53:=sizeOf150
 v53:=zeroValue150
 t75:=underlying286
 a75:=isAgg286
 z75:=sizeOf286
 v75:=zeroValue286
 t76:=underlying287
 a76:=isAgg287
 z76:=sizeOf287
 v76:=zeroValue287
 t85:=underlying322
 a85:=isAgg322
 z85:=sizeOf322
 v85:=zeroValue322
 t127:=underlying340
 a127:=isAgg340
 z127:=sizeOf340
 v127:=zeroValue340
 t143:=underlying341
 a143:=isAgg341
 z143:=sizeOf341
 v143:=zeroValue341
 t145:=underlying343
 a145:=isAgg343
 z145:=sizeOf343
 v145:=zeroValue343
 t167:=underlying320
 a167:=isAgg320
 z167:=sizeOf320
 v167:=zeroValue320
 t168:=underlying324
 a168:=isAgg324
 z168:=sizeOf324
 v168:=zeroValue324
 t171:=underlying351
 a171:=isAgg351
 z171:=sizeOf351
 v171:=zeroValue351
 t173:=underlying353
 a173:=isAgg353
 z173:=sizeOf353
 v173:=zeroValue353
 t175:=underlying332
 a175:=isAgg332
 z175:=sizeOf332
 v175:=zeroValue332
 t210:=underlying336
 a210:=isAgg336
 z210:=sizeOf336
 v210:=zeroValue336
 t212:=underlying356
 a212:=isAgg356
 z212:=sizeOf356
 v212:=zeroValue356
 t213:=underlying357
 a213:=isAgg357
 z213:=sizeOf357
 t232:=underlying358
 a232:=isAgg358
 z232:=sizeOf358
 v232:=zeroValue358
 t233:=underlying359
 a233:=isAgg359
 z233:=sizeOf359
 v233:=zeroValue359
 g15:=by kernel_rfl
 g16:=by kernel_rfl
 g17:=by kernel_rfl
 g18:=by kernel_rfl
 g19:=by kernel_rfl }
open Go.RowKit in
theorem Tryz.strconv_Atoi (s:ByteArray) (n:Int) (hl:s.size≤18) (h:Lib.atoi s.data.toList=some n) (w:World):
 Calls Tryz.prog 264 #[.string s] w fun e w'=>e=.returned (.tuple #[.int .i64 n,.nilIface])∧∃ t,w'=Lib.bytesWorld w 5 t:=Any.strconv_Atoi Tryz.lays172 s n hl h w
def Tryz.lays190_ren:Go.Shelf.Ren:=⟨fun | 190=>79 | 125=>48 | 258=>144 | 128=>93 | 129=>94 | 302=>204 | 303=>205 | 304=>206 | 305=>207 | 306=>208 | 307=>209 | 308=>210 | 309=>211 | 310=>212 | 333=>240 | 329=>148 | 330=>149 | 334=>241 | 335=>242 | 336=>243 | 344=>259 | n=>n,fun | 31=>43 | 9=>9 | 3=>3 | 46=>108 | 0=>0 | 51=>148 | 53=>150 | 4=>4 | 183=>141 | 182=>140 | 131=>145 | 5=>5 | 218=>199 | 222=>203 | 228=>233 | 229=>234 | n=>n,fun | n=>n⟩
theorem Tryz.lays190:Go.Proofs.Lays.n190 Tryz.prog Tryz.lays190_ren:={
 mixed:=by kernel_rfl
 f125:=func48.trans (congrArg some (by kernel_rfl))
 f128:=func93.trans (congrArg some (by kernel_rfl))
 f129:=func94.trans (congrArg some (by kernel_rfl))
 f190:=func79.trans (congrArg some (by kernel_rfl))
 f258:=func144.trans (congrArg some (by kernel_rfl))
 f302:=func204.trans (congrArg some (by kernel_rfl))
 f303:=func205.trans (congrArg some (by kernel_rfl))
 f304:=func206.trans (congrArg some (by kernel_rfl))
 f305:=func207.trans (congrArg some (by kernel_rfl))
 f306:=func208.trans (congrArg some (by kernel_rfl))
 f307:=func209.trans (congrArg some (by kernel_rfl))
 f308:=func210.trans (congrArg some (by kernel_rfl))
 f309:=func211.trans (congrArg some (by kernel_rfl))
 f310:=func212.trans (congrArg some (by kernel_rfl))
 f329:=func148.trans (congrArg some (by kernel_rfl))
 f330:=func149.trans (congrArg some (by kernel_rfl))
 f333:=func240.trans (congrArg some (by kernel_rfl))
 f334:=func241.trans (congrArg some (by kernel_rfl))
 f335:=func242.trans (congrArg some (by kernel_rfl))
 f336:=func243.trans (congrArg some (by kernel_rfl))
 f344:=func259.trans (congrArg some (by kernel_rfl))
 t0:=underlying0
 a0:=isAgg0
 z0:=sizeOf0
 v0:=zeroValue0
 t3:=underlying3
 a3:=isAgg3
 z3:=sizeOf3
 v3:=zeroValue3
 t4:=underlying4
 a4:=isAgg4
 z4:=sizeOf4
 v4:=zeroValue4
 t5:=underlying5
 a5:=isAgg5
 z5:=sizeOf5
 v5:=zeroValue5
 t9:=underlying9
 a9:=isAgg9
 z9:=sizeOf9
 v9:=zeroValue9
 t31:=underlying43
 a31:=isAgg43
 z31:=sizeOf43
 v31:=zeroValue43
 t46:=underlying108
 a46:=isAgg108
 z46:=sizeOf108
 v46:=zeroValue108
 t51:=underlying148
 a51:=isAgg148
 z51:=sizeOf148
 v51:=zeroValue148
 t53:=underlying150
 a53:=isAgg150
 z53:=sizeOf150
 v53:=zeroValue150
 t131:=underlying145
 a131:=isAgg145
 z131:=sizeOf145
 v131:=zeroValue145
 t182:=underlying140
 a182:=isAgg140
 z182:=sizeOf140
 v182:=zeroValue140
 t183:=underlying141
 a183:=isAgg141
 z183:=sizeOf141
 v183:=zeroValue141
 t218:=underlying199
 a218:=isAgg199
 z218:=sizeOf199
 v218:=zeroValue199
 t222:=underlying203
 a222:=isAgg203
 z222:=sizeOf203
 v222:=zeroValue203
 t228:=underlying233
 a228:=isAgg233
 z228:=sizeOf233
 v228:=zeroValue233
 t229:=underlying234
 a229:=isAgg234
 z229:=sizeOf234
 v229:=zeroValue234 }
open Go.Sort Go.RowKit in
theorem Tryz.slices_Sort_string (blk off cap:Nat) (ss:List (List UInt8)) (w:World) (hH:Holds encStr w blk off ss.toArray) (hblk:blk < w.heap.size) (hsz:ss.length < 4611686018427387904):
 Calls Tryz.prog 79 #[.slice (some ⟨blk,off,none⟩) ss.length cap] w fun e w'=>
  e=.returned (.tuple #[])∧∃ n os,w'=grow (putRow encStr (Sort.ahead w n) blk off (ss.mergeSort fun x y=>decide (x≤y)).toArray) os:=Any.slices_Sort_string Tryz.lays190 blk off cap ss w hH hblk hsz
def Tryz.lays146_ren:Go.Shelf.Ren:=⟨fun | 146=>251 | 221=>273 | 268=>295 | 138=>296 | 143=>297 | 195=>310 | 197=>311 | 218=>312 | 219=>313 | 260=>319 | 217=>284 | 225=>309 | 224=>308 | 267=>320 | 266=>301 | 314=>324 | n=>n,fun | 9=>9 | 31=>43 | 3=>3 | 4=>4 | 0=>0 | 105=>329 | 21=>21 | 5=>5 | 46=>108 | 119=>344 | 139=>347 | 138=>346 | 146=>348 | 51=>148 | n=>n,fun | 1=>0 | 3=>3 | 4=>4 | n=>n⟩
theorem Tryz.lays146:Go.Proofs.Lays.n146 Tryz.prog Tryz.lays146_ren:={
 mixed:=by kernel_rfl
 f138:=func296.trans (congrArg some (by kernel_rfl))
 f143:=func297.trans (congrArg some (by kernel_rfl))
 f146:=func251.trans (congrArg some (by kernel_rfl))
 f195:=func310.trans (congrArg some (by kernel_rfl))
 f197:=func311.trans (congrArg some (by kernel_rfl))
 f217:=func284.trans (congrArg some (by kernel_rfl))
 f218:=func312.trans (congrArg some (by kernel_rfl))
 f219:=func313.trans (congrArg some (by kernel_rfl))
 f221:=func273.trans (congrArg some (by kernel_rfl))
 f224:=func308.trans (congrArg some (by kernel_rfl))
 f225:=func309.trans (congrArg some (by kernel_rfl))
 f260:=func319.trans (congrArg some (by kernel_rfl))
 f266:=func301.trans (congrArg some (by kernel_rfl))
 f267:=func320.trans (congrArg some (by kernel_rfl))
 f268:=func295.trans (congrArg some (by kernel_rfl))
 f314:=func324.trans (congrArg some (by kernel_rfl))
 t0:=underlying0
 a0:=isAgg0
 z0:=sizeOf0
 v0:=zeroValue0
 t3:=underlying3
 a3:=isAgg3
 z3:=sizeOf3
 v3:=zeroValue3
 t4:=underlying4
 a4:=isAgg4
 z4:=sizeOf4
 v4:=zeroValue4
 t5:=underlying5
 a5:=isAgg5
 z5:=sizeOf5
 v5:=zeroValue5
 t9:=underlying9
 a9:=isAgg9
 z9:=sizeOf9
 v9:=zeroValue9
 t21:=underlying21
 a21:=isAgg21
 z21:=sizeOf21
 v21:=zeroValue21
 t31:=underlying43
 a31:=isAgg43
 z31:=sizeOf43
 v31:=zeroValue43
 t46:=underlying108
 a46:=isAgg108
 z46:=sizeOf108
 v46:=zeroValue108
 t51:=underlying148
 a51:=isAgg148
 z51:=sizeOf148
 v51:=zeroValue148
 t105:=underlying329
 a105:=isAgg329
 z105:=sizeOf329
 v105:=zeroValue329
 t119:=underlying344
 a119:=isAgg344
 z119:=sizeOf344
 t138:=underlying346
 a138:=isAgg346
 z138:=sizeOf346
 v138:=zeroValue346
 t139:=underlying347
 a139:=isAgg347
 z139:=sizeOf347
 v139:=zeroValue347
 t146:=underlying348
 a146:=isAgg348
 z146:=sizeOf348
 v146:=zeroValue348
 g1:=by kernel_rfl
 g3:=by kernel_rfl
 g4:=by kernel_rfl }
def Tryz.lays153_ren:Go.Shelf.Ren:=⟨fun | 153=>265 | 152=>287 | 226=>288 | 227=>289 | 228=>290 | 137=>263 | 119=>307 | 224=>308 | 225=>309 | 217=>284 | 266=>301 | n=>n,fun | 9=>9 | 3=>3 | 4=>4 | 5=>5 | 21=>21 | 117=>312 | 116=>311 | 0=>0 | 46=>108 | 124=>327 | n=>n,fun | n=>n⟩
theorem Tryz.lays153:Go.Proofs.Lays.n153 Tryz.prog Tryz.lays153_ren:={
 mixed:=by kernel_rfl
 f119:=func307.trans (congrArg some (by kernel_rfl))
 f137:=func263.trans (congrArg some (by kernel_rfl))
 f152:=func287.trans (congrArg some (by kernel_rfl))
 f153:=func265.trans (congrArg some (by kernel_rfl))
 f217:=func284.trans (congrArg some (by kernel_rfl))
 f224:=func308.trans (congrArg some (by kernel_rfl))
 f225:=func309.trans (congrArg some (by kernel_rfl))
 f226:=func288.trans (congrArg some (by kernel_rfl))
 f227:=func289.trans (congrArg some (by kernel_rfl))
 f228:=func290.trans (congrArg some (by kernel_rfl))
 f266:=func301.trans (congrArg some (by kernel_rfl))
 t0:=underlying0
 a0:=isAgg0
 z0:=sizeOf0
 v0:=zeroValue0
 t3:=underlying3
 a3:=isAgg3
 z3:=sizeOf3
 v3:=zeroValue3
 t4:=underlying4
 a4:=isAgg4
 z4:=sizeOf4
 v4:=zeroValue4
 t5:=underlying5
 a5:=isAgg5
 z5:=sizeOf5
 v5:=zeroValue5
 t9:=underlying9
 a9:=isAgg9
 z9:=sizeOf9
 v9:=zeroValue9
 t21:=underlying21
 a21:=isAgg21
 z21:=sizeOf21
 v21:=zeroValue21
 t46:=underlying108
 a46:=isAgg108
 z46:=sizeOf108
 v46:=zeroValue108
 t116:=underlying311
 a116:=isAgg311
 z116:=sizeOf311
 t117:=underlying312
 a117:=isAgg312
 z117:=sizeOf312
 v117:=zeroValue312
 t124:=underlying327
 a124:=isAgg327
 z124:=sizeOf327
 v124:=zeroValue327 }
def Tryz.laysNm216_ren:Go.Shelf.Ren:=⟨fun | 16=>78 | n=>n,fun | 24=>43 | 9=>9 | 4=>4 | n=>n,fun | n=>n⟩
theorem Tryz.laysNm216:Go.Proofs.Lays2.n16 Tryz.prog Tryz.laysNm216_ren:={
 mixed:=by kernel_rfl
 f16:=func78.trans (congrArg some (by kernel_rfl))
 t4:=underlying4
 a4:=isAgg4
 z4:=sizeOf4
 v4:=zeroValue4
 t9:=underlying9
 a9:=isAgg9
 z9:=sizeOf9
 v9:=zeroValue9
 t24:=underlying43
 a24:=isAgg43
 z24:=sizeOf43
 v24:=zeroValue43
 i9:=by kernel_rfl }
open Go.RowKit Go.Lib in
theorem Tryz.slices_Clone_string_nil (n c:Nat) (w:World):
 Calls Tryz.prog 78 #[.slice none n c] w fun e w'=>e=.returned (.slice none 0 0)∧w'=w:=Any.slices_Clone_string_nil Tryz.laysNm216 n c w
open Go.RowKit Go.Lib in
theorem Tryz.slices_Clone_string_zero (a:Addr) (c:Nat) (w:World):
 Calls Tryz.prog 78 #[.slice (some a) 0 c] w fun e w'=>∃ v',e=.returned v'∧w'.ownsRow w.heap.size 9 1 v' 0 []∧v'≠.slice none 0 0∧Below w.heap.size w w':=Any.slices_Clone_string_zero Tryz.laysNm216 a c w
def Tryz.laysNm220_ren:Go.Shelf.Ren:=⟨fun | 20=>43 | n=>n,fun | 22=>50 | 3=>3 | 4=>4 | 0=>0 | n=>n,fun | n=>n⟩
theorem Tryz.laysNm220:Go.Proofs.Lays2.n20 Tryz.prog Tryz.laysNm220_ren:={
 mixed:=by kernel_rfl
 f20:=func43.trans (congrArg some (by kernel_rfl))
 t0:=underlying0
 a0:=isAgg0
 z0:=sizeOf0
 v0:=zeroValue0
 t3:=underlying3
 a3:=isAgg3
 z3:=sizeOf3
 v3:=zeroValue3
 t4:=underlying4
 a4:=isAgg4
 z4:=sizeOf4
 v4:=zeroValue4
 t22:=underlying50
 a22:=isAgg50
 z22:=sizeOf50
 v22:=zeroValue50
 i3:=by kernel_rfl }
open Go.RowKit Go.Lib Go.Sort in
theorem Tryz.slices_Compact_int (blk off cap:Nat) (zs:List Int) (w:World) (hH:Holds (Value.int .i64) w blk off zs.toArray) (hsz:zs.length≤9223372036854775807) (hcap:zs.length≤cap):
 Calls Tryz.prog 43 #[.slice (some ⟨blk,off,none⟩) zs.length cap] w fun e w'=>e=.returned (.slice (some ⟨blk,off,none⟩) (Lib.compact zs).length cap)∧∃ q,w'=putRow (Value.int .i64) (Sort.ahead w q) blk off (Lib.compact zs++List.replicate (zs.length - (Lib.compact zs).length) 0).toArray:=Any.slices_Compact_int Tryz.laysNm220 blk off cap zs w hH hsz hcap
open Go.RowKit Go.Lib Go.Sort in
theorem Tryz.slices_Compact_int_empty (a:Option Addr) (cap:Nat) (w:World):
 Calls Tryz.prog 43 #[.slice a 0 cap] w fun e w'=>e=.returned (.slice a 0 cap)∧w'=w:=Any.slices_Compact_int_empty Tryz.laysNm220 a cap w
def Tryz.lays194_ren:Go.Shelf.Ren:=⟨fun | 194=>80 | n=>n,fun | 31=>43 | 9=>9 | 3=>3 | 4=>4 | 0=>0 | n=>n,fun | n=>n⟩
theorem Tryz.lays194:Go.Proofs.Lays.n194 Tryz.prog Tryz.lays194_ren:={
 mixed:=by kernel_rfl
 f194:=func80.trans (congrArg some (by kernel_rfl))
 t0:=underlying0
 a0:=isAgg0
 z0:=sizeOf0
 v0:=zeroValue0
 t3:=underlying3
 a3:=isAgg3
 z3:=sizeOf3
 v3:=zeroValue3
 t4:=underlying4
 a4:=isAgg4
 z4:=sizeOf4
 v4:=zeroValue4
 t9:=underlying9
 a9:=isAgg9
 z9:=sizeOf9
 v9:=zeroValue9
 t31:=underlying43
 a31:=isAgg43
 z31:=sizeOf43
 v31:=zeroValue43 }
open Go.RowKit Go.Lib Go.Sort in
theorem Tryz.slices_Compact_string (blk off cap:Nat) (zs:List (List UInt8)) (w:World) (hH:Holds encStr w blk off zs.toArray) (hsz:zs.length≤9223372036854775807) (hcap:zs.length≤cap):
 Calls Tryz.prog 80 #[.slice (some ⟨blk,off,none⟩) zs.length cap] w fun e w'=>e=.returned (.slice (some ⟨blk,off,none⟩) (Lib.compact zs).length cap)∧∃ q,w'=putRow encStr (Sort.ahead w q) blk off (Lib.compact zs++List.replicate (zs.length - (Lib.compact zs).length) []).toArray:=Any.slices_Compact_string Tryz.lays194 blk off cap zs w hH hsz hcap
open Go.RowKit Go.Lib Go.Sort in
theorem Tryz.slices_Compact_string_empty (a:Option Addr) (cap:Nat) (w:World):
 Calls Tryz.prog 80 #[.slice a 0 cap] w fun e w'=>e=.returned (.slice a 0 cap)∧w'=w:=Any.slices_Compact_string_empty Tryz.lays194 a cap w
open Go.RowKit Go.Sort in
theorem Tryz.slices_Sort_string_none (p:Option Addr) (cap:Nat) (w:World):
 Calls Tryz.prog 79 #[.slice p 0 cap] w fun e w'=>e=.returned (.tuple #[])∧w'=w:=Any.slices_Sort_string_none Tryz.lays190 p cap w
def Tryz.laysSlE041_f78_ren:Go.Shelf.Ren:=⟨fun | 41=>78 | n=>n,fun | 22=>43 | 23=>9 | 4=>4 | n=>n,fun | n=>n⟩
theorem Tryz.laysSlE041_f78:Go.Proofs.SlLaysE0.n41 Tryz.prog Tryz.laysSlE041_f78_ren:={
 mixed:=by kernel_rfl
 f41:=⟨f78.name,by decide,func78.trans (congrArg some (by kernel_rfl))⟩
 t4:=underlying4
 a4:=isAgg4
 z4:=sizeOf4
 v4:=zeroValue4
 t22:=underlying43
 a22:=isAgg43
 z22:=sizeOf43
 v22:=zeroValue43 }
open Go.RowKit Go.Lib in
theorem Tryz.slices_Clone (i0:TypeInfo) (z:Value) (size bytes:Nat) (hi:Tryz.prog.info? 9=some i0) (hz0:i0.zero=some z) (hz1:i0.size=size) (hz2:i0.bytes=bytes) (hzs:z.cells.size=size) (hsz:0 < size) (z23:∀ w,(Go.sizeOf 9).run Tryz.prog w=.ok size w) (b off n c:Nat) (news:List Value) (w:World) (hl:news.length=n * size) (hn:n≤maxLen) (hbig:n * bytes≤140737488355328) (hc:∀ j u,news[j]? = some u→w.cell? ⟨b,off+j,none⟩=some u) (h1:∀ u∈news,u.oneCell'=true):
 Calls Tryz.prog 78 #[.slice (some ⟨b,off,none⟩) n c] w fun e w'=>∃ v',e=.returned v'∧w'.ownsRow w.heap.size 9 size v' n news∧v'≠.slice none 0 0∧Below w.heap.size w w':=AnyE.slices_Clone Tryz.laysSlE041_f78 i0 z size bytes hi hz0 hz1 hz2 hzs hsz z23 b off n c news w hl hn hbig hc h1
def Tryz.laysSlF06_f22_ren:Go.Shelf.Ren:=⟨fun | 6=>22 | 15=>48 | 14=>47 | 28=>93 | 29=>94 | 20=>85 | 21=>86 | 22=>87 | 23=>88 | 24=>89 | 25=>90 | 26=>91 | 27=>92 | 46=>147 | 47=>148 | 48=>149 | 49=>150 | 50=>151 | 57=>214 | n=>n,fun | 22=>25 | 24=>55 | 25=>75 | 3=>3 | 39=>108 | 0=>0 | 53=>148 | 55=>150 | 4=>4 | 46=>141 | 45=>140 | 50=>145 | 5=>5 | 9=>9 | 66=>199 | 70=>203 | 76=>233 | 77=>234 | n=>n,fun | n=>n⟩
theorem Tryz.laysSlF06_f22:Go.Proofs.SlLaysF0.n6 Tryz.prog Tryz.laysSlF06_f22_ren:={
 mixed:=by kernel_rfl
 f6:=⟨f22.name,by decide,func22.trans (congrArg some (by kernel_rfl))⟩
 f14:=⟨f47.name,by decide,func47.trans (congrArg some (by kernel_rfl))⟩
 f15:=func48.trans (congrArg some (by kernel_rfl))
 f20:=⟨f85.name,by decide,func85.trans (congrArg some (by kernel_rfl))⟩
 f21:=⟨f86.name,by decide,func86.trans (congrArg some (by kernel_rfl))⟩
 f22:=⟨f87.name,by decide,func87.trans (congrArg some (by kernel_rfl))⟩
 f23:=⟨f88.name,by decide,func88.trans (congrArg some (by kernel_rfl))⟩
 f24:=⟨f89.name,by decide,func89.trans (congrArg some (by kernel_rfl))⟩
 f25:=⟨f90.name,by decide,func90.trans (congrArg some (by kernel_rfl))⟩
 f26:=⟨f91.name,by decide,func91.trans (congrArg some (by kernel_rfl))⟩
 f27:=⟨f92.name,by decide,func92.trans (congrArg some (by kernel_rfl))⟩
 f28:=func93.trans (congrArg some (by kernel_rfl))
 f29:=func94.trans (congrArg some (by kernel_rfl))
 f46:=⟨f147.name,by decide,func147.trans (congrArg some (by kernel_rfl))⟩
 f47:=func148.trans (congrArg some (by kernel_rfl))
 f48:=func149.trans (congrArg some (by kernel_rfl))
 f49:=⟨f150.name,by decide,func150.trans (congrArg some (by kernel_rfl))⟩
 f50:=⟨f151.name,by decide,func151.trans (congrArg some (by kernel_rfl))⟩
 f57:=⟨f214.name,by decide,func214.trans (congrArg some (by kernel_rfl))⟩
 t0:=underlying0
 a0:=isAgg0
 z0:=sizeOf0
 v0:=zeroValue0
 t3:=underlying3
 a3:=isAgg3
 z3:=sizeOf3
 v3:=zeroValue3
 t4:=underlying4
 a4:=isAgg4
 z4:=sizeOf4
 v4:=zeroValue4
 t5:=underlying5
 a5:=isAgg5
 z5:=sizeOf5
 v5:=zeroValue5
 t9:=underlying9
 a9:=isAgg9
 z9:=sizeOf9
 v9:=zeroValue9
 t22:=underlying25
 a22:=isAgg25
 z22:=sizeOf25
 v22:=zeroValue25
 t25:=underlying75
 a25:=isAgg75
 z25:=sizeOf75
 v25:=zeroValue75
 t39:=underlying108
 a39:=isAgg108
 z39:=sizeOf108
 v39:=zeroValue108
 t45:=underlying140
 a45:=isAgg140
 z45:=sizeOf140
 v45:=zeroValue140
 t46:=underlying141
 a46:=isAgg141
 z46:=sizeOf141
 v46:=zeroValue141
 t50:=underlying145
 a50:=isAgg145
 z50:=sizeOf145
 v50:=zeroValue145
 t53:=underlying148
 a53:=isAgg148
 z53:=sizeOf148
 v53:=zeroValue148
 t55:=underlying150
 a55:=isAgg150
 z55:=sizeOf150
 v55:=zeroValue150
 t66:=underlying199
 a66:=isAgg199
 z66:=sizeOf199
 v66:=zeroValue199
 t70:=underlying203
 a70:=isAgg203
 z70:=sizeOf203
 v70:=zeroValue203
 t76:=underlying233
 a76:=isAgg233
 z76:=sizeOf233
 v76:=zeroValue233
 t77:=underlying234
 a77:=isAgg234
 z77:=sizeOf234
 v77:=zeroValue234 }
open Go.RowKit Go.Lib Go.Sort in
theorem Tryz.slices_SortFunc {α:Type} [Inhabited α] (k:Nat) (aE:∀ w,(isAgg 55).run Tryz.prog w=.ok true w) (zE:∀ w,(Go.sizeOf 55).run Tryz.prog w=.ok k w) (enc:α→List Value) (hk:∀ x,(enc x).length=k) (h1:∀ x,∀ v∈enc x,v.oneCell'=true) (cf:α→α→Int) (hO:SWO (ltOf cf)) (g:Nat) (cb:Array Value) (blk off cap:Nat) (d:Array α) (w:World) (eg:∀ args w,(callFunc g args).run Tryz.prog w=.ok (.enter g args) w) (hcmp:CmpLays Tryz.prog g cb enc k cf blk off d.size w) (hH:HoldsK enc k w blk off d) (hblk:blk < w.heap.size) (hsz:d.size < 4611686018427387904):
 Calls Tryz.prog 22 #[.slice (some ⟨blk,off,none⟩) d.size cap,.func (.func g) #[] cb] w fun e w'=>
  e=.returned (.tuple #[])∧∃ d' n os,PermIn 0 d.size d d'∧SortedIn (ltOf cf) 0 d.size d'∧w'=sortWorldK enc k w blk off n d' os:=AnyQ.slices_SortFunc Tryz.laysSlF06_f22 k aE zE enc hk h1 cf hO g cb blk off cap d w eg hcmp hH hblk hsz
open Go.RowKit Go.Lib Go.Sort in
theorem Tryz.slices_SortFunc_none {α:Type} [Inhabited α] (p:Option Addr) (cap:Nat) (fv:Value) (w:World):
 Calls Tryz.prog 22 #[.slice p 0 cap,fv] w fun e w'=>e=.returned (.tuple #[])∧w'=w:=AnyF.slices_SortFunc_none Tryz.laysSlF06_f22 p cap fv w
end Go.Proofs
namespace Go.Proofs
open Go.Proofs.Tryz
open Go.RowKit Go.Maps Go.Sort Go.Shelf
def Tryz.keys185_ren:Go.Shelf.Ren:=⟨fun | 7=>185 | 10=>237 | n=>n,fun | 23=>124 | 26=>3 | 3=>4 | 28=>158 | 0=>0 | 27=>157 | 33=>109 | 4=>4 | n=>n,fun | n=>n⟩
theorem Tryz.keys185:Go.Proofs.SlLaysZI.n7 Tryz.prog Tryz.keys185_ren:={
 mixed:=by kernel_rfl
 f7:=⟨f185.name,by decide,func185.trans (congrArg some (by kernel_rfl))⟩
 f10:=⟨f237.name,by decide,func237.trans (congrArg some (by kernel_rfl))⟩
 t0:=underlying0
 a0:=isAgg0
 z0:=sizeOf0
 v0:=zeroValue0
 t4:=underlying4
 a4:=isAgg4
 z4:=sizeOf4
 v4:=zeroValue4
 t23:=underlying124
 a23:=isAgg124
 z23:=sizeOf124
 v23:=zeroValue124
 t26:=underlying3
 a26:=isAgg3
 z26:=sizeOf3
 v26:=zeroValue3
 t27:=underlying157
 a27:=isAgg157
 z27:=sizeOf157
 v27:=zeroValue157
 t28:=underlying158
 a28:=isAgg158
 z28:=sizeOf158
 v28:=zeroValue158
 t33:=underlying109
 a33:=isAgg109
 z33:=sizeOf109
 v33:=zeroValue109 }
def Tryz.sorted184_ren:Go.Shelf.Ren:=⟨fun | 6=>184 | 8=>235 | 9=>236 | 11=>257 | 13=>48 | 12=>258 | 23=>93 | 24=>94 | 14=>275 | 15=>276 | 16=>277 | 17=>278 | 18=>279 | 19=>280 | 20=>281 | 21=>282 | 22=>283 | 25=>298 | 26=>148 | 27=>149 | 28=>299 | 29=>300 | 30=>49 | 31=>314 | n=>n,fun | 26=>3 | 28=>158 | 24=>50 | 0=>0 | 3=>3 | 37=>108 | 48=>148 | 50=>150 | 4=>4 | 40=>141 | 39=>140 | 45=>145 | 5=>5 | 9=>9 | 51=>199 | 55=>203 | 57=>233 | 58=>234 | 33=>109 | n=>n,fun | n=>n⟩
theorem Tryz.sorted184:Go.Proofs.SlLaysZI.n6 Tryz.prog Tryz.sorted184_ren:={
 mixed:=by kernel_rfl
 f6:=⟨f184.name,by decide,func184.trans (congrArg some (by kernel_rfl))⟩
 f8:=⟨f235.name,by decide,func235.trans (congrArg some (by kernel_rfl))⟩
 f11:=⟨f257.name,by decide,func257.trans (congrArg some (by kernel_rfl))⟩
 t0:=underlying0
 a0:=isAgg0
 z0:=sizeOf0
 v0:=zeroValue0
 t24:=underlying50
 a24:=isAgg50
 z24:=sizeOf50
 v24:=zeroValue50
 t26:=underlying3
 a26:=isAgg3
 z26:=sizeOf3
 v26:=zeroValue3
 t28:=underlying158
 a28:=isAgg158
 z28:=sizeOf158
 v28:=zeroValue158
 i26:=by kernel_rfl }
def Tryz.sort236_ren:Go.Shelf.Ren:=⟨fun | 5=>236 | 8=>48 | 7=>258 | 19=>93 | 20=>94 | 10=>275 | 11=>276 | 12=>277 | 13=>278 | 14=>279 | 15=>280 | 16=>281 | 17=>282 | 18=>283 | 30=>298 | 31=>148 | 32=>149 | 33=>299 | 34=>300 | 35=>49 | 40=>314 | n=>n,fun | 23=>50 | 25=>3 | 3=>3 | 32=>108 | 22=>50 | 0=>0 | 44=>148 | 46=>150 | 4=>4 | 36=>141 | 35=>140 | 41=>145 | 5=>5 | 9=>9 | 53=>199 | 57=>203 | 63=>233 | 64=>234 | n=>n,fun | n=>n⟩
theorem Tryz.sort236:Go.Proofs.SlLaysM.n5 Tryz.prog Tryz.sort236_ren:={
 mixed:=by kernel_rfl
 f5:=⟨f236.name,by decide,func236.trans (congrArg some (by kernel_rfl))⟩
 f7:=⟨f258.name,by decide,func258.trans (congrArg some (by kernel_rfl))⟩
 f8:=func48.trans (congrArg some (by kernel_rfl))
 f10:=⟨f275.name,by decide,func275.trans (congrArg some (by kernel_rfl))⟩
 f11:=⟨f276.name,by decide,func276.trans (congrArg some (by kernel_rfl))⟩
 f12:=⟨f277.name,by decide,func277.trans (congrArg some (by kernel_rfl))⟩
 f13:=⟨f278.name,by decide,func278.trans (congrArg some (by kernel_rfl))⟩
 f14:=⟨f279.name,by decide,func279.trans (congrArg some (by kernel_rfl))⟩
 f15:=⟨f280.name,by decide,func280.trans (congrArg some (by kernel_rfl))⟩
 f16:=⟨f281.name,by decide,func281.trans (congrArg some (by kernel_rfl))⟩
 f17:=⟨f282.name,by decide,func282.trans (congrArg some (by kernel_rfl))⟩
 f18:=⟨f283.name,by decide,func283.trans (congrArg some (by kernel_rfl))⟩
 f19:=func93.trans (congrArg some (by kernel_rfl))
 f20:=func94.trans (congrArg some (by kernel_rfl))
 f30:=⟨f298.name,by decide,func298.trans (congrArg some (by kernel_rfl))⟩
 f31:=func148.trans (congrArg some (by kernel_rfl))
 f32:=func149.trans (congrArg some (by kernel_rfl))
 f33:=⟨f299.name,by decide,func299.trans (congrArg some (by kernel_rfl))⟩
 f34:=⟨f300.name,by decide,func300.trans (congrArg some (by kernel_rfl))⟩
 f35:=⟨f49.name,by decide,func49.trans (congrArg some (by kernel_rfl))⟩
 f40:=⟨f314.name,by decide,func314.trans (congrArg some (by kernel_rfl))⟩
 t0:=underlying0
 a0:=isAgg0
 z0:=sizeOf0
 v0:=zeroValue0
 t3:=underlying3
 a3:=isAgg3
 z3:=sizeOf3
 v3:=zeroValue3
 t4:=underlying4
 a4:=isAgg4
 z4:=sizeOf4
 v4:=zeroValue4
 t5:=underlying5
 a5:=isAgg5
 z5:=sizeOf5
 v5:=zeroValue5
 t9:=underlying9
 a9:=isAgg9
 z9:=sizeOf9
 v9:=zeroValue9
 t22:=underlying50
 a22:=isAgg50
 z22:=sizeOf50
 v22:=zeroValue50
 t23:=underlying50
 a23:=isAgg50
 z23:=sizeOf50
 v23:=zeroValue50
 t25:=underlying3
 a25:=isAgg3
 z25:=sizeOf3
 v25:=zeroValue3
 t32:=underlying108
 a32:=isAgg108
 z32:=sizeOf108
 v32:=zeroValue108
 t35:=underlying140
 a35:=isAgg140
 z35:=sizeOf140
 v35:=zeroValue140
 t36:=underlying141
 a36:=isAgg141
 z36:=sizeOf141
 v36:=zeroValue141
 t41:=underlying145
 a41:=isAgg145
 z41:=sizeOf145
 v41:=zeroValue145
 t44:=underlying148
 a44:=isAgg148
 z44:=sizeOf148
 v44:=zeroValue148
 t46:=underlying150
 a46:=isAgg150
 z46:=sizeOf150
 v46:=zeroValue150
 t53:=underlying199
 a53:=isAgg199
 z53:=sizeOf199
 v53:=zeroValue199
 t57:=underlying203
 a57:=isAgg203
 z57:=sizeOf203
 v57:=zeroValue203
 t63:=underlying233
 a63:=isAgg233
 z63:=sizeOf233
 v63:=zeroValue233
 t64:=underlying234
 a64:=isAgg234
 z64:=sizeOf234
 v64:=zeroValue234 }
def Tryz.laysSlE041_f182_ren:Go.Shelf.Ren:=⟨fun | 41=>182 | n=>n,fun | 22=>59 | 23=>58 | 4=>4 | n=>n,fun | n=>n⟩
theorem Tryz.laysSlE041_f182:Go.Proofs.SlLaysE0.n41 Tryz.prog Tryz.laysSlE041_f182_ren:={
 mixed:=by kernel_rfl
 f41:=⟨f182.name,by decide,func182.trans (congrArg some (by kernel_rfl))⟩
 t4:=underlying4
 a4:=isAgg4
 z4:=sizeOf4
 v4:=zeroValue4
 t22:=underlying59
 a22:=isAgg59
 z22:=sizeOf59
 v22:=zeroValue59 }
def Tryz.laysSlE041_f191_ren:Go.Shelf.Ren:=⟨fun | 41=>191 | n=>n,fun | 22=>27 | 23=>67 | 4=>4 | n=>n,fun | n=>n⟩
theorem Tryz.laysSlE041_f191:Go.Proofs.SlLaysE0.n41 Tryz.prog Tryz.laysSlE041_f191_ren:={
 mixed:=by kernel_rfl
 f41:=⟨f191.name,by decide,func191.trans (congrArg some (by kernel_rfl))⟩
 t4:=underlying4
 a4:=isAgg4
 z4:=sizeOf4
 v4:=zeroValue4
 t22:=underlying27
 a22:=isAgg27
 z22:=sizeOf27
 v22:=zeroValue27 }
def Tryz.laysSlE041_f192_ren:Go.Shelf.Ren:=⟨fun | 41=>192 | n=>n,fun | 22=>28 | 23=>83 | 4=>4 | n=>n,fun | n=>n⟩
theorem Tryz.laysSlE041_f192:Go.Proofs.SlLaysE0.n41 Tryz.prog Tryz.laysSlE041_f192_ren:={
 mixed:=by kernel_rfl
 f41:=⟨f192.name,by decide,func192.trans (congrArg some (by kernel_rfl))⟩
 t4:=underlying4
 a4:=isAgg4
 z4:=sizeOf4
 v4:=zeroValue4
 t22:=underlying28
 a22:=isAgg28
 z22:=sizeOf28
 v22:=zeroValue28 }
def Tryz.laysSlE041_f195_ren:Go.Shelf.Ren:=⟨fun | 41=>195 | n=>n,fun | 22=>30 | 23=>87 | 4=>4 | n=>n,fun | n=>n⟩
theorem Tryz.laysSlE041_f195:Go.Proofs.SlLaysE0.n41 Tryz.prog Tryz.laysSlE041_f195_ren:={
 mixed:=by kernel_rfl
 f41:=⟨f195.name,by decide,func195.trans (congrArg some (by kernel_rfl))⟩
 t4:=underlying4
 a4:=isAgg4
 z4:=sizeOf4
 v4:=zeroValue4
 t22:=underlying30
 a22:=isAgg30
 z22:=sizeOf30
 v22:=zeroValue30 }
def Tryz.laysSlE041_f198_ren:Go.Shelf.Ren:=⟨fun | 41=>198 | n=>n,fun | 22=>29 | 23=>85 | 4=>4 | n=>n,fun | n=>n⟩
theorem Tryz.laysSlE041_f198:Go.Proofs.SlLaysE0.n41 Tryz.prog Tryz.laysSlE041_f198_ren:={
 mixed:=by kernel_rfl
 f41:=⟨f198.name,by decide,func198.trans (congrArg some (by kernel_rfl))⟩
 t4:=underlying4
 a4:=isAgg4
 z4:=sizeOf4
 v4:=zeroValue4
 t22:=underlying29
 a22:=isAgg29
 z22:=sizeOf29
 v22:=zeroValue29 }
def Tryz.laysSlE041_f201_ren:Go.Shelf.Ren:=⟨fun | 41=>201 | n=>n,fun | 22=>31 | 23=>90 | 4=>4 | n=>n,fun | n=>n⟩
theorem Tryz.laysSlE041_f201:Go.Proofs.SlLaysE0.n41 Tryz.prog Tryz.laysSlE041_f201_ren:={
 mixed:=by kernel_rfl
 f41:=⟨f201.name,by decide,func201.trans (congrArg some (by kernel_rfl))⟩
 t4:=underlying4
 a4:=isAgg4
 z4:=sizeOf4
 v4:=zeroValue4
 t22:=underlying31
 a22:=isAgg31
 z22:=sizeOf31
 v22:=zeroValue31 }
theorem Tryz.sorts184 (m:Nat):AnyZI.SortsIn Tryz.prog Tryz.sorted184_ren Fence.wide m:=
 ⟨fun blk off cap ss W hH hblk hsz=>callsIn_wide.2 (AnyM.slices_Sort_int Tryz.sort236 blk off cap ss W hH hblk hsz),
  fun p cap W=>callsIn_wide.2 (AnyM.slices_Sort_int_none Tryz.sort236 p cap W)⟩
set_option maxHeartbeats 1000000 in
theorem Tryz.sorted_ints (Bm b nn:Nat) (D0:DataW Unit) (R:Value→Option (DataW Unit×List MemPlace)) (w:World) (hBm:Bm < w.heap.size) (hm:w.cell? ⟨Bm,0,none⟩=some (.map (some b))) (hown:w.ownsMap Tryz.prog 3 R b nn D0) (hmax:Maps.size D0≤maxLen) (hbytes:Maps.size D0 * 8≤140737488355328):
 Calls Tryz.prog 184 #[.func (.func 237) #[] #[.pointer (some ⟨Bm,0,none⟩)]] w fun e w'=>∃ (v:Value) (ss:List Int),e=.returned v∧ss.Perm (intKeys D0)∧
  w'.ownsRow w.heap.size 3 1 v ss.length ((ss.mergeSort (fun x y=>decide (x≤y))).map encZ)∧(v=.slice none 0 0↔ss=[])∧Below w.heap.size w w':=by
 refine (callsIn_wide (n:=5)).1 ?_;have hseq:SeqGives Fence.wide 2 Tryz.prog 237 #[.pointer (some ⟨Bm,0,none⟩)] encZ (fun ss=>ss.Perm (intKeys D0)) (Maps.size D0) w:=
  AnyZI.keys_gives (ρ:=Tryz.keys185_ren) { Tryz.keys185 with } Fence.wide _ trivial rfl (by omega) Bm b nn D0 w hBm hm hown
 exact AnyZI.sorted_in Tryz.sorted184 Fence.wide 5 trivial trivial trivial trivial rfl (by omega) (Tryz.sorts184 _) (enters_of func236 (by kernel_rfl) rfl) 237 #[.pointer (some ⟨Bm,0,none⟩)] trivial (enters_of func237 (by kernel_rfl) rfl) _ _ hmax hbytes _ hseq
end Go.Proofs
namespace Go.Proofs.YtjhbjnlomnfceaaGreatDoor
open Go.Proofs.Tryz
open Go.AM
theorem ZC6:Qn Tryz.prog rE 79 J7:=EV (Go.Proofs.enters_of func79 (by kernel_rfl) rfl) (fun blk off cap ss w hH hb hs=>Go.Proofs.Tryz.slices_Sort_string blk off cap ss w hH hb hs) (fun p cap w=>Go.Proofs.Tryz.slices_Sort_string_none p cap w)
theorem ZC7:Qn Tryz.prog rE 80 J8:=EY (Go.Proofs.enters_of func80 (by kernel_rfl) rfl) (fun blk off cap zs w hH h1 h2=>Go.Proofs.Tryz.slices_Compact_string blk off cap zs w hH h1 h2) (fun p cap w=>Go.Proofs.Tryz.slices_Compact_string_empty p cap w)
theorem Z8f:Qn Tryz.prog rE 263 U9:=EK (Go.Proofs.enters_of func263 (by kernel_rfl) rfl) (fun s c w=>Go.Proofs.Tryz.strings_IndexByte s c w)
theorem JN {P:Go.Program} {e:Go.TypeId} {sz bytes:Nat} (h:(match P.info? e with | some i=>(match i.zero with | some z=>z.cells.size==sz&&(i.size==sz&&i.bytes==bytes) | none=>false) | none=>false)=true):
 ∃ i0 z,P.info? e=some i0∧i0.zero=some z∧i0.size=sz∧i0.bytes=bytes∧z.cells.size=sz:=by
 split at h
 ·rename_i i hi;split at h
  ·rename_i z hz;simp only [Bool.and_eq_true,beq_iff_eq] at h;exact ⟨i,z,hi,hz,h.2.1,h.2.2,h.1⟩
  ·cases h
 ·cases h
theorem Z7A:Qn Tryz.prog rE 191 (YL 6):=by
 obtain ⟨i0,z,a1,a2,a3,a4,a5⟩:=JN (P:=Tryz.prog) (e:=Go.Proofs.Tryz.laysSlE041_f191_ren.t 23) (sz:=6) (bytes:=88) (by kernel_rfl)
 exact Ud (bytes:=88) (by decide) (by decide) (Go.Proofs.enters_of func191 (by kernel_rfl) rfl) (fun b off n c news w h1 h2 h3 h4 h5=>Go.Proofs.AnyE.slices_Clone Go.Proofs.Tryz.laysSlE041_f191 i0 z 6 88 a1 a2 a3 a4 a5 (by decide) (fun w=>by kernel_rfl) b off n c news w h1 h2 h3 h4 h5)
theorem Z7B:Qn Tryz.prog rE 192 (YL 5):=by
 obtain ⟨i0,z,a1,a2,a3,a4,a5⟩:=JN (P:=Tryz.prog) (e:=Go.Proofs.Tryz.laysSlE041_f192_ren.t 23) (sz:=5) (bytes:=80) (by kernel_rfl)
 exact Ud (bytes:=80) (by decide) (by decide) (Go.Proofs.enters_of func192 (by kernel_rfl) rfl) (fun b off n c news w h1 h2 h3 h4 h5=>Go.Proofs.AnyE.slices_Clone Go.Proofs.Tryz.laysSlE041_f192 i0 z 5 80 a1 a2 a3 a4 a5 (by decide) (fun w=>by kernel_rfl) b off n c news w h1 h2 h3 h4 h5)
theorem Z7E:Qn Tryz.prog rE 195 (YL 16):=by
 obtain ⟨i0,z,a1,a2,a3,a4,a5⟩:=JN (P:=Tryz.prog) (e:=Go.Proofs.Tryz.laysSlE041_f195_ren.t 23) (sz:=16) (bytes:=184) (by kernel_rfl)
 exact Ud (bytes:=184) (by decide) (by decide) (Go.Proofs.enters_of func195 (by kernel_rfl) rfl) (fun b off n c news w h1 h2 h3 h4 h5=>Go.Proofs.AnyE.slices_Clone Go.Proofs.Tryz.laysSlE041_f195 i0 z 16 184 a1 a2 a3 a4 a5 (by decide) (fun w=>by kernel_rfl) b off n c news w h1 h2 h3 h4 h5)
theorem Z7H:Qn Tryz.prog rE 198 (YL 4):=by
 obtain ⟨i0,z,a1,a2,a3,a4,a5⟩:=JN (P:=Tryz.prog) (e:=Go.Proofs.Tryz.laysSlE041_f198_ren.t 23) (sz:=4) (bytes:=56) (by kernel_rfl)
 exact Ud (bytes:=56) (by decide) (by decide) (Go.Proofs.enters_of func198 (by kernel_rfl) rfl) (fun b off n c news w h1 h2 h3 h4 h5=>Go.Proofs.AnyE.slices_Clone Go.Proofs.Tryz.laysSlE041_f198 i0 z 4 56 a1 a2 a3 a4 a5 (by decide) (fun w=>by kernel_rfl) b off n c news w h1 h2 h3 h4 h5)
theorem Z7K:Qn Tryz.prog rE 201 (YL 6):=by
 obtain ⟨i0,z,a1,a2,a3,a4,a5⟩:=JN (P:=Tryz.prog) (e:=Go.Proofs.Tryz.laysSlE041_f201_ren.t 23) (sz:=6) (bytes:=72) (by kernel_rfl)
 exact Ud (bytes:=72) (by decide) (by decide) (Go.Proofs.enters_of func201 (by kernel_rfl) rfl) (fun b off n c news w h1 h2 h3 h4 h5=>Go.Proofs.AnyE.slices_Clone Go.Proofs.Tryz.laysSlE041_f201 i0 z 6 72 a1 a2 a3 a4 a5 (by decide) (fun w=>by kernel_rfl) b off n c news w h1 h2 h3 h4 h5)
theorem Z7r:Qn Tryz.prog rE 182 (YL 2):=by
 obtain ⟨i0,z,a1,a2,a3,a4,a5⟩:=JN (P:=Tryz.prog) (e:=Go.Proofs.Tryz.laysSlE041_f182_ren.t 23) (sz:=2) (bytes:=16) (by kernel_rfl)
 exact Ud (bytes:=16) (by decide) (by decide) (Go.Proofs.enters_of func182 (by kernel_rfl) rfl) (fun b off n c news w h1 h2 h3 h4 h5=>Go.Proofs.AnyE.slices_Clone Go.Proofs.Tryz.laysSlE041_f182 i0 z 2 16 a1 a2 a3 a4 a5 (by decide) (fun w=>by kernel_rfl) b off n c news w h1 h2 h3 h4 h5)
theorem Z7t:Qn Tryz.prog rE 184 (ZoZ 237):=Zq6 (kt:=3) (by kernel_rfl) (Go.Proofs.enters_of func184 (by kernel_rfl) rfl) (fun Bm b nn D0 R w h1 h2 h3 h4 h5=>Go.Proofs.Tryz.sorted_ints Bm b nn D0 R w h1 h2 h3 h4 h5)
theorem ZC8:Qn Tryz.prog rE 78 J9:=by
 obtain ⟨i0,z,a1,a2,a3,a4,a5⟩:=JN (P:=Tryz.prog) (e:=9) (sz:=1) (bytes:=16) (by kernel_rfl)
 exact EZ (el:=9) (Go.Proofs.enters_of func78 (by kernel_rfl) rfl) (fun b off n c news w h1 h2 h3 h4 h5=>Go.Proofs.Tryz.slices_Clone i0 z 1 16 a1 a2 a3 a4 a5 (by decide) (fun w=>by kernel_rfl) b off n c news w h1 h2 h3 h4 h5)
  (fun n c w=>Go.Proofs.Tryz.slices_Clone_string_nil n c w) (fun a c w=>Go.Proofs.Tryz.slices_Clone_string_zero a c w)
theorem ZC9:Qn Tryz.prog rE 251 Ja:=I2 (el:=9) (Go.Proofs.enters_of func251 (by kernel_rfl) rfl) (fun s x w hs=>Go.Proofs.Z9R Go.Proofs.Tryz.lays146 (by kernel_rfl) s x w hs)
theorem Z8g:Qn Tryz.prog rE 264 J5:=EM (Go.Proofs.enters_of func264 (by kernel_rfl) rfl) (fun s n w h1 h2=>(Go.Proofs.Tryz.strconv_Atoi s n h1 h2 w).mono (by
 rintro e w' ⟨rfl,t,rfl⟩;exact ⟨rfl,Go.Lib.bytesWorld_below w _ t⟩))
theorem Z6v:Qn Tryz.prog rE 43 ZvY:=ZzZ (Go.Proofs.enters_of func43 (by kernel_rfl) rfl) (fun blk off cap zs w hH h1 h2=>Go.Proofs.Tryz.slices_Compact_int blk off cap zs w hH h1 h2) (fun p cap w=>Go.Proofs.Tryz.slices_Compact_int_empty p cap w)
theorem ZCa:OkL Tryz.prog Zz9:=ZCg _ (by kernel_rfl)
theorem ZCb (f:Nat) (q:AFun) (h:Zza f=some q):Z0 Tryz.prog f q:=ZjX ZCa h
theorem ZCc:@EnvOk dT Tryz.prog e0:=@EnvOk.mk dT Tryz.prog e0 (fun _=>rfl) (fun f q h=>ZCb f q h) (fun f s h=>by cases h)
theorem ZCd:Qn Tryz.prog rE 22 (ZvW 23 2 ZvF):=ZzO (by decide) ZCc (fun _=>rfl) rfl (Go.Proofs.enters_of func22 (by kernel_rfl) rfl) ZA8
 (fun enc hk h1 cf hO cb blk off cap d w hcmp hH hblk hsz=>Go.Proofs.Tryz.slices_SortFunc 2 (fun w=>by kernel_rfl) (fun w=>by kernel_rfl) enc hk h1 cf hO 23 cb blk off cap d w (Go.Proofs.enters_of func23 (by kernel_rfl) rfl) hcmp hH hblk hsz)
 (fun p cap fv w=>Go.Proofs.Tryz.slices_SortFunc_none (α:=Nat) p cap fv w)
end Go.Proofs.YtjhbjnlomnfceaaGreatDoor
namespace Go.Proofs.YtjhbjnlomnfceaaGreatDoor
open Go.AM
theorem ZCe:Qn Tryz.prog rE 265 J6:=EN (Go.Proofs.enters_of Tryz.func265 (by kernel_rfl) rfl) (fun s c w hs h2 ha=>Go.Proofs.Z9S Go.Proofs.Tryz.lays153 (by kernel_rfl) (by kernel_rfl) s c w hs h2 ha)
theorem brS {α:Type} {b:Bool} {x y:Option α} {q:α} {G:Prop} (h:(bif b then x else y)=some q) (h1:x=some q→G) (h2:y=some q→G):G:=by
 cases b with
 | true=>exact h1 h
 | false=>exact h2 h
theorem lfS {P:Go.Program} {E:Env} {f k:Nat} {a q:List AV→Hp→Option (AV×Hp)} {r:Option (List AV→Hp→Option (AV×Hp))} (h:(bif Nat.beq f k then some a else r)=some q) (g:Qn P E k a) (e:r=some q→Qn P E f q):Qn P E f q:=by
 cases hb:Nat.beq f k with
 | true=>
  rw [hb] at h;obtain rfl:a=q:=Option.some.inj h;rw [Nat.eq_of_beq_eq_true hb];exact g
 | false=>
  rw [hb] at h;exact e h
theorem nnS {f:Nat} {q:List AV→Hp→Option (AV×Hp)} {P:Go.Program} {E:Env} (h:(none:Option (List AV→Hp→Option (AV×Hp)))=some q):Qn P E f q:=by cases h
theorem Cd (f:Nat) (s:List AV→Hp→Option (AV×Hp)) (h:rE.sum f=some s):Qn Tryz.prog rE f s:=by
 change N8 f=some s at h;unfold N8 at h;exact (brS h (fun h=>(brS h (fun h=>(brS h (fun h=>(brS h (fun h=>(lfS h ZCd nnS)) (fun h=>(lfS h Z6v nnS)))) (fun h=>(brS h (fun h=>(lfS h ZC8 nnS)) (fun h=>(lfS h ZC6 nnS)))))) (fun h=>(brS h (fun h=>(brS h (fun h=>(lfS h ZC7 nnS)) (fun h=>(lfS h Z7r nnS)))) (fun h=>(brS h (fun h=>(lfS h Z7t nnS)) (fun h=>(lfS h Z7A nnS)))))))) (fun h=>(brS h (fun h=>(brS h (fun h=>(brS h (fun h=>(lfS h Z7B nnS)) (fun h=>(lfS h Z7E nnS)))) (fun h=>(brS h (fun h=>(lfS h Z7H nnS)) (fun h=>(lfS h Z7K nnS)))))) (fun h=>(brS h (fun h=>(brS h (fun h=>(lfS h ZC9 nnS)) (fun h=>(lfS h Z8f nnS)))) (fun h=>(brS h (fun h=>(lfS h Z8g nnS)) (fun h=>(lfS h ZCe nnS)))))))))
theorem Z9o:EnvOk Tryz.prog rE:=⟨fun _=>rfl,fun f q h=>Z98 f q h,Cd⟩
theorem Z9l (W:Go.World):GlR rE T0 (X0 Tryz.prog) W:=fun g=>trivial
theorem ZCK:sig Tryz.prog 10 Tryz.f3.params.toList=some ZCj:=by kernel_rfl
theorem historyGoesOn_card:Rows.HistoryGoesOnCardSaid:=ZCI Z9o Z9l (n:=10) (S:=ZCj) rfl ZCK ZCJ
end Go.Proofs.YtjhbjnlomnfceaaGreatDoor
