/- ClaimsPoints holds for all its arguments. No condition. -/
import Derived.Test.YtnfppojnmdohnaaGreatDoorT16
import Derived.Test.YtnfppojnmdohnaaGreatDoorQ5
import Derived.Test.YtnfppojnmdohnaaGreatDoorP16c
import Derived.Test.YtnfppojnmdohnaaGreatDoorR16
import Derived.Shelf.Small.Utf8
import Derived.Shelf.Small.Bits
import Derived.Shelf.Small.Strs
import Derived.Shelf.Utf8.RuneCount
import Derived.Shelf.Strconv.Atoi
import Derived.Shelf.Strconv.Itoa0
import Derived.Shelf.Strconv.Itoa1
import Derived.Shelf.LaysM
import Derived.Shelf.Strconv.Itoa2
import Derived.Shelf.Strconv.Itoa3
import Derived.Shelf.Strings.Search1
import Derived.Shelf.Strings.Search2
import Derived.Shelf.Strings.Search3
import Derived.Shelf.Strings.Count
import Derived.Shelf.Strings.Shaped
import Derived.Shelf.Sort.Plain
import Derived.Shelf.Strings.Split
import Derived.Shelf.Strings.SplitShaped
import Derived.Shelf.Unicode.Decode
import Derived.Shelf.Strings.Runes
import Derived.Shelf.Strings.RuneCount
import Derived.Shelf.Strings.IndexAny
import Derived.Shelf.Strings.AsciiSet
import Derived.Shelf.Strings.IndexAnyAll
import Derived.Shelf.Strings.Explode
import Derived.Shelf.Unicode.DecodeSlow
import Derived.Shelf.Unicode.DecodeAny
import Derived.Ground.Names2Prog
import Derived.Shelf.Slices.Clone
import Derived.Shelf.Slices.CompactS
import Derived.Shelf.Slices.SearchI
import Derived.Shelf.Slices.Cells
import Derived.Shelf.Slices.In.SortNone
import Derived.Ground.SlgnProg
import Derived.Shelf.SlicesE.Clone
import Derived.Shelf.SlIterI.Nil
import Derived.Shelf.SortM.Plain
import Derived.Shelf.SortM.SortNone
import Derived.Ground.GgzProg
import Derived.Ground.SlgmProg
import Derived.Lib.AtoiErrMem
set_option linter.unusedVariables false
set_option linter.unusedSimpArgs false
namespace Go.AM
open Go
theorem Mb {α:Type} {f:α→AV}:∀ {l:List AV},(∀ x∈l,∃ y,x=f y)→∃ m:List α,l=m.map f
 | [],_=>⟨[],rfl⟩
 | x::r,h=>by
  obtain ⟨y,rfl⟩:=h x (List.mem_cons_self ..);obtain ⟨m,rfl⟩:=Mb (fun z hz=>h z (List.mem_cons_of_mem _ hz))
  exact ⟨y::m,rfl⟩
theorem YY {s:CSh} {ss:List CSh} {l:List AV}:Wcs (s::ss) l↔∃ a r,l=a::r∧Wc s a∧Wcs ss r:=by rw [Wcs]
theorem Xo {l:List AV}:Wcs [] l↔l=[]:=by rw [Wcs]
theorem ZQ {k:IntKind} {a:AV} (h:Wc (.int k) a):∃ n,a=.int k n:=by rw [Wc] at h;obtain ⟨n,h,_⟩:=h;exact ⟨n,h⟩
theorem Y4 {a:AV} (h:Wc .str a):∃ s:ByteArray,a=.str s:=by rw [Wc] at h;obtain ⟨n,h,_⟩:=h;exact ⟨n,h⟩
theorem YB {α:Type} {f:α→AV} {es:List CSh} {a:AV} (hd:∀ cs,Wcs es cs→∃ y,AV.agg cs=f y) (h:Wc (.sl true es) a):∃ m:List α,a=.isl false false es.length (m.map f):=by
 rw [Wc] at h;obtain ⟨xs,rfl,_,h2⟩:=h;obtain ⟨m,rfl⟩:=Mb (f:=f) (l:=xs) (fun x hx=>by
  obtain ⟨cs,rfl,h3⟩:=(h2 x hx).1 rfl;exact hd cs h3)
 exact ⟨m,rfl⟩
theorem C8 {α:Type} {f:α→AV} {s:CSh} {a:AV} (hd:∀ x,Wc s x→∃ y,x=f y) (h:Wc (.sl false [s]) a):∃ m:List α,a=.isl false false 1 (m.map f):=by
 rw [Wc] at h;obtain ⟨xs,rfl,_,h2⟩:=h;obtain ⟨m,rfl⟩:=Mb (f:=f) (l:=xs) (fun x hx=>by
  have h3:=(h2 x hx).2 rfl;rw [YY] at h3;obtain ⟨a,r,h4,h5,h6⟩:=h3;rw [Xo] at h6;subst h6;cases h4;exact hd x h5)
 exact ⟨m,rfl⟩
abbrev iS:CSh:=.int .i64
abbrev ptS:List CSh:=[iS,iS]
abbrev nmS:List CSh:=[.str,iS,.str]
abbrev enS:List CSh:=[.str,iS,.str,iS,iS,iS,iS]
abbrev rgS:List CSh:=[.str,iS,iS,.sl true ptS,.sl true nmS,iS]
abbrev C9:List CSh:=[.str,iS,.sl true ptS,.sl true nmS,iS]
abbrev buS:List CSh:=[.str,iS,.sl true ptS,iS]
abbrev drS:List CSh:=[.str,.str,.str,iS,iS,.str,iS,iS,iS,iS,iS,iS,.sl false [.str],iS,iS,.str]
abbrev unS:List CSh:=[.str,.str,.str,iS,iS,iS]
abbrev sS:List CSh:=[.sl true rgS,.sl true C9,.sl true buS,.sl true drS,.sl true unS,.sl true ptS,.sl true ptS]
abbrev evS:List CSh:=[iS,iS,iS,iS,iS,.str,.str,.str,.sl false [.str],.sl true nmS,iS,.str,iS,iS,iS,iS,.sl true ptS,.sl true enS]
theorem HQ (cs:List AV) (h:Wcs ptS cs):∃ y:Pt,AV.agg cs=y.enc:=by
 simp only [YY,Xo] at h;obtain ⟨a,_,rfl,h1,b,_,rfl,h2,rfl⟩:=h;obtain ⟨x,rfl⟩:=ZQ h1;obtain ⟨y,rfl⟩:=ZQ h2;exact ⟨⟨x,y⟩,rfl⟩
theorem Ca (cs:List AV) (h:Wcs ptS cs):∃ y:Pair,AV.agg cs=y.enc:=by
 simp only [YY,Xo] at h;obtain ⟨a,_,rfl,h1,b,_,rfl,h2,rfl⟩:=h;obtain ⟨x,rfl⟩:=ZQ h1;obtain ⟨y,rfl⟩:=ZQ h2;exact ⟨⟨x,y⟩,rfl⟩
theorem Mc (cs:List AV) (h:Wcs nmS cs):∃ y:Nm,AV.agg cs=y.enc:=by
 simp only [YY,Xo] at h;obtain ⟨a,_,rfl,h1,b,_,rfl,h2,c,_,rfl,h3,rfl⟩:=h;obtain ⟨x,rfl⟩:=Y4 h1;obtain ⟨y,rfl⟩:=ZQ h2;obtain ⟨z,rfl⟩:=Y4 h3;exact ⟨⟨x,y,z⟩,rfl⟩
theorem Z6e (cs:List AV) (h:Wcs enS cs):∃ y:Ent,AV.agg cs=y.enc:=by
 simp only [YY,Xo] at h;obtain ⟨_,_,rfl,h1,_,_,rfl,h2,_,_,rfl,h3,_,_,rfl,h4,_,_,rfl,h5,_,_,rfl,h6,_,_,rfl,h7,rfl⟩:=h;obtain ⟨a,rfl⟩:=Y4 h1;obtain ⟨b,rfl⟩:=ZQ h2;obtain ⟨c,rfl⟩:=Y4 h3;obtain ⟨d,rfl⟩:=ZQ h4;obtain ⟨e,rfl⟩:=ZQ h5;obtain ⟨f,rfl⟩:=ZQ h6;obtain ⟨g,rfl⟩:=ZQ h7;exact ⟨⟨a,⟨b,c,d,e⟩,⟨f,g⟩⟩,rfl⟩
theorem Cb (x:AV) (h:Wc .str x):∃ y:Str,x=encS y:=Y4 h
theorem Z6f (cs:List AV) (h:Wcs rgS cs):∃ y:Region,AV.agg cs=y.enc:=by
 simp only [YY,Xo] at h;obtain ⟨_,_,rfl,h1,_,_,rfl,h2,_,_,rfl,h3,_,_,rfl,h4,_,_,rfl,h5,_,_,rfl,h6,rfl⟩:=h;obtain ⟨a,rfl⟩:=Y4 h1;obtain ⟨b,rfl⟩:=ZQ h2;obtain ⟨c,rfl⟩:=ZQ h3;obtain ⟨d,rfl⟩:=YB HQ h4;obtain ⟨e,rfl⟩:=YB Mc h5;obtain ⟨f,rfl⟩:=ZQ h6;exact ⟨⟨a,b,c,⟨false,d⟩,⟨false,e⟩,f⟩,rfl⟩
theorem Z6g (cs:List AV) (h:Wcs C9 cs):∃ y:Street,AV.agg cs=y.enc:=by
 simp only [YY,Xo] at h;obtain ⟨_,_,rfl,h1,_,_,rfl,h2,_,_,rfl,h4,_,_,rfl,h5,_,_,rfl,h6,rfl⟩:=h;obtain ⟨a,rfl⟩:=Y4 h1;obtain ⟨b,rfl⟩:=ZQ h2;obtain ⟨d,rfl⟩:=YB HQ h4;obtain ⟨e,rfl⟩:=YB Mc h5;obtain ⟨f,rfl⟩:=ZQ h6;exact ⟨⟨a,b,⟨false,d⟩,⟨false,e⟩,f⟩,rfl⟩
theorem Z6h (cs:List AV) (h:Wcs buS cs):∃ y:Building,AV.agg cs=y.enc:=by
 simp only [YY,Xo] at h;obtain ⟨_,_,rfl,h1,_,_,rfl,h2,_,_,rfl,h4,_,_,rfl,h6,rfl⟩:=h;obtain ⟨a,rfl⟩:=Y4 h1;obtain ⟨b,rfl⟩:=ZQ h2;obtain ⟨d,rfl⟩:=YB HQ h4;obtain ⟨f,rfl⟩:=ZQ h6;exact ⟨⟨a,b,⟨false,d⟩,f⟩,rfl⟩
theorem Z6i (cs:List AV) (h:Wcs unS cs):∃ y:Unit',AV.agg cs=y.enc:=by
 simp only [YY,Xo] at h;obtain ⟨_,_,rfl,h1,_,_,rfl,h2,_,_,rfl,h3,_,_,rfl,h4,_,_,rfl,h5,_,_,rfl,h6,rfl⟩:=h;obtain ⟨a,rfl⟩:=Y4 h1;obtain ⟨b,rfl⟩:=Y4 h2;obtain ⟨c,rfl⟩:=Y4 h3;obtain ⟨d,rfl⟩:=ZQ h4;obtain ⟨e,rfl⟩:=ZQ h5;obtain ⟨f,rfl⟩:=ZQ h6;exact ⟨⟨a,b,c,d,e,f⟩,rfl⟩
theorem Z6j (cs:List AV) (h:Wcs drS cs):∃ y:Door,AV.agg cs=y.enc:=by
 simp only [YY,Xo] at h;obtain ⟨_,_,rfl,h1,_,_,rfl,h2,_,_,rfl,h3,_,_,rfl,h4,_,_,rfl,h5,_,_,rfl,h6,_,_,rfl,h7,_,_,rfl,h8,_,_,rfl,h9,_,_,rfl,h10,_,_,rfl,h11,_,_,rfl,h12,_,_,rfl,h13,_,_,rfl,h14,_,_,rfl,h15,_,_,rfl,h16,rfl⟩:=h;obtain ⟨a1,rfl⟩:=Y4 h1;obtain ⟨a2,rfl⟩:=Y4 h2;obtain ⟨a3,rfl⟩:=Y4 h3;obtain ⟨a4,rfl⟩:=ZQ h4;obtain ⟨a5,rfl⟩:=ZQ h5;obtain ⟨a6,rfl⟩:=Y4 h6;obtain ⟨a7,rfl⟩:=ZQ h7;obtain ⟨a8,rfl⟩:=ZQ h8;obtain ⟨a9,rfl⟩:=ZQ h9;obtain ⟨a10,rfl⟩:=ZQ h10;obtain ⟨a11,rfl⟩:=ZQ h11;obtain ⟨a12,rfl⟩:=ZQ h12;obtain ⟨a13,rfl⟩:=C8 Cb h13;obtain ⟨a14,rfl⟩:=ZQ h14;obtain ⟨a15,rfl⟩:=ZQ h15;obtain ⟨a16,rfl⟩:=Y4 h16;exact ⟨⟨a1,a2,a3,a4,⟨a5,a6,a7,a8⟩,⟨a9,a10⟩,a11,a12,⟨false,a13⟩,a14,a15,a16⟩,rfl⟩
theorem Z6k (cs:List AV) (h:Wcs sS cs):∃ s:Sta,AV.agg cs=stA s:=by
 simp only [YY,Xo] at h;obtain ⟨_,_,rfl,h1,_,_,rfl,h2,_,_,rfl,h3,_,_,rfl,h4,_,_,rfl,h5,_,_,rfl,h6,_,_,rfl,h7,rfl⟩:=h;obtain ⟨a1,rfl⟩:=YB Z6f h1;obtain ⟨a2,rfl⟩:=YB Z6g h2;obtain ⟨a3,rfl⟩:=YB Z6h h3;obtain ⟨a4,rfl⟩:=YB Z6j h4;obtain ⟨a5,rfl⟩:=YB Z6i h5;obtain ⟨a6,rfl⟩:=YB Ca h6;obtain ⟨a7,rfl⟩:=YB Ca h7;exact ⟨⟨a1,a2,a3,a4,a5,a6,a7⟩,rfl⟩
theorem Z6l (cs:List AV) (h:Wcs evS cs):∃ e:Event,AV.agg cs=evA e:=by
 simp only [YY,Xo] at h;obtain ⟨_,_,rfl,h1,_,_,rfl,h2,_,_,rfl,h3,_,_,rfl,h4,_,_,rfl,h5,_,_,rfl,h6,_,_,rfl,h7,_,_,rfl,h8,_,_,rfl,h9,_,_,rfl,h10,_,_,rfl,h11,_,_,rfl,h12,_,_,rfl,h13,_,_,rfl,h14,_,_,rfl,h15,_,_,rfl,h16,_,_,rfl,h17,_,_,rfl,h18,rfl⟩:=h;obtain ⟨a1,rfl⟩:=ZQ h1;obtain ⟨a2,rfl⟩:=ZQ h2;obtain ⟨a3,rfl⟩:=ZQ h3;obtain ⟨a4,rfl⟩:=ZQ h4;obtain ⟨a5,rfl⟩:=ZQ h5;obtain ⟨a6,rfl⟩:=Y4 h6;obtain ⟨a7,rfl⟩:=Y4 h7;obtain ⟨a8,rfl⟩:=Y4 h8;obtain ⟨a9,rfl⟩:=C8 Cb h9;obtain ⟨a10,rfl⟩:=YB Mc h10;obtain ⟨a11,rfl⟩:=ZQ h11;obtain ⟨a12,rfl⟩:=Y4 h12;obtain ⟨a13,rfl⟩:=ZQ h13;obtain ⟨a14,rfl⟩:=ZQ h14;obtain ⟨a15,rfl⟩:=ZQ h15;obtain ⟨a16,rfl⟩:=ZQ h16;obtain ⟨a17,rfl⟩:=YB HQ h17;obtain ⟨a18,rfl⟩:=YB Z6e h18;exact ⟨⟨a1,a2,a3,a4,a5,a6,a7,a8,⟨false,a9⟩,⟨false,a10⟩,⟨a11,a12,a13,a14⟩,⟨a15,a16⟩,⟨false,a17⟩,⟨false,a18⟩⟩,rfl⟩
abbrev Zuz:List (Bool×List CSh):=[(true,sS),(true,ptS),(false,[.int .u8]),(true,evS)]
theorem Zrc {a:AV} (h:Wc (.int .u8) a):∃ d,a=.int .u8 d∧0≤d∧d≤255:=by
 rw [Wc] at h;obtain ⟨d,rfl,hw⟩:=h;have h9:(decide (IntKind.u8.min≤d)&&decide (d≤IntKind.u8.max))=true:=hw;rw [Bool.and_eq_true] at h9;have m1:IntKind.u8.min=0:=by decide
 have m2:IntKind.u8.max=255:=by decide
 have a1:=of_decide_eq_true h9.1;have a2:=of_decide_eq_true h9.2;exact ⟨d,rfl,by omega,by omega⟩
theorem Zq1 {a:AV} (h:Wcs [.int .u8] [a]):∃ d,a=.int .u8 d∧0≤d∧d≤255:=by
 rw [YY] at h;obtain ⟨_,_,e,k,_⟩:=h;cases e;exact Zrc k
theorem Zv9 (xs:List AV) (h:Wvs Zuz xs):∃ (s:Sta) (p:Pt) (a:Int) (e:Event),xs=[stA s,.agg [I p.X,I p.Y],.int .u8 a,evA e]∧(0≤a∧a≤255):=by
 obtain ⟨x,_,rfl,h1,_,w,_,rfl,h5,_,y,_,rfl,_,h2,z,_,rfl,h3,_,h4⟩:=h;have h4':_=[]:=h4;subst h4';obtain ⟨c1,rfl,k1⟩:=h1 rfl;obtain ⟨s,hs⟩:=Z6k c1 k1;obtain ⟨c2,rfl,k2⟩:=h5 rfl;obtain ⟨p,hp⟩:=HQ c2 k2;obtain ⟨a,rfl,ha⟩:=Zq1 (h2 rfl);obtain ⟨c3,rfl,k5⟩:=h3 rfl;obtain ⟨e,he⟩:=Z6l c3 k5;exact ⟨s,p,a,e,by rw [hs,he,hp];rfl,ha⟩
theorem Zva (xs:List AV) (h:Wvs Zuz xs):pfn rE 16 xs=some (.bool true):=by
 obtain ⟨s,p,a,e,rfl,h0⟩:=Zv9 xs h;exact ZuP s p a h0 e
end Go.AM
namespace Go.Proofs
open Go.Proofs.Tryz
open Go.Shelf
def Tryz.lays137_ren:Go.Shelf.Ren:=⟨fun | 137=>332 | 217=>359 | 266=>378 | n=>n,fun | 9=>9 | 5=>5 | 3=>3 | n=>n,fun | n=>n⟩
theorem Tryz.lays137:Go.Proofs.Lays.n137 Tryz.prog Tryz.lays137_ren:={
 mixed:=by kernel_rfl
 f137:=func332.trans (congrArg some (by kernel_rfl))
 f217:=func359.trans (congrArg some (by kernel_rfl))
 f266:=func378.trans (congrArg some (by kernel_rfl))
 t3:=underlying3
 a3:=isAgg3
 z3:=sizeOf3
 v3:=zeroValue3
 t5:=underlying5
 a5:=isAgg5
 z5:=sizeOf5
 v5:=zeroValue5
 t9:=underlying9
 a9:=isAgg9
 z9:=sizeOf9
 v9:=zeroValue9 }
open Go.RowKit in
theorem Tryz.strings_IndexByte (s:ByteArray) (c:Int) (w:World):
 Calls Tryz.prog 332 #[.string s,.int .u8 c] w fun e w'=>e=.returned (.int .i64 (Lib.indexByte s.data.toList c.toNat.toUInt8))∧w'=w:=Any.strings_IndexByte Tryz.lays137 s c w
def Tryz.lays172_ren:Go.Shelf.Ren:=⟨fun | 172=>333 | 244=>360 | 245=>361 | 247=>379 | 279=>380 | 280=>381 | 281=>382 | 282=>383 | 287=>392 | 316=>393 | 171=>395 | 205=>394 | 321=>398 | 322=>399 | 243=>400 | 246=>402 | 283=>403 | 284=>404 | 285=>405 | 286=>406 | 129=>321 | 317=>407 | 318=>408 | 319=>409 | 320=>410 | 337=>411 | 338=>412 | n=>n,fun | 9=>9 | 3=>3 | 75=>287 | 76=>288 | 4=>4 | 5=>5 | 167=>328 | 37=>329 | 0=>0 | 85=>330 | 2=>2 | 168=>332 | 53=>272 | 175=>340 | 46=>233 | 210=>344 | 127=>348 | 145=>351 | 143=>349 | 21=>21 | 171=>359 | 173=>361 | 212=>364 | 51=>270 | 20=>20 | 213=>365 | 232=>366 | 233=>367 | 80=>368 | n=>n,fun | 15=>1 | 16=>2 | 17=>5 | 18=>6 | 19=>7 | n=>n⟩
theorem Tryz.lays172:Go.Proofs.Lays.n172 Tryz.prog Tryz.lays172_ren:={
 mixed:=by kernel_rfl
 f129:=func321.trans (congrArg some (by kernel_rfl))
 f171:=func395.trans (congrArg some (by kernel_rfl))
 f172:=func333.trans (congrArg some (by kernel_rfl))
 f205:=func394.trans (congrArg some (by kernel_rfl))
 f243:=func400.trans (congrArg some (by kernel_rfl))
 f244:=func360.trans (congrArg some (by kernel_rfl))
 f245:=func361.trans (congrArg some (by kernel_rfl))
 f246:=func402.trans (congrArg some (by kernel_rfl))
 f247:=func379.trans (congrArg some (by kernel_rfl))
 f279:=func380.trans (congrArg some (by kernel_rfl))
 f280:=func381.trans (congrArg some (by kernel_rfl))
 f281:=func382.trans (congrArg some (by kernel_rfl))
 f282:=func383.trans (congrArg some (by kernel_rfl))
 f283:=func403.trans (congrArg some (by kernel_rfl))
 f284:=func404.trans (congrArg some (by kernel_rfl))
 f285:=func405.trans (congrArg some (by kernel_rfl))
 f286:=func406.trans (congrArg some (by kernel_rfl))
 f287:=func392.trans (congrArg some (by kernel_rfl))
 f316:=func393.trans (congrArg some (by kernel_rfl))
 f317:=func407.trans (congrArg some (by kernel_rfl))
 f318:=func408.trans (congrArg some (by kernel_rfl))
 f319:=func409.trans (congrArg some (by kernel_rfl))
 f320:=func410.trans (congrArg some (by kernel_rfl))
 f321:=func398.trans (congrArg some (by kernel_rfl))
 f322:=func399.trans (congrArg some (by kernel_rfl))
 f337:=func411.trans (congrArg some (by kernel_rfl))
 f338:=func412.trans (congrArg some (by kernel_rfl))
 t0:=underlying0
 a0:=isAgg0
 z0:=sizeOf0
 v0:=zeroValue0
 t2:=underlying2
 a2:=isAgg2
 z2:=sizeOf2
 v2:=zeroValue2
 t3:=underlying3
 a3:=isAgg3
 z3:=sizeOf3
 v3:=zeroValue3
 t4:=underlying4
 a4:=isAgg4
 z4:=sizeOf4
 v4:=zeroValue4
 t5:=underlying5
 a5:=isAgg5
 z5:=sizeOf5
 v5:=zeroValue5
 t9:=underlying9
 a9:=isAgg9
 z9:=sizeOf9
 v9:=zeroValue9
 t20:=underlying20
 a20:=isAgg20
 z20:=sizeOf20
 v20:=zeroValue20
 t21:=underlying21
 a21:=isAgg21
 z21:=sizeOf21
 v21:=zeroValue21
 t37:=underlying329
 a37:=isAgg329
 z37:=sizeOf329
 v37:=zeroValue329
 t46:=underlying233
 a46:=isAgg233
 z46:=sizeOf233
 v46:=zeroValue233
 t51:=underlying270
 a51:=isAgg270
 z51:=sizeOf270
 v51:=zeroValue270
 t53:=underlying272
 a53:=isAgg272
 z53:=sizeOf272
 v53:=zeroValue272
 t75:=underlying287
 a75:=isAgg287
 z75:=sizeOf287
 v75:=zeroValue287
 t76:=underlying288
 a76:=isAgg288
 z76:=sizeOf288
 v76:=zeroValue288
 t85:=underlying330
 a85:=isAgg330
 z85:=sizeOf330
 v85:=zeroValue330
 t127:=underlying348
 a127:=isAgg348
 z127:=sizeOf348
 v127:=zeroValue348
 t143:=underlying349
 a143:=isAgg349
 z143:=sizeOf349
 v143:=zeroValue349
 t145:=underlying351
 a145:=isAgg351
 z145:=sizeOf351
 v145:=zeroValue351
 t167:=underlying328
 a167:=isAgg328
 z167:=sizeOf328
 v167:=zeroValue328
 t168:=underlying332
 a168:=isAgg332
 z168:=sizeOf332
 v168:=zeroValue332
 t171:=underlying359
 a171:=isAgg359
 z171:=sizeOf359
 v171:=zeroValue359
 t173:=underlying361
 a173:=isAgg361
 z173:=sizeOf361
 v173:=zeroValue361
 t175:=underlying340
 a175:=isAgg340
 z175:=sizeOf340
 v175:=zeroValue340
 t210:=underlying344
 a210:=isAgg344
 z210:=sizeOf344
 v210:=zeroValue344
 t212:=underlying364
 a212:=isAgg364
 z212:=sizeOf364
 v212:=zeroValue364
 t213:=underlying365
 a213:=isAgg365
 z213:=sizeOf365
 t232:=underlying366
 a232:=isAgg366
 z232:=sizeOf366
 v232:=zeroValue366
 t233:=underlying367
 a233:=isAgg367
 z233:=sizeOf367
 v233:=zeroValue367
 g15:=by kernel_rfl
 g16:=by kernel_rfl
 g17:=by kernel_rfl
 g18:=by kernel_rfl
 g19:=by kernel_rfl }
open Go.RowKit in
theorem Tryz.strconv_Atoi (s:ByteArray) (n:Int) (hl:s.size≤18) (h:Lib.atoi s.data.toList=some n) (w:World):
 Calls Tryz.prog 333 #[.string s] w fun e w'=>e=.returned (.tuple #[.int .i64 n,.nilIface])∧∃ t,w'=Lib.bytesWorld w 5 t:=Any.strconv_Atoi Tryz.lays172 s n hl h w
def Tryz.lays190_ren:Go.Shelf.Ren:=⟨fun | 190=>165 | 125=>266 | 258=>265 | 128=>320 | 129=>321 | 302=>311 | 303=>312 | 304=>313 | 305=>314 | 306=>315 | 307=>316 | 308=>317 | 309=>318 | 310=>319 | 333=>351 | 329=>352 | 330=>353 | 334=>354 | 335=>355 | 336=>356 | 344=>374 | n=>n,fun | 31=>32 | 9=>9 | 3=>3 | 46=>233 | 0=>0 | 51=>270 | 53=>272 | 4=>4 | 183=>263 | 182=>262 | 131=>154 | 5=>5 | 218=>306 | 222=>310 | 228=>324 | 229=>325 | n=>n,fun | n=>n⟩
theorem Tryz.lays190:Go.Proofs.Lays.n190 Tryz.prog Tryz.lays190_ren:={
 mixed:=by kernel_rfl
 f125:=func266.trans (congrArg some (by kernel_rfl))
 f128:=func320.trans (congrArg some (by kernel_rfl))
 f129:=func321.trans (congrArg some (by kernel_rfl))
 f190:=func165.trans (congrArg some (by kernel_rfl))
 f258:=func265.trans (congrArg some (by kernel_rfl))
 f302:=func311.trans (congrArg some (by kernel_rfl))
 f303:=func312.trans (congrArg some (by kernel_rfl))
 f304:=func313.trans (congrArg some (by kernel_rfl))
 f305:=func314.trans (congrArg some (by kernel_rfl))
 f306:=func315.trans (congrArg some (by kernel_rfl))
 f307:=func316.trans (congrArg some (by kernel_rfl))
 f308:=func317.trans (congrArg some (by kernel_rfl))
 f309:=func318.trans (congrArg some (by kernel_rfl))
 f310:=func319.trans (congrArg some (by kernel_rfl))
 f329:=func352.trans (congrArg some (by kernel_rfl))
 f330:=func353.trans (congrArg some (by kernel_rfl))
 f333:=func351.trans (congrArg some (by kernel_rfl))
 f334:=func354.trans (congrArg some (by kernel_rfl))
 f335:=func355.trans (congrArg some (by kernel_rfl))
 f336:=func356.trans (congrArg some (by kernel_rfl))
 f344:=func374.trans (congrArg some (by kernel_rfl))
 t0:=underlying0
 a0:=isAgg0
 z0:=sizeOf0
 v0:=zeroValue0
 t3:=underlying3
 a3:=isAgg3
 z3:=sizeOf3
 v3:=zeroValue3
 t4:=underlying4
 a4:=isAgg4
 z4:=sizeOf4
 v4:=zeroValue4
 t5:=underlying5
 a5:=isAgg5
 z5:=sizeOf5
 v5:=zeroValue5
 t9:=underlying9
 a9:=isAgg9
 z9:=sizeOf9
 v9:=zeroValue9
 t31:=underlying32
 a31:=isAgg32
 z31:=sizeOf32
 v31:=zeroValue32
 t46:=underlying233
 a46:=isAgg233
 z46:=sizeOf233
 v46:=zeroValue233
 t51:=underlying270
 a51:=isAgg270
 z51:=sizeOf270
 v51:=zeroValue270
 t53:=underlying272
 a53:=isAgg272
 z53:=sizeOf272
 v53:=zeroValue272
 t131:=underlying154
 a131:=isAgg154
 z131:=sizeOf154
 v131:=zeroValue154
 t182:=underlying262
 a182:=isAgg262
 z182:=sizeOf262
 v182:=zeroValue262
 t183:=underlying263
 a183:=isAgg263
 z183:=sizeOf263
 v183:=zeroValue263
 t218:=underlying306
 a218:=isAgg306
 z218:=sizeOf306
 v218:=zeroValue306
 t222:=underlying310
 a222:=isAgg310
 z222:=sizeOf310
 v222:=zeroValue310
 t228:=underlying324
 a228:=isAgg324
 z228:=sizeOf324
 v228:=zeroValue324
 t229:=underlying325
 a229:=isAgg325
 z229:=sizeOf325
 v229:=zeroValue325 }
open Go.Sort Go.RowKit in
theorem Tryz.slices_Sort_string (blk off cap:Nat) (ss:List (List UInt8)) (w:World) (hH:Holds encStr w blk off ss.toArray) (hblk:blk < w.heap.size) (hsz:ss.length < 4611686018427387904):
 Calls Tryz.prog 165 #[.slice (some ⟨blk,off,none⟩) ss.length cap] w fun e w'=>
  e=.returned (.tuple #[])∧∃ n os,w'=grow (putRow encStr (Sort.ahead w n) blk off (ss.mergeSort fun x y=>decide (x≤y)).toArray) os:=Any.slices_Sort_string Tryz.lays190 blk off cap ss w hH hblk hsz
def Tryz.lays146_ren:Go.Shelf.Ren:=⟨fun | 146=>323 | 221=>357 | 268=>375 | 138=>376 | 143=>377 | 195=>388 | 197=>389 | 218=>390 | 219=>391 | 260=>396 | 217=>359 | 225=>386 | 224=>385 | 267=>397 | 266=>378 | 314=>401 | n=>n,fun | 9=>9 | 31=>32 | 3=>3 | 4=>4 | 0=>0 | 105=>338 | 21=>21 | 5=>5 | 46=>233 | 119=>352 | 139=>355 | 138=>354 | 146=>356 | 51=>270 | n=>n,fun | 1=>0 | 3=>3 | 4=>4 | n=>n⟩
theorem Tryz.lays146:Go.Proofs.Lays.n146 Tryz.prog Tryz.lays146_ren:={
 mixed:=by kernel_rfl
 f138:=func376.trans (congrArg some (by kernel_rfl))
 f143:=func377.trans (congrArg some (by kernel_rfl))
 f146:=func323.trans (congrArg some (by kernel_rfl))
 f195:=func388.trans (congrArg some (by kernel_rfl))
 f197:=func389.trans (congrArg some (by kernel_rfl))
 f217:=func359.trans (congrArg some (by kernel_rfl))
 f218:=func390.trans (congrArg some (by kernel_rfl))
 f219:=func391.trans (congrArg some (by kernel_rfl))
 f221:=func357.trans (congrArg some (by kernel_rfl))
 f224:=func385.trans (congrArg some (by kernel_rfl))
 f225:=func386.trans (congrArg some (by kernel_rfl))
 f260:=func396.trans (congrArg some (by kernel_rfl))
 f266:=func378.trans (congrArg some (by kernel_rfl))
 f267:=func397.trans (congrArg some (by kernel_rfl))
 f268:=func375.trans (congrArg some (by kernel_rfl))
 f314:=func401.trans (congrArg some (by kernel_rfl))
 t0:=underlying0
 a0:=isAgg0
 z0:=sizeOf0
 v0:=zeroValue0
 t3:=underlying3
 a3:=isAgg3
 z3:=sizeOf3
 v3:=zeroValue3
 t4:=underlying4
 a4:=isAgg4
 z4:=sizeOf4
 v4:=zeroValue4
 t5:=underlying5
 a5:=isAgg5
 z5:=sizeOf5
 v5:=zeroValue5
 t9:=underlying9
 a9:=isAgg9
 z9:=sizeOf9
 v9:=zeroValue9
 t21:=underlying21
 a21:=isAgg21
 z21:=sizeOf21
 v21:=zeroValue21
 t31:=underlying32
 a31:=isAgg32
 z31:=sizeOf32
 v31:=zeroValue32
 t46:=underlying233
 a46:=isAgg233
 z46:=sizeOf233
 v46:=zeroValue233
 t51:=underlying270
 a51:=isAgg270
 z51:=sizeOf270
 v51:=zeroValue270
 t105:=underlying338
 a105:=isAgg338
 z105:=sizeOf338
 v105:=zeroValue338
 t119:=underlying352
 a119:=isAgg352
 z119:=sizeOf352
 t138:=underlying354
 a138:=isAgg354
 z138:=sizeOf354
 v138:=zeroValue354
 t139:=underlying355
 a139:=isAgg355
 z139:=sizeOf355
 v139:=zeroValue355
 t146:=underlying356
 a146:=isAgg356
 z146:=sizeOf356
 v146:=zeroValue356
 g1:=by kernel_rfl
 g3:=by kernel_rfl
 g4:=by kernel_rfl }
def Tryz.lays153_ren:Go.Shelf.Ren:=⟨fun | 153=>334 | 152=>362 | 226=>363 | 227=>364 | 228=>365 | 137=>332 | 119=>384 | 224=>385 | 225=>386 | 217=>359 | 266=>378 | n=>n,fun | 9=>9 | 3=>3 | 4=>4 | 5=>5 | 21=>21 | 117=>318 | 116=>317 | 0=>0 | 46=>233 | 124=>335 | n=>n,fun | n=>n⟩
theorem Tryz.lays153:Go.Proofs.Lays.n153 Tryz.prog Tryz.lays153_ren:={
 mixed:=by kernel_rfl
 f119:=func384.trans (congrArg some (by kernel_rfl))
 f137:=func332.trans (congrArg some (by kernel_rfl))
 f152:=func362.trans (congrArg some (by kernel_rfl))
 f153:=func334.trans (congrArg some (by kernel_rfl))
 f217:=func359.trans (congrArg some (by kernel_rfl))
 f224:=func385.trans (congrArg some (by kernel_rfl))
 f225:=func386.trans (congrArg some (by kernel_rfl))
 f226:=func363.trans (congrArg some (by kernel_rfl))
 f227:=func364.trans (congrArg some (by kernel_rfl))
 f228:=func365.trans (congrArg some (by kernel_rfl))
 f266:=func378.trans (congrArg some (by kernel_rfl))
 t0:=underlying0
 a0:=isAgg0
 z0:=sizeOf0
 v0:=zeroValue0
 t3:=underlying3
 a3:=isAgg3
 z3:=sizeOf3
 v3:=zeroValue3
 t4:=underlying4
 a4:=isAgg4
 z4:=sizeOf4
 v4:=zeroValue4
 t5:=underlying5
 a5:=isAgg5
 z5:=sizeOf5
 v5:=zeroValue5
 t9:=underlying9
 a9:=isAgg9
 z9:=sizeOf9
 v9:=zeroValue9
 t21:=underlying21
 a21:=isAgg21
 z21:=sizeOf21
 v21:=zeroValue21
 t46:=underlying233
 a46:=isAgg233
 z46:=sizeOf233
 v46:=zeroValue233
 t116:=underlying317
 a116:=isAgg317
 z116:=sizeOf317
 t117:=underlying318
 a117:=isAgg318
 z117:=sizeOf318
 v117:=zeroValue318
 t124:=underlying335
 a124:=isAgg335
 z124:=sizeOf335
 v124:=zeroValue335 }
def Tryz.laysNm216_ren:Go.Shelf.Ren:=⟨fun | 16=>164 | n=>n,fun | 24=>32 | 9=>9 | 4=>4 | n=>n,fun | n=>n⟩
theorem Tryz.laysNm216:Go.Proofs.Lays2.n16 Tryz.prog Tryz.laysNm216_ren:={
 mixed:=by kernel_rfl
 f16:=func164.trans (congrArg some (by kernel_rfl))
 t4:=underlying4
 a4:=isAgg4
 z4:=sizeOf4
 v4:=zeroValue4
 t9:=underlying9
 a9:=isAgg9
 z9:=sizeOf9
 v9:=zeroValue9
 t24:=underlying32
 a24:=isAgg32
 z24:=sizeOf32
 v24:=zeroValue32
 i9:=by kernel_rfl }
open Go.RowKit Go.Lib in
theorem Tryz.slices_Clone_string_nil (n c:Nat) (w:World):
 Calls Tryz.prog 164 #[.slice none n c] w fun e w'=>e=.returned (.slice none 0 0)∧w'=w:=Any.slices_Clone_string_nil Tryz.laysNm216 n c w
open Go.RowKit Go.Lib in
theorem Tryz.slices_Clone_string_zero (a:Addr) (c:Nat) (w:World):
 Calls Tryz.prog 164 #[.slice (some a) 0 c] w fun e w'=>∃ v',e=.returned v'∧w'.ownsRow w.heap.size 9 1 v' 0 []∧v'≠.slice none 0 0∧Below w.heap.size w w':=Any.slices_Clone_string_zero Tryz.laysNm216 a c w
def Tryz.lays194_ren:Go.Shelf.Ren:=⟨fun | 194=>166 | n=>n,fun | 31=>32 | 9=>9 | 3=>3 | 4=>4 | 0=>0 | n=>n,fun | n=>n⟩
theorem Tryz.lays194:Go.Proofs.Lays.n194 Tryz.prog Tryz.lays194_ren:={
 mixed:=by kernel_rfl
 f194:=func166.trans (congrArg some (by kernel_rfl))
 t0:=underlying0
 a0:=isAgg0
 z0:=sizeOf0
 v0:=zeroValue0
 t3:=underlying3
 a3:=isAgg3
 z3:=sizeOf3
 v3:=zeroValue3
 t4:=underlying4
 a4:=isAgg4
 z4:=sizeOf4
 v4:=zeroValue4
 t9:=underlying9
 a9:=isAgg9
 z9:=sizeOf9
 v9:=zeroValue9
 t31:=underlying32
 a31:=isAgg32
 z31:=sizeOf32
 v31:=zeroValue32 }
open Go.RowKit Go.Lib Go.Sort in
theorem Tryz.slices_Compact_string (blk off cap:Nat) (zs:List (List UInt8)) (w:World) (hH:Holds encStr w blk off zs.toArray) (hsz:zs.length≤9223372036854775807) (hcap:zs.length≤cap):
 Calls Tryz.prog 166 #[.slice (some ⟨blk,off,none⟩) zs.length cap] w fun e w'=>e=.returned (.slice (some ⟨blk,off,none⟩) (Lib.compact zs).length cap)∧∃ q,w'=putRow encStr (Sort.ahead w q) blk off (Lib.compact zs++List.replicate (zs.length - (Lib.compact zs).length) []).toArray:=Any.slices_Compact_string Tryz.lays194 blk off cap zs w hH hsz hcap
open Go.RowKit Go.Lib Go.Sort in
theorem Tryz.slices_Compact_string_empty (a:Option Addr) (cap:Nat) (w:World):
 Calls Tryz.prog 166 #[.slice a 0 cap] w fun e w'=>e=.returned (.slice a 0 cap)∧w'=w:=Any.slices_Compact_string_empty Tryz.lays194 a cap w
open Go.RowKit Go.Sort in
theorem Tryz.slices_Sort_string_none (p:Option Addr) (cap:Nat) (w:World):
 Calls Tryz.prog 165 #[.slice p 0 cap] w fun e w'=>e=.returned (.tuple #[])∧w'=w:=Any.slices_Sort_string_none Tryz.lays190 p cap w
def Tryz.laysSlE041_f164_ren:Go.Shelf.Ren:=⟨fun | 41=>164 | n=>n,fun | 22=>32 | 23=>9 | 4=>4 | n=>n,fun | n=>n⟩
theorem Tryz.laysSlE041_f164:Go.Proofs.SlLaysE0.n41 Tryz.prog Tryz.laysSlE041_f164_ren:={
 mixed:=by kernel_rfl
 f41:=⟨f164.name,by decide,func164.trans (congrArg some (by kernel_rfl))⟩
 t4:=underlying4
 a4:=isAgg4
 z4:=sizeOf4
 v4:=zeroValue4
 t22:=underlying32
 a22:=isAgg32
 z22:=sizeOf32
 v22:=zeroValue32 }
open Go.RowKit Go.Lib in
theorem Tryz.slices_Clone (i0:TypeInfo) (z:Value) (size bytes:Nat) (hi:Tryz.prog.info? 9=some i0) (hz0:i0.zero=some z) (hz1:i0.size=size) (hz2:i0.bytes=bytes) (hzs:z.cells.size=size) (hsz:0 < size) (z23:∀ w,(Go.sizeOf 9).run Tryz.prog w=.ok size w) (b off n c:Nat) (news:List Value) (w:World) (hl:news.length=n * size) (hn:n≤maxLen) (hbig:n * bytes≤140737488355328) (hc:∀ j u,news[j]? = some u→w.cell? ⟨b,off+j,none⟩=some u) (h1:∀ u∈news,u.oneCell'=true):
 Calls Tryz.prog 164 #[.slice (some ⟨b,off,none⟩) n c] w fun e w'=>∃ v',e=.returned v'∧w'.ownsRow w.heap.size 9 size v' n news∧v'≠.slice none 0 0∧Below w.heap.size w w':=AnyE.slices_Clone Tryz.laysSlE041_f164 i0 z size bytes hi hz0 hz1 hz2 hzs hsz z23 b off n c news w hl hn hbig hc h1
def Tryz.laysSlE041_f283_ren:Go.Shelf.Ren:=⟨fun | 41=>283 | n=>n,fun | 22=>22 | 23=>66 | 4=>4 | n=>n,fun | n=>n⟩
theorem Tryz.laysSlE041_f283:Go.Proofs.SlLaysE0.n41 Tryz.prog Tryz.laysSlE041_f283_ren:={
 mixed:=by kernel_rfl
 f41:=⟨f283.name,by decide,func283.trans (congrArg some (by kernel_rfl))⟩
 t4:=underlying4
 a4:=isAgg4
 z4:=sizeOf4
 v4:=zeroValue4
 t22:=underlying22
 a22:=isAgg22
 z22:=sizeOf22
 v22:=zeroValue22 }
def Tryz.laysSlE041_f284_ren:Go.Shelf.Ren:=⟨fun | 41=>284 | n=>n,fun | 22=>23 | 23=>54 | 4=>4 | n=>n,fun | n=>n⟩
theorem Tryz.laysSlE041_f284:Go.Proofs.SlLaysE0.n41 Tryz.prog Tryz.laysSlE041_f284_ren:={
 mixed:=by kernel_rfl
 f41:=⟨f284.name,by decide,func284.trans (congrArg some (by kernel_rfl))⟩
 t4:=underlying4
 a4:=isAgg4
 z4:=sizeOf4
 v4:=zeroValue4
 t22:=underlying23
 a22:=isAgg23
 z22:=sizeOf23
 v22:=zeroValue23 }
def Tryz.laysSlE041_f287_ren:Go.Shelf.Ren:=⟨fun | 41=>287 | n=>n,fun | 22=>25 | 23=>58 | 4=>4 | n=>n,fun | n=>n⟩
theorem Tryz.laysSlE041_f287:Go.Proofs.SlLaysE0.n41 Tryz.prog Tryz.laysSlE041_f287_ren:={
 mixed:=by kernel_rfl
 f41:=⟨f287.name,by decide,func287.trans (congrArg some (by kernel_rfl))⟩
 t4:=underlying4
 a4:=isAgg4
 z4:=sizeOf4
 v4:=zeroValue4
 t22:=underlying25
 a22:=isAgg25
 z22:=sizeOf25
 v22:=zeroValue25 }
def Tryz.laysSlE041_f290_ren:Go.Shelf.Ren:=⟨fun | 41=>290 | n=>n,fun | 22=>24 | 23=>56 | 4=>4 | n=>n,fun | n=>n⟩
theorem Tryz.laysSlE041_f290:Go.Proofs.SlLaysE0.n41 Tryz.prog Tryz.laysSlE041_f290_ren:={
 mixed:=by kernel_rfl
 f41:=⟨f290.name,by decide,func290.trans (congrArg some (by kernel_rfl))⟩
 t4:=underlying4
 a4:=isAgg4
 z4:=sizeOf4
 v4:=zeroValue4
 t22:=underlying24
 a22:=isAgg24
 z22:=sizeOf24
 v22:=zeroValue24 }
def Tryz.laysSlE041_f293_ren:Go.Shelf.Ren:=⟨fun | 41=>293 | n=>n,fun | 22=>26 | 23=>72 | 4=>4 | n=>n,fun | n=>n⟩
theorem Tryz.laysSlE041_f293:Go.Proofs.SlLaysE0.n41 Tryz.prog Tryz.laysSlE041_f293_ren:={
 mixed:=by kernel_rfl
 f41:=⟨f293.name,by decide,func293.trans (congrArg some (by kernel_rfl))⟩
 t4:=underlying4
 a4:=isAgg4
 z4:=sizeOf4
 v4:=zeroValue4
 t22:=underlying26
 a22:=isAgg26
 z22:=sizeOf26
 v22:=zeroValue26 }
end Go.Proofs
namespace Go.Proofs
open Go.Proofs.Tryz
open Go.RowKit Go.Maps Go.Sort Go.Shelf
def Tryz.keys136_ren:Go.Shelf.Ren:=⟨fun | 7=>136 | 10=>240 | n=>n,fun | 23=>148 | 26=>3 | 3=>4 | 28=>152 | 0=>0 | 27=>151 | 33=>104 | 4=>4 | n=>n,fun | n=>n⟩
theorem Tryz.keys136:Go.Proofs.SlLaysZI.n7 Tryz.prog Tryz.keys136_ren:={
 mixed:=by kernel_rfl
 f7:=⟨f136.name,by decide,func136.trans (congrArg some (by kernel_rfl))⟩
 f10:=⟨f240.name,by decide,func240.trans (congrArg some (by kernel_rfl))⟩
 t0:=underlying0
 a0:=isAgg0
 z0:=sizeOf0
 v0:=zeroValue0
 t4:=underlying4
 a4:=isAgg4
 z4:=sizeOf4
 v4:=zeroValue4
 t23:=underlying148
 a23:=isAgg148
 z23:=sizeOf148
 v23:=zeroValue148
 t26:=underlying3
 a26:=isAgg3
 z26:=sizeOf3
 v26:=zeroValue3
 t27:=underlying151
 a27:=isAgg151
 z27:=sizeOf151
 v27:=zeroValue151
 t28:=underlying152
 a28:=isAgg152
 z28:=sizeOf152
 v28:=zeroValue152
 t33:=underlying104
 a33:=isAgg104
 z33:=sizeOf104
 v33:=zeroValue104 }
def Tryz.sorted135_ren:Go.Shelf.Ren:=⟨fun | 6=>135 | 8=>238 | 9=>239 | 11=>302 | 13=>266 | 12=>303 | 23=>320 | 24=>321 | 14=>342 | 15=>343 | 16=>344 | 17=>345 | 18=>346 | 19=>347 | 20=>348 | 21=>349 | 22=>350 | 25=>370 | 26=>352 | 27=>353 | 28=>371 | 29=>372 | 30=>373 | 31=>387 | n=>n,fun | 26=>3 | 28=>152 | 24=>42 | 0=>0 | 3=>3 | 37=>233 | 48=>270 | 50=>272 | 4=>4 | 40=>263 | 39=>262 | 45=>154 | 5=>5 | 9=>9 | 51=>306 | 55=>310 | 57=>324 | 58=>325 | 33=>104 | n=>n,fun | n=>n⟩
theorem Tryz.sorted135:Go.Proofs.SlLaysZI.n6 Tryz.prog Tryz.sorted135_ren:={
 mixed:=by kernel_rfl
 f6:=⟨f135.name,by decide,func135.trans (congrArg some (by kernel_rfl))⟩
 f8:=⟨f238.name,by decide,func238.trans (congrArg some (by kernel_rfl))⟩
 f11:=⟨f302.name,by decide,func302.trans (congrArg some (by kernel_rfl))⟩
 t0:=underlying0
 a0:=isAgg0
 z0:=sizeOf0
 v0:=zeroValue0
 t24:=underlying42
 a24:=isAgg42
 z24:=sizeOf42
 v24:=zeroValue42
 t26:=underlying3
 a26:=isAgg3
 z26:=sizeOf3
 v26:=zeroValue3
 t28:=underlying152
 a28:=isAgg152
 z28:=sizeOf152
 v28:=zeroValue152
 i26:=by kernel_rfl }
def Tryz.sort239_ren:Go.Shelf.Ren:=⟨fun | 5=>239 | 8=>266 | 7=>303 | 19=>320 | 20=>321 | 10=>342 | 11=>343 | 12=>344 | 13=>345 | 14=>346 | 15=>347 | 16=>348 | 17=>349 | 18=>350 | 30=>370 | 31=>352 | 32=>353 | 33=>371 | 34=>372 | 35=>373 | 40=>387 | n=>n,fun | 23=>42 | 25=>3 | 3=>3 | 32=>233 | 22=>42 | 0=>0 | 44=>270 | 46=>272 | 4=>4 | 36=>263 | 35=>262 | 41=>154 | 5=>5 | 9=>9 | 53=>306 | 57=>310 | 63=>324 | 64=>325 | n=>n,fun | n=>n⟩
theorem Tryz.sort239:Go.Proofs.SlLaysM.n5 Tryz.prog Tryz.sort239_ren:={
 mixed:=by kernel_rfl
 f5:=⟨f239.name,by decide,func239.trans (congrArg some (by kernel_rfl))⟩
 f7:=⟨f303.name,by decide,func303.trans (congrArg some (by kernel_rfl))⟩
 f8:=func266.trans (congrArg some (by kernel_rfl))
 f10:=⟨f342.name,by decide,func342.trans (congrArg some (by kernel_rfl))⟩
 f11:=⟨f343.name,by decide,func343.trans (congrArg some (by kernel_rfl))⟩
 f12:=⟨f344.name,by decide,func344.trans (congrArg some (by kernel_rfl))⟩
 f13:=⟨f345.name,by decide,func345.trans (congrArg some (by kernel_rfl))⟩
 f14:=⟨f346.name,by decide,func346.trans (congrArg some (by kernel_rfl))⟩
 f15:=⟨f347.name,by decide,func347.trans (congrArg some (by kernel_rfl))⟩
 f16:=⟨f348.name,by decide,func348.trans (congrArg some (by kernel_rfl))⟩
 f17:=⟨f349.name,by decide,func349.trans (congrArg some (by kernel_rfl))⟩
 f18:=⟨f350.name,by decide,func350.trans (congrArg some (by kernel_rfl))⟩
 f19:=func320.trans (congrArg some (by kernel_rfl))
 f20:=func321.trans (congrArg some (by kernel_rfl))
 f30:=⟨f370.name,by decide,func370.trans (congrArg some (by kernel_rfl))⟩
 f31:=func352.trans (congrArg some (by kernel_rfl))
 f32:=func353.trans (congrArg some (by kernel_rfl))
 f33:=⟨f371.name,by decide,func371.trans (congrArg some (by kernel_rfl))⟩
 f34:=⟨f372.name,by decide,func372.trans (congrArg some (by kernel_rfl))⟩
 f35:=⟨f373.name,by decide,func373.trans (congrArg some (by kernel_rfl))⟩
 f40:=⟨f387.name,by decide,func387.trans (congrArg some (by kernel_rfl))⟩
 t0:=underlying0
 a0:=isAgg0
 z0:=sizeOf0
 v0:=zeroValue0
 t3:=underlying3
 a3:=isAgg3
 z3:=sizeOf3
 v3:=zeroValue3
 t4:=underlying4
 a4:=isAgg4
 z4:=sizeOf4
 v4:=zeroValue4
 t5:=underlying5
 a5:=isAgg5
 z5:=sizeOf5
 v5:=zeroValue5
 t9:=underlying9
 a9:=isAgg9
 z9:=sizeOf9
 v9:=zeroValue9
 t22:=underlying42
 a22:=isAgg42
 z22:=sizeOf42
 v22:=zeroValue42
 t23:=underlying42
 a23:=isAgg42
 z23:=sizeOf42
 v23:=zeroValue42
 t25:=underlying3
 a25:=isAgg3
 z25:=sizeOf3
 v25:=zeroValue3
 t32:=underlying233
 a32:=isAgg233
 z32:=sizeOf233
 v32:=zeroValue233
 t35:=underlying262
 a35:=isAgg262
 z35:=sizeOf262
 v35:=zeroValue262
 t36:=underlying263
 a36:=isAgg263
 z36:=sizeOf263
 v36:=zeroValue263
 t41:=underlying154
 a41:=isAgg154
 z41:=sizeOf154
 v41:=zeroValue154
 t44:=underlying270
 a44:=isAgg270
 z44:=sizeOf270
 v44:=zeroValue270
 t46:=underlying272
 a46:=isAgg272
 z46:=sizeOf272
 v46:=zeroValue272
 t53:=underlying306
 a53:=isAgg306
 z53:=sizeOf306
 v53:=zeroValue306
 t57:=underlying310
 a57:=isAgg310
 z57:=sizeOf310
 v57:=zeroValue310
 t63:=underlying324
 a63:=isAgg324
 z63:=sizeOf324
 v63:=zeroValue324
 t64:=underlying325
 a64:=isAgg325
 z64:=sizeOf325
 v64:=zeroValue325 }
def Tryz.laysSlE041_f130_ren:Go.Shelf.Ren:=⟨fun | 41=>130 | n=>n,fun | 22=>36 | 23=>31 | 4=>4 | n=>n,fun | n=>n⟩
theorem Tryz.laysSlE041_f130:Go.Proofs.SlLaysE0.n41 Tryz.prog Tryz.laysSlE041_f130_ren:={
 mixed:=by kernel_rfl
 f41:=⟨f130.name,by decide,func130.trans (congrArg some (by kernel_rfl))⟩
 t4:=underlying4
 a4:=isAgg4
 z4:=sizeOf4
 v4:=zeroValue4
 t22:=underlying36
 a22:=isAgg36
 z22:=sizeOf36
 v22:=zeroValue36 }
theorem Tryz.sorts135 (m:Nat):AnyZI.SortsIn Tryz.prog Tryz.sorted135_ren Fence.wide m:=
 ⟨fun blk off cap ss W hH hblk hsz=>callsIn_wide.2 (AnyM.slices_Sort_int Tryz.sort239 blk off cap ss W hH hblk hsz),
  fun p cap W=>callsIn_wide.2 (AnyM.slices_Sort_int_none Tryz.sort239 p cap W)⟩
set_option maxHeartbeats 1000000 in
theorem Tryz.sorted_ints (Bm b nn:Nat) (D0:DataW Unit) (R:Value→Option (DataW Unit×List MemPlace)) (w:World) (hBm:Bm < w.heap.size) (hm:w.cell? ⟨Bm,0,none⟩=some (.map (some b))) (hown:w.ownsMap Tryz.prog 3 R b nn D0) (hmax:Maps.size D0≤maxLen) (hbytes:Maps.size D0 * 8≤140737488355328):
 Calls Tryz.prog 135 #[.func (.func 240) #[] #[.pointer (some ⟨Bm,0,none⟩)]] w fun e w'=>∃ (v:Value) (ss:List Int),e=.returned v∧ss.Perm (intKeys D0)∧
  w'.ownsRow w.heap.size 3 1 v ss.length ((ss.mergeSort (fun x y=>decide (x≤y))).map encZ)∧(v=.slice none 0 0↔ss=[])∧Below w.heap.size w w':=by
 refine (callsIn_wide (n:=5)).1 ?_;have hseq:SeqGives Fence.wide 2 Tryz.prog 240 #[.pointer (some ⟨Bm,0,none⟩)] encZ (fun ss=>ss.Perm (intKeys D0)) (Maps.size D0) w:=
  AnyZI.keys_gives (ρ:=Tryz.keys136_ren) { Tryz.keys136 with } Fence.wide _ trivial rfl (by omega) Bm b nn D0 w hBm hm hown
 exact AnyZI.sorted_in Tryz.sorted135 Fence.wide 5 trivial trivial trivial trivial rfl (by omega) (Tryz.sorts135 _) (enters_of func239 (by kernel_rfl) rfl) 240 #[.pointer (some ⟨Bm,0,none⟩)] trivial (enters_of func240 (by kernel_rfl) rfl) _ _ hmax hbytes _ hseq
end Go.Proofs
namespace Go.Proofs.YtnfppojnmdohnaaGreatDoor
open Go.Proofs.Tryz
open Go.AM
theorem Z99:Qn Tryz.prog rE 165 J7:=EV (Go.Proofs.enters_of func165 (by kernel_rfl) rfl) (fun blk off cap ss w hH hb hs=>Go.Proofs.Tryz.slices_Sort_string blk off cap ss w hH hb hs) (fun p cap w=>Go.Proofs.Tryz.slices_Sort_string_none p cap w)
theorem Z9a:Qn Tryz.prog rE 166 J8:=EY (Go.Proofs.enters_of func166 (by kernel_rfl) rfl) (fun blk off cap zs w hH h1 h2=>Go.Proofs.Tryz.slices_Compact_string blk off cap zs w hH h1 h2) (fun p cap w=>Go.Proofs.Tryz.slices_Compact_string_empty p cap w)
theorem Z9b:Qn Tryz.prog rE 332 U9:=EK (Go.Proofs.enters_of func332 (by kernel_rfl) rfl) (fun s c w=>Go.Proofs.Tryz.strings_IndexByte s c w)
theorem JN {P:Go.Program} {e:Go.TypeId} {sz bytes:Nat} (h:(match P.info? e with | some i=>(match i.zero with | some z=>z.cells.size==sz&&(i.size==sz&&i.bytes==bytes) | none=>false) | none=>false)=true):
 ∃ i0 z,P.info? e=some i0∧i0.zero=some z∧i0.size=sz∧i0.bytes=bytes∧z.cells.size=sz:=by
 split at h
 ·rename_i i hi;split at h
  ·rename_i z hz;simp only [Bool.and_eq_true,beq_iff_eq] at h;exact ⟨i,z,hi,hz,h.2.1,h.2.2,h.1⟩
  ·cases h
 ·cases h
theorem Z9c:Qn Tryz.prog rE 283 (YL 6):=by
 obtain ⟨i0,z,a1,a2,a3,a4,a5⟩:=JN (P:=Tryz.prog) (e:=Go.Proofs.Tryz.laysSlE041_f283_ren.t 23) (sz:=6) (bytes:=88) (by kernel_rfl)
 exact Ud (bytes:=88) (by decide) (by decide) (Go.Proofs.enters_of func283 (by kernel_rfl) rfl) (fun b off n c news w h1 h2 h3 h4 h5=>Go.Proofs.AnyE.slices_Clone Go.Proofs.Tryz.laysSlE041_f283 i0 z 6 88 a1 a2 a3 a4 a5 (by decide) (fun w=>by kernel_rfl) b off n c news w h1 h2 h3 h4 h5)
theorem Z9d:Qn Tryz.prog rE 284 (YL 5):=by
 obtain ⟨i0,z,a1,a2,a3,a4,a5⟩:=JN (P:=Tryz.prog) (e:=Go.Proofs.Tryz.laysSlE041_f284_ren.t 23) (sz:=5) (bytes:=80) (by kernel_rfl)
 exact Ud (bytes:=80) (by decide) (by decide) (Go.Proofs.enters_of func284 (by kernel_rfl) rfl) (fun b off n c news w h1 h2 h3 h4 h5=>Go.Proofs.AnyE.slices_Clone Go.Proofs.Tryz.laysSlE041_f284 i0 z 5 80 a1 a2 a3 a4 a5 (by decide) (fun w=>by kernel_rfl) b off n c news w h1 h2 h3 h4 h5)
theorem Z9e:Qn Tryz.prog rE 287 (YL 16):=by
 obtain ⟨i0,z,a1,a2,a3,a4,a5⟩:=JN (P:=Tryz.prog) (e:=Go.Proofs.Tryz.laysSlE041_f287_ren.t 23) (sz:=16) (bytes:=184) (by kernel_rfl)
 exact Ud (bytes:=184) (by decide) (by decide) (Go.Proofs.enters_of func287 (by kernel_rfl) rfl) (fun b off n c news w h1 h2 h3 h4 h5=>Go.Proofs.AnyE.slices_Clone Go.Proofs.Tryz.laysSlE041_f287 i0 z 16 184 a1 a2 a3 a4 a5 (by decide) (fun w=>by kernel_rfl) b off n c news w h1 h2 h3 h4 h5)
theorem Z9f:Qn Tryz.prog rE 290 (YL 4):=by
 obtain ⟨i0,z,a1,a2,a3,a4,a5⟩:=JN (P:=Tryz.prog) (e:=Go.Proofs.Tryz.laysSlE041_f290_ren.t 23) (sz:=4) (bytes:=56) (by kernel_rfl)
 exact Ud (bytes:=56) (by decide) (by decide) (Go.Proofs.enters_of func290 (by kernel_rfl) rfl) (fun b off n c news w h1 h2 h3 h4 h5=>Go.Proofs.AnyE.slices_Clone Go.Proofs.Tryz.laysSlE041_f290 i0 z 4 56 a1 a2 a3 a4 a5 (by decide) (fun w=>by kernel_rfl) b off n c news w h1 h2 h3 h4 h5)
theorem Z9g:Qn Tryz.prog rE 293 (YL 6):=by
 obtain ⟨i0,z,a1,a2,a3,a4,a5⟩:=JN (P:=Tryz.prog) (e:=Go.Proofs.Tryz.laysSlE041_f293_ren.t 23) (sz:=6) (bytes:=72) (by kernel_rfl)
 exact Ud (bytes:=72) (by decide) (by decide) (Go.Proofs.enters_of func293 (by kernel_rfl) rfl) (fun b off n c news w h1 h2 h3 h4 h5=>Go.Proofs.AnyE.slices_Clone Go.Proofs.Tryz.laysSlE041_f293 i0 z 6 72 a1 a2 a3 a4 a5 (by decide) (fun w=>by kernel_rfl) b off n c news w h1 h2 h3 h4 h5)
theorem ZrP:Qn Tryz.prog rE 130 (YL 2):=by
 obtain ⟨i0,z,a1,a2,a3,a4,a5⟩:=JN (P:=Tryz.prog) (e:=Go.Proofs.Tryz.laysSlE041_f130_ren.t 23) (sz:=2) (bytes:=16) (by kernel_rfl)
 exact Ud (bytes:=16) (by decide) (by decide) (Go.Proofs.enters_of func130 (by kernel_rfl) rfl) (fun b off n c news w h1 h2 h3 h4 h5=>Go.Proofs.AnyE.slices_Clone Go.Proofs.Tryz.laysSlE041_f130 i0 z 2 16 a1 a2 a3 a4 a5 (by decide) (fun w=>by kernel_rfl) b off n c news w h1 h2 h3 h4 h5)
theorem ZrQ:Qn Tryz.prog rE 135 ZoZ:=Zq6 (kt:=3) (by kernel_rfl) (Go.Proofs.enters_of func135 (by kernel_rfl) rfl) (fun Bm b nn D0 R w h1 h2 h3 h4 h5=>Go.Proofs.Tryz.sorted_ints Bm b nn D0 R w h1 h2 h3 h4 h5)
theorem Z9h:Qn Tryz.prog rE 164 J9:=by
 obtain ⟨i0,z,a1,a2,a3,a4,a5⟩:=JN (P:=Tryz.prog) (e:=9) (sz:=1) (bytes:=16) (by kernel_rfl)
 exact EZ (el:=9) (Go.Proofs.enters_of func164 (by kernel_rfl) rfl) (fun b off n c news w h1 h2 h3 h4 h5=>Go.Proofs.Tryz.slices_Clone i0 z 1 16 a1 a2 a3 a4 a5 (by decide) (fun w=>by kernel_rfl) b off n c news w h1 h2 h3 h4 h5)
  (fun n c w=>Go.Proofs.Tryz.slices_Clone_string_nil n c w) (fun a c w=>Go.Proofs.Tryz.slices_Clone_string_zero a c w)
theorem Z9i:Qn Tryz.prog rE 323 Ja:=I2 (el:=9) (Go.Proofs.enters_of func323 (by kernel_rfl) rfl) (fun s x w hs=>Go.Proofs.Z9R Go.Proofs.Tryz.lays146 (by kernel_rfl) s x w hs)
theorem Z9j:Qn Tryz.prog rE 333 J5:=EM (Go.Proofs.enters_of func333 (by kernel_rfl) rfl) (fun s n w h1 h2=>(Go.Proofs.Tryz.strconv_Atoi s n h1 h2 w).mono (by
 rintro e w' ⟨rfl,t,rfl⟩;exact ⟨rfl,Go.Lib.bytesWorld_below w _ t⟩))
end Go.Proofs.YtnfppojnmdohnaaGreatDoor
namespace Go.Proofs.YtnfppojnmdohnaaGreatDoor
open Go.ChangeShapes Go.WideShapes Go.ChangeAt Go.RowKit Go.AM
theorem Zvd:sig Tryz.prog 10 Tryz.f16.params.toList=some Zuz:=by kernel_rfl
theorem Z9l (W:Go.World):GlR rE T0 (X0 Tryz.prog) W:=fun g=>trivial
theorem Zve (hsum:∀ f s,rE.sum f=some s→Qn Tryz.prog rE f s) (hfn:EnvOk Tryz.prog rE):Rows.ClaimsPointsCardSaid:=
 Zv8 hfn Z9l (n:=10) (S:=Zuz) rfl Zvd Zva
end Go.Proofs.YtnfppojnmdohnaaGreatDoor
namespace Go.Proofs.YtnfppojnmdohnaaGreatDoor
open Go.AM
theorem Z9n:Qn Tryz.prog rE 334 J6:=EN (Go.Proofs.enters_of Tryz.func334 (by kernel_rfl) rfl) (fun s c w hs h2 ha=>Go.Proofs.Z9S Go.Proofs.Tryz.lays153 (by kernel_rfl) (by kernel_rfl) s c w hs h2 ha)
theorem brS {α:Type} {b:Bool} {x y:Option α} {q:α} {G:Prop} (h:(bif b then x else y)=some q) (h1:x=some q→G) (h2:y=some q→G):G:=by
 cases b with
 | true=>exact h1 h
 | false=>exact h2 h
theorem lfS {P:Go.Program} {E:Env} {f k:Nat} {a q:List AV→Hp→Option (AV×Hp)} {r:Option (List AV→Hp→Option (AV×Hp))} (h:(bif Nat.beq f k then some a else r)=some q) (g:Qn P E k a) (e:r=some q→Qn P E f q):Qn P E f q:=by
 cases hb:Nat.beq f k with
 | true=>
  rw [hb] at h;obtain rfl:a=q:=Option.some.inj h;rw [Nat.eq_of_beq_eq_true hb];exact g
 | false=>
  rw [hb] at h;exact e h
theorem nnS {f:Nat} {q:List AV→Hp→Option (AV×Hp)} {P:Go.Program} {E:Env} (h:(none:Option (List AV→Hp→Option (AV×Hp)))=some q):Qn P E f q:=by cases h
theorem Cd (f:Nat) (s:List AV→Hp→Option (AV×Hp)) (h:rE.sum f=some s):Qn Tryz.prog rE f s:=by
 change N8 f=some s at h;unfold N8 at h;exact brS h nnS fun h=>lfS h ZrP fun h=>lfS h ZrQ fun h=>lfS h Z9h fun h=>lfS h Z99 fun h=>lfS h Z9a fun h=>brS h nnS fun h=>lfS h Z9c fun h=>lfS h Z9d fun h=>lfS h Z9e fun h=>lfS h Z9f fun h=>lfS h Z9g fun h=>lfS h Z9i fun h=>lfS h Z9b fun h=>lfS h Z9j fun h=>lfS h Z9n nnS
theorem Z9o:EnvOk Tryz.prog rE:=⟨fun _=>rfl,fun f q h=>Z98 f q h,Cd⟩
theorem claimsPoints_card:Rows.ClaimsPointsCardSaid:=Zve Cd Z9o
end Go.Proofs.YtnfppojnmdohnaaGreatDoor
