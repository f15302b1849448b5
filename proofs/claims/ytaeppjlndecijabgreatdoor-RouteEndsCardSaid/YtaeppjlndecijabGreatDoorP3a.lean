/- What the functions of the program compute, part 1, for RouteEnds. No condition. -/
import Derived.Test.YtaeppjlndecijabGreatDoorC3
import Derived.Test.YtaeppjlndecijabGreatDoorQ5
import Derived.Lib.ItoaNum
import Derived.Lib.ItoaLen
import Derived.Lib.RuneCount
set_option linter.unusedVariables false
set_option linter.defProp false
set_option linter.unusedSimpArgs false
set_option linter.unusedSectionVars false
open Nat renaming reduceAdd → qq, reduceSub → qx, reduceMul → qz, reduceLT → qv, reduceLeDiff → qk, reduceBEq → qy
attribute [go_sem_proc] Nat.reduceBEq Nat.reduceAdd Nat.reduceSub Nat.reduceMul Nat.reduceLT Nat.reduceLeDiff reduceIte
namespace Go.AM
open Go
def Di(b:Bool):clean (.bool b)=true:=(rfl)
def Dj(k:IntKind)(n:Int):clean (.int k n)=true:=(rfl)
def Ic(s:ByteArray):clean (.str s)=true:=(rfl)
def Ig(cs:List AV):clean (.agg cs)=Z4 cs:=(rfl)
def Ih(cs:List AV):clean (.tup cs)=Z4 cs:=(rfl)
def Ii(bw ex:Bool)(sz:Nat)(es:List AV):clean (.isl bw ex sz es) = !bw:=(rfl)
def Ij(bw:Bool)(es:List AV):clean (.iptr bw es) = !bw:=(rfl)
def Il(fn:Fn)(a c:List AV):clean (.clo fn a c)=(Z4 a&&Z4 c):=(rfl)
def Im(b i off g:Nat):clean (.ptr b i off g)=false:=(rfl)
def Io(b g off len:Nat)(ex:Bool):clean (.sl b g off len ex)=false:=(rfl)
def Ip(b:Nat):clean (.mp b)=false:=(rfl)
def Dk:Z4 []=true:=(rfl)
def N1(a:AV)(r:List AV):Z4 (a::r)=(clean a&&Z4 r):=(rfl)
def Iq(b:Bool):Zy (.bool b)=true:=(rfl)
def Ir(k:IntKind)(n:Int):Zy (.int k n)=true:=(rfl)
def It(s:ByteArray):Zy (.str s)=true:=(rfl)
def Iu(cs:List AV):Zy (.agg cs)=Zi cs:=(rfl)
def Iw(bw ex:Bool)(sz:Nat)(es:List AV):Zy (.isl bw ex sz es)=true:=(rfl)
def Ix(bw:Bool)(es:List AV):Zy (.iptr bw es)=true:=(rfl)
def Iz(fn:Fn)(a c:List AV):Zy (.clo fn a c)=(Zi a&&Zi c):=(rfl)
def IA:Zi []=true:=(rfl)
def IB(a:AV)(r:List AV):Zi (a::r)=(Zy a&&Zi r):=(rfl)
attribute [go_sem] Di Dj Ic Ig Ih Ii Ij Il Im Io Ip Dk N1 Iq Ir It Iu Iw Ix Iz IA IB
def N3(c:AV)(r:List AV):takeC none (c::r)=some c:=rfl
def IC(n:Nat)(cs:List AV):takeC (some n) cs=bif Nat.ble n cs.length then some (.agg<|cs.take n)else none:=rfl
def ID(cs:List AV):(AV.agg cs).cells=cs:=rfl
def IE(b:Bool):(AV.bool b).cells=[.bool b]:=rfl
def IF(k:IntKind)(n:Int):(AV.int k n).cells=[.int k n]:=rfl
def IG(s:ByteArray):(AV.str s).cells=[.str s]:=rfl
def IH(bw ex:Bool)(sz:Nat)(es:List AV):(AV.isl bw ex sz es).cells=[.isl bw ex sz es]:=rfl
def II(b g off len:Nat)(ex:Bool):(AV.sl b g off len ex).cells=[.sl b g off len ex]:=rfl
def IJ(b i off g:Nat):(AV.ptr b i off g).cells=[.ptr b i off g]:=rfl
def IK(bw:Bool)(es:List AV):(AV.iptr bw es).cells=[.iptr bw es]:=rfl
def IL(fn:Fn)(a c:List AV):(AV.clo fn a c).cells=[.clo fn a c]:=rfl
def IM(b:Nat):(AV.mp b).cells=[.mp b]:=rfl
attribute [go_sem] N3 IC ID IE IF IG IH II IJ IK IL IM
attribute [go_sem] eq_self Bool.and_true Bool.true_and Bool.and_false Bool.false_and Bool.not_true Bool.not_false Bool.and_self
def XA{a b:List AV}:Z4 (a++b)=(Z4 a&&Z4 b):=by
 induction a with
 |nil=>simp[Z4]
 |cons x a ih=>simp[Z4,ih,Bool.and_assoc]
def Zw{α:Type}{f:α->AV}(h:∀x,clean (f x)=true):∀l:List α,Z4 (l.map f)=true
 |[]=>rfl
 |x::l=>by simp[Z4,h,Zw h l]
theorem YM{n:Int}(h1:-9223372036854775808<=n)(h2:n<=9223372036854775807):IntKind.i64.wrap n=n:=by
 simp[IntKind.wrap,IntKind.signed,IntKind.bits];omega
theorem Zx{n:Nat}(h:n<9223372036854775807):IntKind.i64.wrap ((n:Int)+1)=((n+1:Nat):Int):=by
 rw[YM (by omega)<|by omega];rfl
def Dl{E:Env}{live:List Nat}{b:ACode}{fr fr2:Fr}{h:Hp}(e:Z2 live fr=Z2 live fr2):Zb E (.loop live b) fr h=Zb E (.loop live b) fr2 h:=by
 rw[GF,e,<-GF]
variable {E:Env}
def IQ{v:Option AV}{r:Zt}(he:Zl v=some r):r.2.2=none:=by
 unfold Zl at he;cases v with
 |none=>grind
 |some v=>simp[Option.some.injEq]at he;rw[<-he]
def YV(h:Hp)(r:Zt):Prop:=Ya h r.2.2=true
def IR{h:Hp}{r:Zt}(hr:r.2.2=none):YV h r:=by unfold YV;rw[hr];rfl
theorem N4{h:Hp}{v:Option AV}{r:Zt}(he:Zl v=some r):YV h r:=IR<|IQ he
theorem Vc{h:Hp}{v:AV}{rs:List Nat}{b:Nat}{o:AObj}{r:Zt}(hb:b<=h.length)(he:some (v,rs,some (b,o))=some r):YV h r:=by
 cases he;exact ZXH hb
theorem VU{h:Hp}{v:AV}{rs:List Nat}{r:Zt}(he:some (v,rs,none)=some r):YV h r:=by
 cases he;rfl
def ZA0{h:Hp}{r:Zt}(hb:∀b o,r.2.2=some (b,o)->b<=h.length):YV h r:=by
 obtain⟨v,rs,wr⟩:=r;cases wr with
 |none=>rfl
 |some p=>exact ZXH<|hb p.1 p.2 rfl
def N5{h:Hp}{b:Nat}{o:AObj}(hb:h[b]?=some o):b<=h.length:=by grind
def N6{h:Hp}{fz:Bool}{sz:Nat}{all:List AV}{rs:List Nat}{r:Zt}(he:Yp h.length fz sz all rs=some r):YV h r:=by
 unfold Yp at he;cases fz with
 |true=>
  grind [VU]
 |false=>exact Vc (ZXh _) he
def IS{h:Hp}{fz:Bool}{sz bytes:Nat}{s x:AV}{r:Zt}(he:Qt h h.length fz sz bytes s x=some r):YV h r:=by
 unfold Qt at he;split at he
 .split at he
  .rename_i es ys _ _ _;cases hy:ys.isEmpty with
   |true=>grind [VU]
   |false=>
    rw[hy,cond_false]at he;split at he
    .exact N6 he
    .exact N6 he
    .exact N6 he
    .split at he
     .rename_i hb;simp[cond]at he;split at he
      .exact Vc (N5 hb) he
      grind
     grind
    grind
  grind
 grind
def IT{h:Hp}{ag:Bool}{kk:List Nat}{b:Nat}{ks vs:List AV}{k v:AV}{r:Zt}(hb:b<=h.length)(he:Yo ag kk b ks vs k v=some r):YV h r:=by
 grind [Yo,Vc]
def IU{h:Hp}{v:Option AV}{rs:List Nat}{r:Zt}(he:v.map (λv=>((v,rs,none):Zt))=some r):YV h r:=by
 cases v with
 |none=>grind
 |some v=>exact VU he
def IV{h:Hp}{ag ok:Bool}{kk rs:List Nat}{z:AV}{ks vs:List AV}{k:AV}{r:Zt}(he:QW ag kk ok z rs ks vs k=some r):YV h r:=by
 grind [QW,VU]
def IW{h:Hp}{x:AV}{r:Zt}(he:X1 h x=some r):YV h r:=by
 unfold X1 at he
 all_goals grind [N4,VU]
def ZA1{h:Hp}{b c:Nat}{x:AV}{r:Zt}(he:ZvH h b c x=some r):YV h r:=by
 unfold ZvH at he
 all_goals try simp[cond]at he
 all_goals (repeat' (split at he))
 all_goals first
  |(exact Vc (N5<|by assumption) he)
  |grind
def ZTT{h:Hp}{b n i off g sz:Nat}{y:AV}{es:List AV}{o:AObj}{r:Zt}(hb:h[b]?=some o)(he:ZP5 b n i off g sz y es=some r):YV h r:=by
 unfold ZP5 at he
 all_goals try simp[cond]at he
 all_goals (repeat' (split at he))
 all_goals first
  |(exact Vc (N5 hb) he)
  |grind
def IX{fr:Fr}{h:Hp}{op:AOp}{r:Zt}(he:Z8 E fr h h.length op=some r):YV h r:=by
 cases op<;>simp only[Z8]at he
 case app=>exact IS he
 case apr sz bytes s x=>
  cases hap:Qt h h.length false sz bytes (ev E fr s) (ev E fr x)with
  |none=>grind
  |some r0=>
   rw[hap]at he;exact ZA0<|Zzd (ZxP (ZXh _) hap) he
 case own=>exact Vc (ZXh _) he
 case mkm=>exact Vc (ZXh _) he
 all_goals first
  |exact N4 he
  |(repeat' (split at he)
    all_goals try simp only[cond]at he
    all_goals (repeat' (split at he))
    all_goals first
     |exact N4 he
     |exact VU he
     |exact Vc (ZXh _) he
     |(cases he;done)
     |(exact Vc (N5<|by assumption) he)
     |(exact IT (N5<|by assumption) he)
     |exact IU he
     |exact IV he
     |exact ZA1 he
     |exact ZTT (by assumption) he
     |exact IW he)
def Za(E:Env)(op:AOp)(fr:Fr)(h:Hp):DRec:=
 match op with
 | .call _ _ args=>ZOy h<|evs E fr args
 | .callv _ x args=>(match ev E fr x with| .clo (.func _) first cap=>⟨!Zi (first++evs E fr args++cap),[],none,none⟩|_=>⟨false,[],none,none⟩)
 |op=>QG E (Z2 op.slots fr) h op (match Z8 E (Z2 op.slots fr) h h.length op with|some r=>r.2.2|none=>none)
noncomputable def dk(E:Env)(d:Option Nat)(r:List AOper)(us:List<|List Nat)(ok:Bool)(fr:Fr)(recs:List DRec)(rec:DRec):Option (Fr×Hp)->Option (Fr×Hp)
 |some ((_,v)::_,h')=>bif ok then Zm E r us (ZB fr d v) h' (recs++[rec])else none
 |_=>none
def IY(d:Option Nat)(r:List AOper)(us:List<|List Nat)(fr:Fr)(recs:List DRec)(rec:DRec)(k:Nat)(v:AV)(fr':Fr)(h':Hp):dk E d r us true fr recs rec (some ((k,v)::fr',h'))=Zm E r us (ZB fr d v) h' (recs++[rec]):=rfl
def Qb{d:Option Nat}{op:AOp}{r:List AOper}{u:List Nat}{us:List (List Nat)}{fr:Fr}{h:Hp}{recs:List DRec}(hc:op.isCall=false):
 Zm E (⟨d,op,none⟩::r) (u::us) fr h recs=dk E d r us (Zv (Za E op fr h) recs u) fr recs (Za E op fr h) (Z9 E [⟨some 0,op,none⟩] (Z2 op.slots fr) h):=by
 rw[VS,LG hc,V9,GE hc];have hd:Za E op fr h=QG E (Z2 op.slots fr) h op (match Z8 E (Z2 op.slots fr) h h.length op with|some r=>r.2.2|none=>none):=by
  cases op<;>first|rfl|grind [AOp.isCall]
 rw[hd];cases he:Z8 E (Z2 op.slots fr) h h.length op with
 |none=>rfl
 |some q=>
  simp[ZM,KZ,GG,dk,okd];have hw:=IX he;rw[hw,ZXC]
def IZ{d:Option Nat}{f:Nat}{args:List Arg}{r:List AOper}{u:List Nat}{us:List (List Nat)}{fr:Fr}{h:Hp}{recs:List DRec}:
 Zm E (⟨d,.call true f args,none⟩::r) (u::us) fr h recs=dk E d r us (Zv (Za E (.call true f args) fr h) recs u) fr recs (Za E (.call true f args) fr h) (Z9 E [⟨some 0,.call true f args,none⟩] fr h):=by
 rw[VS,S6,V9,RE,GD];simp[Za,evs];cases Ql h (args.map<|ev E fr)with
 |none=>rfl
 |some aS=>
  simp[ZM];cases pfn E f aS with
  |none=>rfl
  |some v=>
   simp[ZM,KZ,GG,dk,okd,ZH,Ya]
noncomputable def rkw(E:Env)(d:Option Nat)(r:List AOper)(u:List Nat)(us:List<|List Nat)(fr:Fr)(h:Hp)(recs:List DRec)(o:Option<|AV×DRec×Option (Nat×AObj)):Option (Fr×Hp):=thn o λp=>okd recs u h p.2.1 p.2.2<|Zm E r us (ZB fr d p.1) (ZH h p.2.2)<|recs++[p.2.1]
def ZL4{d:Option Nat}{f:Nat}{args:List Arg}{r:List AOper}{u:List Nat}{us:List (List Nat)}{fr:Fr}{h:Hp}{recs:List DRec}:
 Zm E (⟨d,.call false f args,none⟩::r) (u::us) fr h recs=rkw E d r u us fr h recs (rsD (E.rs f) h<|evs E fr args):=by
 rw[VS,ZIH];rfl
def O0{d:Option Nat}{x:Arg}{args:List Arg}{r:List AOper}{u:List Nat}{us:List (List Nat)}{fr:Fr}{h:Hp}{recs:List DRec}:
 Zm E (⟨d,.callv true x args,none⟩::r) (u::us) fr h recs=dk E d r us (Zv (Za E (.callv true x args) fr h) recs u) fr recs (Za E (.callv true x args) fr h) (Z9 E [⟨some 0,.callv true x args,none⟩] fr h):=by
 rw[VS,S7,V9,RF];simp only[Za,evs,dcv];generalize ev E fr x=fv;by_cases hv:∃g a c,fv=.clo (.func g) a c
 .obtain⟨g,a,c,rfl⟩:=hv;simp only;rw[RD,GD];cases Ql h (a++args.map (ev E fr)++c)with
  |none=>rfl
  |some aS=>
   simp[ZM];cases pfn E g aS with
   |none=>rfl
   |some v=>simp[ZM,KZ,GG,dk,okd,ZH,Ya]
 .rw[LU (λg a c e=>hv ⟨g,a,c,e⟩)<|λ_ _=>rfl]
  split
  .grind
  .rfl
noncomputable def dg(E:Env)(d:Option Nat)(op:AOp)(r:List AOper)(u:List Nat)(us:List<|List Nat)(fr:Fr)(h:Hp)(recs:List DRec):Bool->AV->Option (Fr×Hp)
 |true,.bool true=>Zm E (⟨d,op,none⟩::r) (u::us) fr h recs
 |false,.bool false=>Zm E (⟨d,op,none⟩::r) (u::us) fr h recs
 |true,.bool false=>bif Zv ⟨false,[],none,none⟩ recs u then Zm E r us (ZB fr d<|.tup []) h (recs++[⟨false,[],none,none⟩])else none
 |false,.bool true=>bif Zv ⟨false,[],none,none⟩ recs u then Zm E r us (ZB fr d<|.tup []) h (recs++[⟨false,[],none,none⟩])else none
 |_,.tup []=>bif Zv ⟨false,[],none,none⟩ recs u then Zm E r us (ZB fr d<|.tup []) h (recs++[⟨false,[],none,none⟩])else none
 |_,_=>none
def O1(d:Option Nat)(op:AOp)(r:List AOper)(u:List Nat)(us:List<|List Nat)(fr:Fr)(h:Hp)(recs:List DRec):dg E d op r u us fr h recs true (.bool true)=Zm E (⟨d,op,none⟩::r) (u::us) fr h recs:=rfl
def O2(d:Option Nat)(op:AOp)(r:List AOper)(u:List Nat)(us:List<|List Nat)(fr:Fr)(h:Hp)(recs:List DRec):dg E d op r u us fr h recs false (.bool false)=Zm E (⟨d,op,none⟩::r) (u::us) fr h recs:=rfl
def O3(d:Option Nat)(op:AOp)(r:List AOper)(u:List Nat)(us:List<|List Nat)(fr:Fr)(h:Hp)(recs:List DRec):dg E d op r u us fr h recs true (.bool false)=bif Zv ⟨false,[],none,none⟩ recs u then Zm E r us (ZB fr d<|.tup []) h (recs++[⟨false,[],none,none⟩])else none:=rfl
def O4(d:Option Nat)(op:AOp)(r:List AOper)(u:List Nat)(us:List<|List Nat)(fr:Fr)(h:Hp)(recs:List DRec):dg E d op r u us fr h recs false (.bool true)=bif Zv ⟨false,[],none,none⟩ recs u then Zm E r us (ZB fr d<|.tup []) h (recs++[⟨false,[],none,none⟩])else none:=rfl
def Dm(d:Option Nat)(op:AOp)(r:List AOper)(u:List Nat)(us:List<|List Nat)(fr:Fr)(h:Hp)(recs:List DRec)(b:Bool):dg E d op r u us fr h recs b (.tup [])=bif Zv ⟨false,[],none,none⟩ recs u then Zm E r us (ZB fr d<|.tup []) h (recs++[⟨false,[],none,none⟩])else none:=by cases b<;>rfl
def O5{d:Option Nat}{op:AOp}{t:Nat}{b:Bool}{r:List AOper}{u:List Nat}{us:List (List Nat)}{fr:Fr}{h:Hp}{recs:List DRec}:
 Zm E (⟨d,op,some (t,b)⟩::r) (u::us) fr h recs=dg E d op r u us fr h recs b (get fr t):=by
 rw[VS,S5];generalize get fr t=g;have hu:(thn (some ((AV.tup []:AV),(⟨false,[],none,none⟩:DRec),(none:Option<|Nat×AObj))) λp=>okd recs u h p.2.1 p.2.2<|Zm E r us (ZB fr d p.1) (ZH h p.2.2)<|recs++[p.2.1]) =
  bif Zv ⟨false,[],none,none⟩ recs u then Zm E r us (ZB fr d<|.tup []) h (recs++[⟨false,[],none,none⟩])else none:=by
  simp[ZM,okd,Ya,ZH]
 cases g with
 |bool c=>
  cases b<;>cases c
  .exact VS.symm
  .exact hu
  .exact hu
  .exact VS.symm
 |tup vs=>
  cases vs with
  |nil=>rw[Dm];exact hu
  |cons v vs=>cases b<;>rfl
 |_=>cases b<;>rfl
noncomputable def dn(E:Env)(p2:List AOper):Option (Fr×Hp)->Option (AExit×Fr×Hp)
 |some (fr,h)=>nrm<|Z9 E p2 fr h
 |none=>none
def O6(p2:List AOper)(fr:Fr)(h:Hp):dn E p2 (some (fr,h))=nrm (Z9 E p2 fr h):=rfl
def O7{un:List (List Nat)}{p1 p2:List AOper}{fr:Fr}{h:Hp}:Zb E (.draw un p1 p2) fr h=dn E p2 (Zm E p1 un fr h []):=by
 rw[Si];cases Zm E p1 un fr h []<;>rfl
def O8(x:DRec)(recs:List DRec):Zv x recs []=true:=(rfl)
def okQ(x:DRec):Option DRec->Bool
 |some y=>Qy x y
 |none=>false
def O9(x:DRec)(recs:List DRec)(j:Nat)(u:List Nat):Zv x recs (j::u)=(okQ x recs[j]?&&Zv x recs u):=rfl
def Oa(x y:DRec):okQ x (some y)=Qy x y:=(rfl)
def Ob{d:Option Nat}{x:Arg}{r:List AOper}{u:List Nat}{us:List (List Nat)}{fr:Fr}{h:Hp}{recs:List DRec}:
 Zm E (⟨d,.mv x,none⟩::r) (u::us) fr h recs=bif Zv ⟨false,[],none,none⟩ recs u then Zm E r us (ZB fr d<|ev E fr x) h (recs++[⟨false,[],none,none⟩])else none:=by
 rw[VS,LG rfl];have he:ev E (Z2 (AOp.mv x).slots fr) x=ev E fr x:=by
  cases x<;>first|rfl|skip
  grind [AOp.slots,Arg.slots,ev,Z2,get]
 simp[Z8,he,Zl,ZM,okd,Ya,ZH];rfl
end Go.AM
namespace Go.AM
open Go
variable {E:Env}
def QD{op:AOp}{fr:Fr}{h:Hp}(hq:X3 op=true)(hc:op.isCall=false):Za E op fr h=⟨false,opT E (Z2 op.slots fr) op,none,none⟩:=by
 have hd:Za E op fr h=QG E (Z2 op.slots fr) h op (match Z8 E (Z2 op.slots fr) h h.length op with|some r=>r.2.2|none=>none):=by
  cases op<;>first|rfl|grind [AOp.isCall]
 have hn:(match Z8 E (Z2 op.slots fr) h h.length op with|some r=>r.2.2|none=>none)=none:=by
  cases he:Z8 E (Z2 op.slots fr) h h.length op with
  |none=>rfl
  |some r=>grind [Lm]
 rw[hd,hn];cases op<;>first|rfl|grind [X3]
def bxr(h:Hp)(b:Bool):DRec:=bif b then⟨false,[],some h.length,none⟩else⟨false,[],none,none⟩
def Oc(h:Hp):bxr h true=⟨false,[],some h.length,none⟩:=rfl
def Od{sz:Nat}{x:Arg}{fr:Fr}{h:Hp}:Za E (.box sz x) fr h=bxr h (fits sz<|ev E (Z2 x.slots fr) x):=by
 simp[Za,Z8,AOp.slots];cases fits sz (ev E (Z2 x.slots fr) x)<;>rfl
def str(a:AV):Option (AV×Hp)->DRec
 |some _=>⟨false,Zs a,(Zs a).head?,none⟩
 |none=>⟨false,Zs a,none,none⟩
def Oe(b i off g:Nat)(p:AV×Hp):str (.ptr b i off g) (some p)=⟨false,[b],some b,none⟩:=rfl
def Of{n:Nat}{a x:Arg}{fr:Fr}{h:Hp}:Za E (.store n a x) fr h=str (ev E (Z2 (a.slots++x.slots) fr) a) (stV h n (ev E (Z2 (a.slots++x.slots) fr) x)<|ev E (Z2 (a.slots++x.slots) fr) a):=by
 have hd:Za E (.store n a x) fr h=QG E (Z2 (a.slots++x.slots) fr) h (.store n a x) (match Z8 E (Z2 (a.slots++x.slots) fr) h h.length (.store n a x)with|some r=>r.2.2|none=>none):=rfl
 rw[hd];have h1:=@LR E none n a x [] (Z2 (a.slots++x.slots) fr) h;rw[V9,GE rfl]at h1;generalize Z2 (a.slots++x.slots) fr=f at h1⊢;have hr:∀wr,QG E f h (.store n a x) wr=⟨false,Zs<|ev E f a,wr.map (·.1),none⟩:=λwr=>rfl
 cases he:Z8 E f h h.length (.store n a x)with
 |none=>
  cases hs:stV h n (ev E f x) (ev E f a)with
  |none=>rfl
  |some p=>grind [LA,LI,KZ]
 |some r=>
  cases hs:stV h n (ev E f x) (ev E f a)with
  |none=>grind [ZM,KZ,stw,LA]
  |some p=>
   obtain⟨v,rs,wr⟩:=r;simp[Z8]at he;cases hv:ev E f a with
   |ptr b i off g=>
    rw[hv]at he
    grind [str,Zs]
   |_=>rw[hv]at he;cases he
def wrB:Option Zt->Option Nat
 |some r=>r.2.2.map (·.1)
 |none=>none
def Og{fz:Bool}{sz bytes:Nat}{s x:Arg}{fr:Fr}{h:Hp}:Za E (.app fz sz bytes s x) fr h =
 ⟨false,Zs (ev E (Z2 (s.slots++x.slots) fr) s)++Zs (ev E (Z2 (s.slots++x.slots) fr) x),wrB<|Qt h h.length fz sz bytes (ev E (Z2 (s.slots++x.slots) fr) s)<|ev E (Z2 (s.slots++x.slots) fr) x,none⟩:=by
 simp[Za,Z8,AOp.slots,opT];cases Qt h h.length fz sz bytes (ev E (Z2 (s.slots++x.slots) fr) s) (ev E (Z2 (s.slots++x.slots) fr) x)<;>rfl
def Oh{fr:Fr}{h:Hp}:Za E .mkm fr h=⟨false,[],some h.length,none⟩:=rfl
def Oi{p:Bool}{f:Nat}{args:List Arg}{fr:Fr}{h:Hp}:Za E (.call p f args) fr h=ZOy h (evs E fr args):=rfl
def ZTU(h:Hp)(args:List AV):ZOy h args=cRc h args (Zi args):=rfl
def ZTV(h:Hp)(args:List AV):cRc h args true=⟨false,[],none,none⟩:=rfl
def ZTW(h:Hp)(args:List AV):cRc h args false=bif ZOH h args then⟨false,ZOO args,none,none⟩else⟨true,[],none,none⟩:=rfl
def ZTX(h:Hp):ZOH h []=true:=rfl
def ZTY(h:Hp)(v:AV)(r:List AV):ZOH h (v::r)=(so2 h v&&ZOH h r):=rfl
def ZTZ(h:Hp)(s:ByteArray):so2 h (.str s)=true:=rfl
def ZU0(h:Hp)(k:IntKind)(n:Int):so2 h (.int k n)=true:=rfl
def ZU1:ZOO []=[]:=rfl
def ZU2(v:AV)(r:List AV):ZOO (v::r)=sh2 v++ZOO r:=rfl
def ZU3(s:ByteArray):sh2 (.str s)=[]:=rfl
def ZU4(k:IntKind)(n:Int):sh2 (.int k n)=[]:=rfl
attribute [go_sem] ZTU ZTV ZTW ZTX ZTY ZTZ ZU0 ZU1 ZU2 ZU3 ZU4
def cvr(args:List AV):AV->DRec
 | .clo (.func _) first cap=>⟨!Zi (first++args++cap),[],none,none⟩
 |_=>⟨false,[],none,none⟩
def Oj(args:List AV)(g:Nat)(first cap:List AV):cvr args (.clo (.func g) first cap)=⟨!Zi (first++args++cap),[],none,none⟩:=rfl
def Ok{p:Bool}{x:Arg}{args:List Arg}{fr:Fr}{h:Hp}:Za E (.callv p x args) fr h=cvr (evs E fr args) (ev E fr x):=rfl
def Ol{ex:Bool}{sz:Nat}{z:AV}{n:Nat}{ps:List (Nat×Arg)}{fr:Fr}{h:Hp}:Za E (.bsl true ex sz z n ps) fr h=⟨false,[],none,none⟩:=(QD rfl rfl).trans rfl
def Om{c a b:Arg}{d:Option Nat}{r:List AOper}{u:List Nat}{us:List (List Nat)}{fr:Fr}{h:Hp}{recs:List DRec}:Zm E (⟨d,(.pick c a b),none⟩::r) (u::us) fr h recs=dk E d r us (Zv (Za E (.pick c a b) fr h) recs u) fr recs (Za E (.pick c a b) fr h) (Z9 E [⟨some 0,(.pick c a b),none⟩] (Z2 (AOp.slots<|.pick c a b) fr) h):=Qb rfl
def Oo{c a b:Arg}{fr:Fr}{h:Hp}:Za E (.pick c a b) fr h=⟨false,opT E (Z2 (AOp.slots<|.pick c a b) fr)<|.pick c a b,none,none⟩:=QD rfl rfl
def Oq{sz:Nat}{x:Arg}{d:Option Nat}{r:List AOper}{u:List Nat}{us:List (List Nat)}{fr:Fr}{h:Hp}{recs:List DRec}:Zm E (⟨d,(.box sz x),none⟩::r) (u::us) fr h recs=dk E d r us (Zv (Za E (.box sz x) fr h) recs u) fr recs (Za E (.box sz x) fr h) (Z9 E [⟨some 0,(.box sz x),none⟩] (Z2 (AOp.slots<|.box sz x) fr) h):=Qb rfl
def Ot{sz:Nat}{x:Arg}{d:Option Nat}{r:List AOper}{u:List Nat}{us:List (List Nat)}{fr:Fr}{h:Hp}{recs:List DRec}:Zm E (⟨d,(.ibox sz x),none⟩::r) (u::us) fr h recs=dk E d r us (Zv (Za E (.ibox sz x) fr h) recs u) fr recs (Za E (.ibox sz x) fr h) (Z9 E [⟨some 0,(.ibox sz x),none⟩] (Z2 (AOp.slots<|.ibox sz x) fr) h):=Qb rfl
def Ou{z:List AV}{ps:List (Nat×Nat×Arg)}{d:Option Nat}{r:List AOper}{u:List Nat}{us:List (List Nat)}{fr:Fr}{h:Hp}{recs:List DRec}:Zm E (⟨d,(.build z ps),none⟩::r) (u::us) fr h recs=dk E d r us (Zv (Za E (.build z ps) fr h) recs u) fr recs (Za E (.build z ps) fr h) (Z9 E [⟨some 0,(.build z ps),none⟩] (Z2 (AOp.slots<|.build z ps) fr) h):=Qb rfl
def Ov{z:List AV}{ps:List (Nat×Nat×Arg)}{fr:Fr}{h:Hp}:Za E (.build z ps) fr h=⟨false,opT E (Z2 (AOp.slots<|.build z ps) fr)<|.build z ps,none,none⟩:=QD rfl rfl
def Ow{fz ex:Bool}{sz:Nat}{z:AV}{n:Nat}{ps:List (Nat×Arg)}{d:Option Nat}{r:List AOper}{u:List Nat}{us:List (List Nat)}{fr:Fr}{h:Hp}{recs:List DRec}:Zm E (⟨d,(.bsl fz ex sz z n ps),none⟩::r) (u::us) fr h recs=dk E d r us (Zv (Za E (.bsl fz ex sz z n ps) fr h) recs u) fr recs (Za E (.bsl fz ex sz z n ps) fr h) (Z9 E [⟨some 0,(.bsl fz ex sz z n ps),none⟩] (Z2 (AOp.slots<|.bsl fz ex sz z n ps) fr) h):=Qb rfl
def Ox{n:Option Nat}{x:Arg}{d:Option Nat}{r:List AOper}{u:List Nat}{us:List (List Nat)}{fr:Fr}{h:Hp}{recs:List DRec}:Zm E (⟨d,(.load n x),none⟩::r) (u::us) fr h recs=dk E d r us (Zv (Za E (.load n x) fr h) recs u) fr recs (Za E (.load n x) fr h) (Z9 E [⟨some 0,(.load n x),none⟩] (Z2 (AOp.slots<|.load n x) fr) h):=Qb rfl
def Oy{n:Option Nat}{x:Arg}{fr:Fr}{h:Hp}:Za E (.load n x) fr h=⟨false,opT E (Z2 (AOp.slots<|.load n x) fr)<|.load n x,none,none⟩:=QD rfl rfl
def Oz{n:Nat}{a x:Arg}{d:Option Nat}{r:List AOper}{u:List Nat}{us:List (List Nat)}{fr:Fr}{h:Hp}{recs:List DRec}:Zm E (⟨d,(.store n a x),none⟩::r) (u::us) fr h recs=dk E d r us (Zv (Za E (.store n a x) fr h) recs u) fr recs (Za E (.store n a x) fr h) (Z9 E [⟨some 0,(.store n a x),none⟩] (Z2 (AOp.slots<|.store n a x) fr) h):=Qb rfl
def OA{x:Arg}{d:Option Nat}{r:List AOper}{u:List Nat}{us:List (List Nat)}{fr:Fr}{h:Hp}{recs:List DRec}:Zm E (⟨d,(.nilck x),none⟩::r) (u::us) fr h recs=dk E d r us (Zv (Za E (.nilck x) fr h) recs u) fr recs (Za E (.nilck x) fr h) (Z9 E [⟨some 0,(.nilck x),none⟩] (Z2 (AOp.slots<|.nilck x) fr) h):=Qb rfl
def OB{x:Arg}{fr:Fr}{h:Hp}:Za E (.nilck x) fr h=⟨false,opT E (Z2 (AOp.slots<|.nilck x) fr)<|.nilck x,none,none⟩:=QD rfl rfl
def OC{f:BinOp}{x y:Arg}{d:Option Nat}{r:List AOper}{u:List Nat}{us:List (List Nat)}{fr:Fr}{h:Hp}{recs:List DRec}:Zm E (⟨d,(.bin f x y),none⟩::r) (u::us) fr h recs=dk E d r us (Zv (Za E (.bin f x y) fr h) recs u) fr recs (Za E (.bin f x y) fr h) (Z9 E [⟨some 0,(.bin f x y),none⟩] (Z2 (AOp.slots<|.bin f x y) fr) h):=Qb rfl
def OD{f:BinOp}{x y:Arg}{fr:Fr}{h:Hp}:Za E (.bin f x y) fr h=⟨false,opT E (Z2 (AOp.slots<|.bin f x y) fr)<|.bin f x y,none,none⟩:=QD rfl rfl
def OG{f:UnOp}{x:Arg}{d:Option Nat}{r:List AOper}{u:List Nat}{us:List (List Nat)}{fr:Fr}{h:Hp}{recs:List DRec}:Zm E (⟨d,(.un f x),none⟩::r) (u::us) fr h recs=dk E d r us (Zv (Za E (.un f x) fr h) recs u) fr recs (Za E (.un f x) fr h) (Z9 E [⟨some 0,(.un f x),none⟩] (Z2 (AOp.slots<|.un f x) fr) h):=Qb rfl
def OH{f:UnOp}{x:Arg}{fr:Fr}{h:Hp}:Za E (.un f x) fr h=⟨false,opT E (Z2 (AOp.slots<|.un f x) fr)<|.un f x,none,none⟩:=QD rfl rfl
def OM{off:Nat}{x:Arg}{d:Option Nat}{r:List AOper}{u:List Nat}{us:List (List Nat)}{fr:Fr}{h:Hp}{recs:List DRec}:Zm E (⟨d,(.fadr off x),none⟩::r) (u::us) fr h recs=dk E d r us (Zv (Za E (.fadr off x) fr h) recs u) fr recs (Za E (.fadr off x) fr h) (Z9 E [⟨some 0,(.fadr off x),none⟩] (Z2 (AOp.slots<|.fadr off x) fr) h):=Qb rfl
def ON{off:Nat}{x:Arg}{fr:Fr}{h:Hp}:Za E (.fadr off x) fr h=⟨false,opT E (Z2 (AOp.slots<|.fadr off x) fr)<|.fadr off x,none,none⟩:=QD rfl rfl
def OO{sz:Nat}{x i:Arg}{d:Option Nat}{r:List AOper}{u:List Nat}{us:List (List Nat)}{fr:Fr}{h:Hp}{recs:List DRec}:Zm E (⟨d,(.iadr sz x i),none⟩::r) (u::us) fr h recs=dk E d r us (Zv (Za E (.iadr sz x i) fr h) recs u) fr recs (Za E (.iadr sz x i) fr h) (Z9 E [⟨some 0,(.iadr sz x i),none⟩] (Z2 (AOp.slots<|.iadr sz x i) fr) h):=Qb rfl
def OP{sz:Nat}{x i:Arg}{fr:Fr}{h:Hp}:Za E (.iadr sz x i) fr h=⟨false,opT E (Z2 (AOp.slots<|.iadr sz x i) fr)<|.iadr sz x i,none,none⟩:=QD rfl rfl
def OQ{sz n:Nat}{x i:Arg}{d:Option Nat}{r:List AOper}{u:List Nat}{us:List (List Nat)}{fr:Fr}{h:Hp}{recs:List DRec}:Zm E (⟨d,(.aadr sz n x i),none⟩::r) (u::us) fr h recs=dk E d r us (Zv (Za E (.aadr sz n x i) fr h) recs u) fr recs (Za E (.aadr sz n x i) fr h) (Z9 E [⟨some 0,(.aadr sz n x i),none⟩] (Z2 (AOp.slots<|.aadr sz n x i) fr) h):=Qb rfl
def OR{sz n:Nat}{x i:Arg}{fr:Fr}{h:Hp}:Za E (.aadr sz n x i) fr h=⟨false,opT E (Z2 (AOp.slots<|.aadr sz n x i) fr)<|.aadr sz n x i,none,none⟩:=QD rfl rfl
def OS{x i:Arg}{d:Option Nat}{r:List AOper}{u:List Nat}{us:List (List Nat)}{fr:Fr}{h:Hp}{recs:List DRec}:Zm E (⟨d,(.sidx x i),none⟩::r) (u::us) fr h recs=dk E d r us (Zv (Za E (.sidx x i) fr h) recs u) fr recs (Za E (.sidx x i) fr h) (Z9 E [⟨some 0,(.sidx x i),none⟩] (Z2 (AOp.slots<|.sidx x i) fr) h):=Qb rfl
def OT{x i:Arg}{fr:Fr}{h:Hp}:Za E (.sidx x i) fr h=⟨false,opT E (Z2 (AOp.slots<|.sidx x i) fr)<|.sidx x i,none,none⟩:=QD rfl rfl
def OU{n:Option Nat}{sz len:Nat}{x i:Arg}{d:Option Nat}{r:List AOper}{u:List Nat}{us:List (List Nat)}{fr:Fr}{h:Hp}{recs:List DRec}:Zm E (⟨d,(.aidx n sz len x i),none⟩::r) (u::us) fr h recs=dk E d r us (Zv (Za E (.aidx n sz len x i) fr h) recs u) fr recs (Za E (.aidx n sz len x i) fr h) (Z9 E [⟨some 0,(.aidx n sz len x i),none⟩] (Z2 (AOp.slots<|.aidx n sz len x i) fr) h):=Qb rfl
def OV{n:Option Nat}{sz len:Nat}{x i:Arg}{fr:Fr}{h:Hp}:Za E (.aidx n sz len x i) fr h=⟨false,opT E (Z2 (AOp.slots<|.aidx n sz len x i) fr)<|.aidx n sz len x i,none,none⟩:=QD rfl rfl
def OW{x:Arg}{i:Nat}{d:Option Nat}{r:List AOper}{u:List Nat}{us:List (List Nat)}{fr:Fr}{h:Hp}{recs:List DRec}:Zm E (⟨d,(.ext x i),none⟩::r) (u::us) fr h recs=dk E d r us (Zv (Za E (.ext x i) fr h) recs u) fr recs (Za E (.ext x i) fr h) (Z9 E [⟨some 0,(.ext x i),none⟩] (Z2 (AOp.slots<|.ext x i) fr) h):=Qb rfl
def OX{x:Arg}{i:Nat}{fr:Fr}{h:Hp}:Za E (.ext x i) fr h=⟨false,opT E (Z2 (AOp.slots<|.ext x i) fr)<|.ext x i,none,none⟩:=QD rfl rfl
def OY{fn:Fn}{f c:List Arg}{d:Option Nat}{r:List AOper}{u:List Nat}{us:List (List Nat)}{fr:Fr}{h:Hp}{recs:List DRec}:Zm E (⟨d,(.mkf fn f c),none⟩::r) (u::us) fr h recs=dk E d r us (Zv (Za E (.mkf fn f c) fr h) recs u) fr recs (Za E (.mkf fn f c) fr h) (Z9 E [⟨some 0,(.mkf fn f c),none⟩] (Z2 (AOp.slots<|.mkf fn f c) fr) h):=Qb rfl
def OZ{fn:Fn}{f c:List Arg}{fr:Fr}{h:Hp}:Za E (.mkf fn f c) fr h=⟨false,opT E (Z2 (AOp.slots<|.mkf fn f c) fr)<|.mkf fn f c,none,none⟩:=rfl
def P0{d:Option Nat}{r:List AOper}{u:List Nat}{us:List (List Nat)}{fr:Fr}{h:Hp}{recs:List DRec}:Zm E (⟨d,.mkm,none⟩::r) (u::us) fr h recs=dk E d r us (Zv (Za E .mkm fr h) recs u) fr recs (Za E .mkm fr h) (Z9 E [⟨some 0,.mkm,none⟩] (Z2 (AOp.slots .mkm) fr) h):=Qb rfl
def P1{ag:Bool}{ks:List Nat}{m k v:Arg}{d:Option Nat}{r:List AOper}{u:List Nat}{us:List (List Nat)}{fr:Fr}{h:Hp}{recs:List DRec}:Zm E (⟨d,(.ins ag ks m k v),none⟩::r) (u::us) fr h recs=dk E d r us (Zv (Za E (.ins ag ks m k v) fr h) recs u) fr recs (Za E (.ins ag ks m k v) fr h) (Z9 E [⟨some 0,(.ins ag ks m k v),none⟩] (Z2 (AOp.slots<|.ins ag ks m k v) fr) h):=Qb rfl
def P7{x:Arg}{lo hi:Option Arg}{d:Option Nat}{r:List AOper}{u:List Nat}{us:List (List Nat)}{fr:Fr}{h:Hp}{recs:List DRec}:Zm E (⟨d,(.ssl x lo hi),none⟩::r) (u::us) fr h recs=dk E d r us (Zv (Za E (.ssl x lo hi) fr h) recs u) fr recs (Za E (.ssl x lo hi) fr h) (Z9 E [⟨some 0,(.ssl x lo hi),none⟩] (Z2 (AOp.slots<|.ssl x lo hi) fr) h):=Qb rfl
def P8{x:Arg}{lo hi:Option Arg}{fr:Fr}{h:Hp}:Za E (.ssl x lo hi) fr h=⟨false,opT E (Z2 (AOp.slots<|.ssl x lo hi) fr)<|.ssl x lo hi,none,none⟩:=QD rfl rfl
def P9{k:Nat}{x:Arg}{d:Option Nat}{r:List AOper}{u:List Nat}{us:List (List Nat)}{fr:Fr}{h:Hp}{recs:List DRec}:Zm E (⟨d,(.len k x),none⟩::r) (u::us) fr h recs=dk E d r us (Zv (Za E (.len k x) fr h) recs u) fr recs (Za E (.len k x) fr h) (Z9 E [⟨some 0,(.len k x),none⟩] (Z2 (AOp.slots<|.len k x) fr) h):=Qb rfl
def Pa{k:Nat}{x:Arg}{fr:Fr}{h:Hp}:Za E (.len k x) fr h=⟨false,opT E (Z2 (AOp.slots<|.len k x) fr)<|.len k x,none,none⟩:=QD rfl rfl
def Pb{fz:Bool}{sz bytes:Nat}{s x:Arg}{d:Option Nat}{r:List AOper}{u:List Nat}{us:List (List Nat)}{fr:Fr}{h:Hp}{recs:List DRec}:Zm E (⟨d,(.app fz sz bytes s x),none⟩::r) (u::us) fr h recs=dk E d r us (Zv (Za E (.app fz sz bytes s x) fr h) recs u) fr recs (Za E (.app fz sz bytes s x) fr h) (Z9 E [⟨some 0,(.app fz sz bytes s x),none⟩] (Z2 (AOp.slots<|.app fz sz bytes s x) fr) h):=Qb rfl
attribute [go_sem] Om Oo Oq Ot Ou Ov Ow Ox Oy Oz OA OB OC OD OG OH OM ON OO OP OQ OR OS OT OU OV OW OX OY OZ P0 P1 P7 P8 P9 Pa Pb Od Of Og Oh Oi Ok Ol Oc Oe Oj Ob IZ O0 O5 O1 O2 O3 O4 Dm IY S8 O7 O6 O8 O9 Oa AOp.slots Arg.slots Xp Ko opT Zs
end Go.AM
namespace Go.AM
open Go
variable {E:Env}
def rlO(h:Hp)(b g off len:Nat)(ex:Bool):Option (Nat×List AV)->Option (AV×Hp)
 |some (sz,es)=>bif Z4 es then some (.isl false ex sz<|(es.drop off).take len,setH h b .gone)else none
 |none=>none
def Pi(h:Hp)(b g off len:Nat)(ex:Bool)(sz:Nat)(es:List AV)(hc:Z4 es=true):rlO h b g off len ex (some (sz,es))=some (.isl false ex sz<|(es.drop off).take len,setH h b .gone):=by simp[rlO,hc]
def rlV(h:Hp):AV->Option (AV×Hp)
 | .sl b g off len ex=>rlO h b g off len ex<|rowAt h b g
 |v=>bif (Zs v).isEmpty then some (v,h)else none
def Pj(h:Hp)(bw ex:Bool)(sz:Nat)(es:List AV):rlV h (.isl bw ex sz es)=some (.isl bw ex sz es,h):=(rfl)
def Pl(h:Hp)(b g off len:Nat)(ex:Bool):rlV h (.sl b g off len ex)=rlO h b g off len ex (rowAt h b g):=(rfl)
def Pm{d:Option Nat}{x:Arg}{r:List AOper}{fr:Fr}{h:Hp}:Z9 E (⟨d,.rel x,none⟩::r) fr h=stw E r d fr (rlV h<|ev E fr x):=
 X9 rfl (by
  simp only[Z8];generalize ev E fr x=v;cases v<;>first|rfl|skip
  case sl b g off len ex=>
   simp only[rlV,rowAt,rlO];cases h[b]? with
   |none=>rfl
   |some o=>
    cases o<;>first|rfl|skip
    case row sz es=>
     dsimp only;cases hg:(es.length==g)
     .rfl
     .cases hc:Z4 es<;>simp[hc,ZH]<;>rfl)
attribute [go_sem] Pi Pj Pl Pm
def ZQ3(h:Hp)(b n i off g:Nat)(y:AV):Option AObj->Option (AV×Hp)
 |some (.row sz es)=>(ZP5 b n i off g sz y es).map λq=>(q.1,ZH h q.2.2)
 |_=>none
def ZRT(h:Hp)(n:Nat)(y:AV):AV->Option (AV×Hp)
 | .ptr b i off g=>ZQ3 h b n i off g y h[b]?
 |_=>none
def ZRU(h:Hp)(n:Nat)(y:AV)(b i off g:Nat):ZRT h n y (.ptr b i off g)=ZQ3 h b n i off g y h[b]?:=rfl
def ZU5{d:Option Nat}{n:Nat}{x y:Arg}{r:List AOper}{fr:Fr}{h:Hp}:Z9 E (⟨d,.asl n x y,none⟩::r) fr h=stw E r d fr (ZRT h n (ev E fr y)<|ev E fr x):=
 X9 rfl (by
  simp only[Z8];generalize ev E fr x=v;cases v<;>first|rfl|skip
  case ptr b i off g=>
   rw[ZRU];dsimp only;cases h[b]? with
   |none=>rfl
   |some o=>
    cases o<;>rfl)
attribute [go_sem] ZRU ZU5
mutual
def msz:AV->Nat
 | .agg cs=>1+QJ cs
 | .tup cs=>1+QJ cs
 | .clo _ a c=>1+QJ a+QJ c
 | .ifc _ v=>1+msz v
 |_=>1
def QJ:List AV->Nat
 |[]=>1
 |v::r=>1+msz v+QJ r
end
mutual
def Dn{h:Hp}:∀(n:Nat)(v:AV),Zy v=true->msz v<=n->freeze true h n v=some v
 |0,v,_,hm=>by cases v<;>simp[msz]at hm<;>omega
 |n+1,v,hn,hm=>by
  cases hc:clean v with
  |true=>unfold freeze;rw[hc];rfl
  |false=>
   unfold freeze;rw[hc,cond_false];cases v with
   |agg cs=>
    have:=Jb (h:=h) n cs hn<|by simp[msz]at hm;omega
    simp only[this,ZXR]
   |tup cs=>
    have:=Jb (h:=h) n cs hn<|by simp[msz]at hm;omega
    simp only[this,ZXR]
   |ifc t x=>
    have:=Dn (h:=h) n x hn<|by simp[msz]at hm;omega
    simp only[this,ZXR]
   |clo fn a c=>
    have hn':Zi a=true/\Zi c=true:=by simpa[Zy]using hn
    have h1:=Jb (h:=h) n a hn'.1<|by simp[msz]at hm;omega
    have h2:=Jb (h:=h) n c hn'.2<|by simp[msz]at hm;omega
    simp only[h1,h2]
   |iptr bw cs=>cases bw<;>first|rfl|(simp[clean]at hc)
   |isl bw ex sz es=>cases bw<;>first|rfl|(simp[clean]at hc)
   |imap bw ks vs=>cases bw<;>first|rfl|(simp[clean]at hc)
   |ptr b i off g=>simp[Zy]at hn
   |sl b g off len ex=>simp[Zy]at hn
   |mp b=>simp[Zy]at hn
   |it b=>simp[Zy]at hn
   |yld b=>simp[Zy]at hn
   |_=>simp[clean]at hc
def Jb{h:Hp}:∀(n:Nat)(v:List AV),Zi v=true->QJ v<=n->ZC true h n v=some v
 |0,v,_,hm=>by cases v<;>simp[QJ]at hm<;>omega
 |n+1,v,hn,hm=>by
  cases hc:Z4 v with
  |true=>unfold ZC;rw[hc];rfl
  |false=>
   unfold ZC;rw[hc,cond_false];cases v with
   |nil=>rfl
   |cons x r=>
    have hn':Zy x=true/\Zi r=true:=by simpa[Zi]using hn
    have h1:=Dn (h:=h) n x hn'.1<|by simp[QJ]at hm;omega
    have h2:=Jb (h:=h) n r hn'.2<|by simp[QJ]at hm;omega
    simp only[h1,h2]
end
def GQ(h:Hp)(l:List AV)(hn:Zi l=true)(hm:QJ l<=40):Ql h l=some l:=by
 unfold Ql;cases hc:Z4 l with
 |true=>rfl
 |false=>exact Jb 40 l hn hm
def Pn:QJ []=1:=(rfl)
def Po(v:AV)(r:List AV):QJ (v::r)=1+msz v+QJ r:=(rfl)
def Pp(cs:List AV):msz (.agg cs)=1+QJ cs:=(rfl)
def Pr(fn:Fn)(a c:List AV):msz (.clo fn a c)=1+QJ a+QJ c:=(rfl)
def Ps(b:Bool):msz (.bool b)=1:=(rfl)
def Pu(k:IntKind)(n:Int):msz (.int k n)=1:=(rfl)
def Pv(s:ByteArray):msz (.str s)=1:=(rfl)
def Pw(bw ex:Bool)(sz:Nat)(es:List AV):msz (.isl bw ex sz es)=1:=(rfl)
def Px(bw:Bool)(es:List AV):msz (.iptr bw es)=1:=(rfl)
attribute [go_sem] Pn Po Pp Pr Ps Pu Pv Pw Px
attribute [go_sem 1100] GQ
end Go.AM
namespace Go.AM
open Go
variable {E:Env}
def frV(fr:Fr):List AV:=fr.map (·.2)
def Pz(n:Nat):Zd n []=true:=(rfl)
def PA(n:Nat)(v:AV)(r:List AV):Zd n (v::r)=(bel n v&&Zd n r):=(rfl)
def PB(n:Nat):bel n .bot=true:=(rfl)
def PC(n:Nat)(b:Bool):bel n (.bool b)=true:=(rfl)
def PD(n:Nat)(k:IntKind)(i:Int):bel n (.int k i)=true:=(rfl)
def PE(n:Nat)(s:ByteArray):bel n (.str s)=true:=(rfl)
def PF(n:Nat)(bw ex:Bool)(sz:Nat)(es:List AV):bel n (.isl bw ex sz es)=true:=(rfl)
def PG(n:Nat)(bw:Bool)(es:List AV):bel n (.iptr bw es)=true:=(rfl)
def PI(n:Nat)(cs:List AV):bel n (.agg cs)=Zd n cs:=(rfl)
def PN(n:Nat):bel n .nilfn=true:=(rfl)
def PO(n:Nat)(fn:Fn)(a c:List AV):bel n (.clo fn a c)=(Zd n a&&Zd n c):=(rfl)
def PQ(n b i off g:Nat):bel n (.ptr b i off g)=Nat.blt b n:=(rfl)
def PR(n b g off len:Nat)(ex:Bool):bel n (.sl b g off len ex)=Nat.blt b n:=(rfl)
def PS(n b:Nat):bel n (.mp b)=Nat.blt b n:=(rfl)
def PT(n b:Nat):bel n (.it b)=Nat.blt b n:=(rfl)
def PU(n b:Nat):bel n (.yld b)=Nat.blt b n:=(rfl)
def PV(n sz:Nat)(es:List AV):Zj n (.row sz es)=Zd n es:=(rfl)
def PW(n:Nat)(ks vs:List AV):Zj n (.map ks vs)=(Zd n ks&&Zd n vs):=(rfl)
def PX(n:Nat)(s:ByteArray)(p:Nat):Zj n (.iter s p)=true:=(rfl)
def PY(n:Nat):Zj n .gone=true:=(rfl)
def Z00(n:Nat)(st:LoopState)(p:AExit)(fr:Fr)(ps:List Nat)(a b:ACode):Zj n (.loop st p fr ps a b)=Zd n (frV fr):=(rfl)
def Z01(n:Nat):X4 n []=true:=(rfl)
def Z02(n:Nat)(o:AObj)(r:List AObj):X4 n (o::r)=(Zj n o&&X4 n r):=(rfl)
def trimB(n:Nat)(h:Hp)(b:Bool):Hp:=bif b then h.take n else h
def Z03(n:Nat)(h:Hp):trimB n h true=h.take n:=(rfl)
def Z04(n:Nat)(h:Hp):trimB n h false=h:=(rfl)
def Z05:frV []=[]:=(rfl)
def Z06(t:Nat)(v:AV)(r:Fr):frV ((t,v)::r)=v::frV r:=(rfl)
def Z07(n:Nat)(fr:Fr)(o:AObj)(h:Hp):Xq n fr (o::h)=trimB n (o::h) (Zd n (frV fr)&&X4 n ((o::h).take n)):=(rfl)
mutual
theorem Dp{n:Nat}:∀v:AV,clean v=true->bel n v=true
 | .agg cs,h=>ZN cs h
 | .tup cs,h=>ZN cs h
 | .ifc _ v,h=>Dp v h
 | .clo _ a c,h=>by
  have h':Z4 a=true/\Z4 c=true:=by simpa[clean]using h
  simp only[bel,ZN a h'.1,ZN c h'.2,ZY3]
 | .ptr ..,h| .sl ..,h| .mp _,h| .it _,h| .yld _,h=>by simp[clean]at h
 | .bot,_| .bool _,_| .int ..,_| .str _,_| .nilp,_| .nilsl,_| .nilmap,_| .nilfn,_| .nilif,_| .iptr ..,_| .isl ..,_| .imap ..,_=>rfl
theorem ZN{n:Nat}:∀l:List AV,Z4 l=true->Zd n l=true
 |[],_=>rfl
 |v::r,h=>by
  have h':clean v=true/\Z4 r=true:=by simpa[Z4]using h
  simp only[Zd,Dp v h'.1,ZN r h'.2,ZY3]
end
attribute [go_sem] Pz PA PB PC PD PE PF PG PI PN PO PQ PR PS PT PU PV PW PX PY Z00 Z01 Z02 Z03 Z04 Z05 Z06 Z07 List.take_succ_cons List.take_zero List.take_nil List.length_cons List.length_nil List.length_map List.map_cons List.map_nil List.nil_append List.cons_append
def Z08(b:Bool):scalar (.bool b)=true:=(rfl)
def scalar_int(k:IntKind)(n:Int):scalar (.int k n)=true:=(rfl)
def Z09(s:ByteArray):scalar (.str s)=true:=(rfl)
def Z0a(bw ex:Bool)(sz:Nat)(es:List AV):scalar (.isl bw ex sz es)=true:=(rfl)
def Z0b(bw:Bool)(es:List AV):scalar (.iptr bw es)=true:=(rfl)
def Z0d(fn:Fn)(a c:List AV):scalar (.clo fn a c)=true:=(rfl)
def Z0f(b g off len:Nat)(ex:Bool):scalar (.sl b g off len ex)=true:=(rfl)
def Z0g(b:Nat):scalar (.mp b)=true:=(rfl)
def Z0j:scalar .nilfn=true:=(rfl)
def Z0k(sz:Nat)(cs:List AV):fits sz (.agg cs)=(cs.length==sz&&cs.all scalar):=(rfl)
def fits_bool(sz:Nat)(b:Bool):fits sz (.bool b)=(sz==1):=(rfl)
def fits_int(sz:Nat)(k:IntKind)(n:Int):fits sz (.int k n)=(sz==1):=(rfl)
def Z0l(sz:Nat)(s:ByteArray):fits sz (.str s)=(sz==1):=(rfl)
def Z0m(sz:Nat)(bw ex:Bool)(z:Nat)(es:List AV):fits sz (.isl bw ex z es)=(sz==1):=(rfl)
def Z0n(sz:Nat)(b g off len:Nat)(ex:Bool):fits sz (.sl b g off len ex)=(sz==1):=(rfl)
def Z0o(sz:Nat)(b i off g:Nat):fits sz (.ptr b i off g)=(sz==1):=(rfl)
def Z0p(sz:Nat)(bw:Bool)(es:List AV):fits sz (.iptr bw es)=(sz==1):=(rfl)
def Z0q(sz:Nat)(b:Nat):fits sz (.mp b)=(sz==1):=(rfl)
def Z0r(sz:Nat)(fn:Fn)(a c:List AV):fits sz (.clo fn a c)=(sz==1):=(rfl)
attribute [go_sem] Z08 scalar_int Z09 Z0a Z0b Z0d Z0f Z0g Z0j Z0k fits_bool fits_int Z0l Z0m Z0n Z0o Z0p Z0q Z0r List.all_cons List.all_nil List.drop_succ_cons List.drop_zero List.drop_nil
def Ue(a b:Nat):Nat.ble a b=decide (a<=b):=by rw[ZZm];simp
def N7(a b:Nat):Nat.blt a b=decide (a<b):=by rw[ZZm];simp_all
def Z0s(cs:List AV):fill cs []=some cs:=(rfl)
def Z0t(cs:List AV)(off sz:Nat)(v:AV)(r:List<|Nat×Nat×AV):fill cs ((off,sz,v)::r)=bif fits sz v&&Nat.ble (off+sz) cs.length then fill (cs.take off++v.cells++cs.drop (off+sz)) r else none:=(rfl)
def Z0u(sz:Nat)(cs:List AV):YC sz cs []=some cs:=(rfl)
def Z0v(sz:Nat)(cs:List AV)(i:Nat)(v:AV)(r:List<|Nat×AV):YC sz cs ((i,v)::r)=bif fits sz v&&Nat.blt i cs.length then YC sz (cs.set i v) r else none:=(rfl)
attribute [go_sem] Ue N7 Z0s Z0t Z0u Z0v List.set_cons_zero List.set_cons_succ List.replicate_succ List.replicate_zero
def Z0w(a1 a2:Bool)(r1 r2:List Nat)(k1 k2:Option<|AV×AV):Qy ⟨a1,r1,none,k1⟩ ⟨a2,r2,none,k2⟩=true:=(rfl)
def Z0x(a1 a2:Bool)(r1 r2:List Nat)(b:Nat)(k1 k2:Option<|AV×AV):Qy ⟨a1,r1,some b,k1⟩ ⟨a2,r2,none,k2⟩=(!a2&&!r2.contains b):=by simp[Qy]
def Z0y(a1 a2:Bool)(r1 r2:List Nat)(b:Nat)(k1 k2:Option<|AV×AV):Qy ⟨a1,r1,none,k1⟩ ⟨a2,r2,some b,k2⟩=(!a1&&!r1.contains b):=rfl
def Z0z(a1 a2:Bool)(r1 r2:List Nat)(b c:Nat)(k1 k2:Option<|AV×AV):Qy ⟨a1,r1,some b,k1⟩ ⟨a2,r2,some c,k2⟩=((!a2&&!r2.contains b&&(!(c==b)||Kp ⟨a1,r1,some b,k1⟩ ⟨a2,r2,some c,k2⟩))&&(!a1&&!r1.contains c)):=(rfl)
attribute [go_sem] Z0w Z0x Z0y Z0z List.contains_cons List.contains_nil Bool.true_or Bool.or_true Bool.false_or Bool.or_false
noncomputable def Zg(E:Env)(live:List Nat)(b:ACode)(fr:Fr)(h:Hp):Option (AExit×Fr×Hp):=Zb E (.loop live b) fr h
def Z0A{live:List Nat}{b:ACode}{fr:Fr}{h:Hp}:Zb E (.loop live b) fr h=Zg E live b (Z2 live fr) h:=by
 grind [Zg,GF]
attribute [go_sem] Z0A
theorem Yt{live:List Nat}{b:ACode}{fr fr':Fr}{h h':Hp}(hr:Z2 live fr=fr)(hc:Zb E b fr h=some (.normal,fr',h')):Zg E live b fr h=Zg E live b (Z2 live fr') h':=by
 grind [Zg,J2,LH,GF]
theorem Q7{live:List Nat}{b:ACode}{fr fr':Fr}{h h':Hp}{e:AExit}(hr:Z2 live fr=fr)(hc:Zb E b fr h=some (e,fr',h'))(he:e≠.normal):Zg E live b fr h=some (e,fr',h'):=by
 unfold Zg;rw[J2,hr,hc];cases e<;>first|exact absurd rfl he|rfl
def Z9Y{live:List Nat}{b:ACode}(n:Nat)(M:Nat->Fr->Hp->Prop)(Q:AExit->Fr->Hp->Prop)
 (hr:∀i fr h,M i fr h->Z2 live fr=fr)
 (step:∀i fr h,i<n->M i fr h->(∃fr' h',Zb E b fr h=some (.normal,fr',h')/\M (i+1) (Z2 live fr') h')\/(∃e fr' h',Zb E b fr h=some (e,fr',h')/\e≠.normal/\Q e fr' h'))
 (last:∀fr h,M n fr h->∃e fr' h',Zb E b fr h=some (e,fr',h')/\e≠.normal/\Q e fr' h'):
 ∀k i fr h,k+i=n->M i fr h->∃e fr' h',Zg E live b fr h=some (e,fr',h')/\Q e fr' h':=by
 intro k;induction k with
 |zero=>
  grind [Q7]
 |succ k ih=>
  grind [Yt,Q7]
def Zu{α:Type}(P:Nat->α->Bool):Nat->List α->Bool
 |_,[]=>true
 |i,x::r=>P i x&&Zu P (i+1) r
theorem QE{α:Type}(P:α->Bool):∀(l:List α)(i:Nat),Zu (λ_ x=>P x) i l=l.all P
 |[],_=>rfl
 |x::r,i=>by simp[Zu,QE P r]
def Uf{α:Type}{live:List Nat}{b:ACode}{h:Hp}(l:List α)(P:Nat->α->Bool)(S:Nat->Fr)(out:Nat)(Q:Fr->Prop)
 (hr:∀i,Z2 live (S i)=S i)
 (good:∀i x,l[i]?=some x->P i x=true->∃fr',Zb E b (S i) h=some (.normal,fr',h)/\Z2 live fr'=S (i+1))
 (bad:∀i x,l[i]?=some x->P i x=false->∃fr',Zb E b (S i) h=some (.ret,fr',h)/\Q fr')
 (last:∃fr',Zb E b (S l.length) h=some (.exit out,fr',h)):
 ∃fr',Zg E live b (S 0) h=some (if Zu P 0 l=true then .exit out else .ret,fr',h)/\(Zu P 0 l=false->Q fr'):=by
 suffices H:∀(post pre:List α),l=pre++post->∃fr',Zg E live b (S pre.length) h=some (if Zu P pre.length post=true then .exit out else .ret,fr',h)/\(Zu P pre.length post=false->Q fr')from H l [] rfl
 intro post;induction post with
 |nil=>
  grind [Zu,Q7]
 |cons x post ih=>
  intro pre hp;have hx:l[pre.length]?=some x:=by grind
  cases hP:P pre.length x with
  |true=>
   obtain⟨fr1,h1,h2⟩:=good _ _ hx hP;obtain⟨fr',h3,h4⟩:=ih (pre++[x])<|by grind
   rw[ZXy,ZY7]at h3 h4;refine⟨fr',?_,?_⟩
   .rw[Yt (hr _) h1,h2,h3]
    simp_all[Zu]
   simp_all[Zu]
  |false=>
   grind [Q7,Zu]
end Go.AM
namespace Go.AM
open Go
variable {E:Env}
def ZHj(d:Option Nat)(r:List AOper)(u:List Nat)(us:List<|List Nat)(fr:Fr)(h:Hp)(recs:List DRec)(p:AV×DRec×Option (Nat×AObj)):
 rkw E d r u us fr h recs (some p)=okd recs u h p.2.1 p.2.2 (Zm E r us (ZB fr d p.1) (ZH h p.2.2)<|recs++[p.2.1]):=rfl
attribute [go_sem] ZHj ZL4
end Go.AM
namespace Go.AM
open Go
def ZvF(caps:List AV)(x:AV):Option (List Int):=match caps,x with
 |[.iptr _ [.isl _ _ 8 vs]],.agg [.int .i64 i,.int .i64 k]=>bif decide (0<=i)&&decide (0<=k)then(match vs[i.toNat]? with
  |some (.agg [.int .i64 au,.int .i64 nu,.int .i64 at',.str _,.isl _ _ 18 es,.int .i64 _,.isl _ _ _ _,.isl _ _ _ _])=>match es[k.toNat]? with
   |some (.agg<|_::.int .i64 day::_)=>some [day,at',au,nu,k]
   |_=>none
  |_=>none)else none
 |_,_=>none
def ZEf:AV->Option (List Int)
 | .agg [.str s,.int .i64 _,.int .i64 _]=>some<|s.data.toList.map λb=>(b.toNat:Int)
 |_=>none
def N8(f:Nat):Option (List AV->Hp->Option (AV×Hp)):=
 bif Nat.blt f 212 then(bif Nat.blt f 98 then(bif Nat.blt f 58 then(bif Nat.blt f 20 then(bif Nat.beq f 18 then some (ZoZ 332)else none)else(bif Nat.beq f 20 then some (ZvY)else none))else(bif Nat.blt f 62 then(bif Nat.beq f 58 then some (ZPn)else none)else(bif Nat.blt f 96 then(bif Nat.beq f 62 then some (ZvW 63 2 ZvF)else none)else(bif Nat.beq f 96 then some (ZEo<|ZE7 97)else none))))else(bif Nat.blt f 127 then(bif Nat.blt f 111 then(bif Nat.beq f 98 then some (ZEo<|ZEe 99 3 ZEf)else none)else(bif Nat.blt f 112 then(bif Nat.beq f 111 then some (ZPm)else none)else(bif Nat.beq f 112 then some (ZPl)else none)))else(bif Nat.blt f 210 then(bif Nat.beq f 127 then some (ZPp)else none)else(bif Nat.blt f 211 then(bif Nat.beq f 210 then some (U9)else none)else(bif Nat.beq f 211 then some (ZPo)else none)))))else(bif Nat.blt f 267 then(bif Nat.blt f 259 then(bif Nat.blt f 255 then(bif Nat.beq f 212 then some (J6)else none)else(bif Nat.beq f 255 then some (J9)else none))else(bif Nat.blt f 263 then(bif Nat.beq f 259 then some (ZOi 2)else none)else(bif Nat.blt f 264 then(bif Nat.beq f 263 then some (J7)else none)else(bif Nat.beq f 264 then some (J8)else none))))else(bif Nat.blt f 278 then(bif Nat.blt f 270 then(bif Nat.beq f 267 then some (ZOi 6)else none)else(bif Nat.blt f 275 then(bif Nat.beq f 270 then some (ZOi 5)else none)else(bif Nat.beq f 275 then some (ZOi 16)else none)))else(bif Nat.blt f 282 then(bif Nat.beq f 278 then some (ZOi 4)else none)else(bif Nat.blt f 377 then(bif Nat.beq f 282 then some (ZOi 6)else none)else(bif Nat.beq f 377 then some (Ja)else none)))))
def ZF1(f:Nat):Option (List AV->Nat->List AV->Option (List AV)):=bif Nat.beq f 96 then some (ZE7 97)else bif Nat.beq f 98 then some (ZEe 99 3 ZEf)else none
class REdz where
 hd:Option<|List AV->Hp->Option (AV×Hp)
 bd:Option<|List AV->Hp->Option (AV×Hp)
def glT(g:Nat):AV:=bif Nat.beq g 3 then .iptr false (Go.Lib.pow10Tab.map<|.int .u64)else bif Nat.beq g 4 then .iptr false [.ifc 467 .bot]else bif Nat.beq g 5 then .iptr false [.ifc 467 .bot]else .bot
def ckS(k:Nat):List AV->Bool
 |[.iptr false [.clo (.func f) [] []]]=>Nat.beq f k
 |_=>false
def ZEm(caps:List AV)(x:AV):Option (List Int):=bif ckS 99 caps then ZEf x else none
def ZFE(f:Nat):Option (List AV->Hp->Option (AV×Hp)):=bif Nat.beq f 183 then some (ZEt 184<|ckS 97)else bif Nat.beq f 186 then some (ZvW 187 3 ZEm)else none
def e1:Env:={fn:=ZGw,gl:=glT,sum:=ZFE}
def rE[REdz]:Env:={fn:=N0,gl:=glT,sum:=λf=>bif Nat.beq f 4 then REdz.hd else bif Nat.beq f 7 then REdz.bd else N8 f,rs:=ZF1}
def XB(sz:Nat)(n:Option Nat):ACode:=
 .keep [0,1,4,7,8]<|.seq (.region [o 9<|.bin .lss (.t 8)<|.t 7])<|
  .seq (.cond (.t 9) (.skip)<|.exit 0)<|
  .seq (.keep [0,1,4,7,8]<|.block 1<|
   .seq (.region [o 10<|.mv<|.t 8,o 5<|.mv<|.t 10])<|
   .seq (.keep [0,1,5,7,8,16]<|.region [o 11<|.mv<|.t 1,o 12<|.mv<|.t 0,o 13<|.mv<|.t 5,o 14<|.iadr sz (.t 12)<|.t 13,o 15<|.load n<|.t 14,o 16<|.callv true (.t 11) [(.t 15)]])<|
   .cond (.t 16) (.seq (.region [o 17<|.mv<|.t 5,o 4<|.mv<|.t 17])<|.ret) (.skip))<|
  .region [o 18<|.bin .add (.t 8)<|.c<|.int .i64 1,o 8<|.mv<|.t 18]
def GR(sz:Nat)(n:Option Nat):ACode:=
 .seq (.region [o 4<|.mv<|.c<|.int .i64 0])<|
 .seq (.seq (.keep [0,1,7,8]<|.region [o 6<|.mv<|.t 0,o 7<|.len 1<|.t 6,o 8<|.mv<|.c<|.int .i64 0])<|
 .keep [4]<|.block 0<|.loop [0,1,7,8]<|XB sz n)<|
 .seq (.region [o 4<|.mv<|.c<|.int .i64<|-1])<|
 .ret
def Zp{α:Type}(p:α->Bool):List α->Int->Int
 |[],_=>-1
 |x::r,i=>bif p x then i else Zp p r<|i+1
def Yu(n:Option Nat)(e:AV):Prop:=clean e=true/\takeC n e.cells=some e
def Vd{α:Type}(sz:Nat)(g:Nat)(cap:List AV)(enc:α->AV)(l:List α)(bw ex:Bool)(i:Nat):Fr:=
 [(0,.isl bw ex sz<|l.map enc),(1,.clo (.func g) [] cap),(7,.int .i64 l.length),(8,.int .i64 i)]
def Z0B{E:Env}{α:Type}{sz:Nat}{n:Option Nat}{enc:α->AV}{p:α->Bool}{g:Nat}{cap:List AV}(o:Z4 cap=true)(l:List α)(w:l.length<=4611686018427387904)(d:∀x∈l,Yu n<|enc x)
 (t:∀x∈l,pfn E g (enc x::cap)=some (.bool<|p x)) (bw ex:Bool):∀(b a:List α),l=a++b->
  ∃fr',Zb E (.loop [0,1,7,8]<|XB sz n) (Vd sz g cap enc l bw ex a.length) []=some (if Zp p b a.length=-1 then .exit 0 else .ret,fr',[])/\(Zp p b a.length≠-1->get fr' 4=.int .i64 (Zp p b a.length)):=by
 intro b;induction b with
 |nil=>
  intro a c;have q:decide ((a.length:Int)<(l.length:Int))=false:=by subst c;simp
  rw[J2];unfold Vd;simp only[go_sem,XB,q,qy,reduceIte,Zp];exact⟨_,rfl,λh=>absurd rfl h⟩
 |cons x b ih=>
  intro a c;have r:x∈l:=by rw[c];simp
  have k:a.length<l.length:=by rw[c];simp
  have q:decide ((a.length:Int)<(l.length:Int))=true:=by simpa using k
  have e:ixG (l.map enc) (a.length:Int)=some (enc x):=by rw[c,ZXx,ZXn];have:=RK (a.map enc) (enc x)<|b.map enc;rwa[ZXg]at this
  have i:=(d x r).2;have f:Z4 (enc x::cap)=true:=by simp[Z4,(d x r).1,o]
  have j:=t x r;rw[J2];unfold Vd;have v:IntKind.i64.wrap ((a.length:Int)+1)=((a++[x]).length:Int):=by rw[Zx<|by omega];simp
  have s:((a++[x]).length:Int)=(a.length:Int)+1:=by simp
  cases m:p x with
  |true=>
   have u:((a.length:Int)=-1)=False:=by simp
   simp only[go_sem,XB,q,e,i,f,j,m,qy,reduceIte,Zp,ZXo,ZXl,u];exact⟨_,rfl,λ_=>rfl⟩
  |false=>
   obtain⟨fr',h1,h2⟩:=ih (a++[x])<|by simp[c]
   rw[s]at h1 h2;simp only[go_sem,XB,q,e,i,f,j,m,v,qy,reduceIte,Zp,ZXo,ZXl];exact⟨fr',(Dl<|by rfl).trans h1,h2⟩
def WF{E:Env}{f:Nat}{α:Type}{sz:Nat}{n:Option Nat}{enc:α->AV}{p:α->Bool}{g:Nat}{cap:List AV}(e:E.sum f=none)(k:E.fn f=some ⟨[.tmp 4],GR sz n⟩)(b:Z4 cap=true)(l:List α)(i:l.length<=4611686018427387904)
 (a:∀x∈l,Yu n<|enc x) (h:∀x∈l,pfn E g (enc x::cap)=some (.bool<|p x)) (bw ex:Bool):pfn E f [.isl bw ex sz<|l.map enc,.clo (.func g) [] cap]=some (.int .i64<|Zp p l 0):=by
 rw[Z5 e k];obtain⟨fr',h1,h2⟩:=Z0B (E:=E) b l i a h bw ex l [] rfl;have m:Z2 [0,1,7,8] [(8,AV.int .i64 0),(7,AV.int .i64 l.length),(6,AV.isl bw ex sz<|l.map enc),(4,AV.int .i64 0),(0,AV.isl bw ex sz<|l.map enc),(1,AV.clo (.func g) [] cap)]=Z2 [0,1,7,8] (Vd sz g cap enc l bw ex 0):=by rfl
 have d:Zb E (.loop [0,1,7,8]<|XB sz n) [(0,AV.isl bw ex sz<|l.map enc),(1,AV.clo (.func g) [] cap),(7,AV.int .i64 l.length),(8,AV.int .i64 0)] []=some (if Zp p l 0=-1 then .exit 0 else .ret,fr',[]):=h1
 unfold GR;by_cases c:Zp p l 0=-1
 .rw[if_pos c]at d;simp only[go_sem,d,c,qy,Nat.reduceAdd,ZXg]
 .rw[if_neg c]at d;have j:get fr' 4=AV.int .i64 (Zp p l 0):=h2 c;simp only[go_sem,d,j,qy,Nat.reduceAdd,ZXg]
structure SL(α:Type) where
 bw:Bool:=false
 ex:Bool:=false
 l:List α
 deriving DecidableEq
structure NL(α:Type) where
 ex:Bool:=false
 l:List α
 deriving DecidableEq
abbrev Str:=ByteArray
structure Pt where
 X:Int
 Y:Int
 deriving DecidableEq
structure HN where
 N:Int
 bn:Str
 Num:Int
 Den:Int
 deriving DecidableEq
structure Nm where
 Lang:Str
 Script:Int
 Text:Str
 deriving DecidableEq
structure Ent where
 Id:Str
 An:HN
 bg:Pt
 deriving DecidableEq
structure Gk where
 Id:Str
 br:Int
 bh:Int
 Ring:NL Pt
 bm:NL Nm
 Ld:Int
structure By where
 Id:Str
 bh:Int
 Line:NL Pt
 bm:NL Nm
 Ld:Int
structure Ev where
 Id:Str
 bh:Int
 Ring:NL Pt
 Ld:Int
structure Ga where
 Id:Str
 Ev:Str
 By:Str
 bh:Int
 An:HN
 bg:Pt
 From:Int
 Ld:Int
 After:NL Str
 Why:Int
 bz:Int
 Veil:Str
structure be where
 Id:Str
 Ga:Str
 Text:Str
 From:Int
 Ld:Int
 Why:Int
 deriving DecidableEq
structure bf where
 a:Int
 b:Int
 deriving DecidableEq
structure State where
 Fa:SL Gk
 Gm:SL By
 Bt:SL Ev
 Bc:SL Ga
 Nk:SL be
 Gc:SL bf
 ba:SL bf
structure Gt where
 br:Int
 Day:Int
 A:Int
 B:Int
 bz:Int
 Id:Str
 bv:Str
 Text:Str
 Ids:NL Str
 bm:NL Nm
 An:HN
 bg:Pt
 Path:NL Pt
 Lst:NL Ent
abbrev I(n:Int):AV:=.int .i64 n
def SL.enc{α:Type}(sz:Nat)(f:α->AV)(s:SL α):AV:=.isl s.bw s.ex sz<|s.l.map f
def NL.enc{α:Type}(sz:Nat)(f:α->AV)(s:NL α):AV:=.isl false s.ex sz<|s.l.map f
def Pt.enc(p:Pt):AV:=.agg [.int .i64 p.X,.int .i64 p.Y]
def HN.enc(n:HN):AV:=.agg [.int .i64 n.N,.str n.bn,.int .i64 n.Num,.int .i64 n.Den]
def Nm.enc(n:Nm):AV:=.agg [.str n.Lang,.int .i64 n.Script,.str n.Text]
def Ent.enc(e:Ent):AV:=.agg [.str e.Id,.int .i64 e.An.N,.str e.An.bn,.int .i64 e.An.Num,.int .i64 e.An.Den,.int .i64 e.bg.X,.int .i64 e.bg.Y]
def encS(s:Str):AV:=.str s
def Gk.enc(x:Gk):AV:=.agg [.str x.Id,.int .i64 x.br,.int .i64 x.bh,x.Ring.enc 2 Pt.enc,x.bm.enc 3 Nm.enc,.int .i64 x.Ld]
def By.enc(x:By):AV:=.agg [.str x.Id,.int .i64 x.bh,x.Line.enc 2 Pt.enc,x.bm.enc 3 Nm.enc,.int .i64 x.Ld]
def Ev.enc(x:Ev):AV:=.agg [.str x.Id,.int .i64 x.bh,x.Ring.enc 2 Pt.enc,.int .i64 x.Ld]
def Ga.enc(d:Ga):AV:=.agg [.str d.Id,.str d.Ev,.str d.By,.int .i64 d.bh,.int .i64 d.An.N,.str d.An.bn,.int .i64 d.An.Num,.int .i64 d.An.Den,.int .i64 d.bg.X,.int .i64 d.bg.Y,
 .int .i64 d.From,.int .i64 d.Ld,d.After.enc 1 encS,.int .i64 d.Why,.int .i64 d.bz,.str d.Veil]
def be.enc(u:be):AV:=.agg [.str u.Id,.str u.Ga,.str u.Text,.int .i64 u.From,.int .i64 u.Ld,.int .i64 u.Why]
def bf.enc(p:bf):AV:=.agg [.int .i64 p.a,.int .i64 p.b]
def State.cells(s:State):List AV:=[s.Fa.enc 6 Gk.enc,s.Gm.enc 5 By.enc,s.Bt.enc 4 Ev.enc,s.Bc.enc 16 Ga.enc,s.Nk.enc 6 be.enc,s.Gc.enc 2 bf.enc,s.ba.enc 2 bf.enc]
def State.enc(s:State):AV:=.agg s.cells
def Gt.cells(e:Gt):List AV:=[.int .i64 e.br,.int .i64 e.Day,.int .i64 e.A,.int .i64 e.B,.int .i64 e.bz,.str e.Id,.str e.bv,.str e.Text,e.Ids.enc 1 encS,e.bm.enc 3 Nm.enc,
 .int .i64 e.An.N,.str e.An.bn,.int .i64 e.An.Num,.int .i64 e.An.Den,.int .i64 e.bg.X,.int .i64 e.bg.Y,e.Path.enc 2 Pt.enc,e.Lst.enc 7 Ent.enc]
def Gt.enc(e:Gt):AV:=.agg e.cells
def Pt.el(p:Pt):Yu (some 2) p.enc:=⟨(rfl),(rfl)⟩
def Nm.el(p:Nm):Yu (some 3) p.enc:=⟨(rfl),(rfl)⟩
def Ent.el(p:Ent):Yu (some 7) p.enc:=⟨(rfl),(rfl)⟩
def Gk.el(p:Gk):Yu (some 6) p.enc:=⟨(rfl),(rfl)⟩
def By.el(p:By):Yu (some 5) p.enc:=⟨(rfl),(rfl)⟩
def Ev.el(p:Ev):Yu (some 4) p.enc:=⟨(rfl),(rfl)⟩
def Ga.el(p:Ga):Yu (some 16) p.enc:=⟨(rfl),(rfl)⟩
def be.el(p:be):Yu (some 6) p.enc:=⟨(rfl),(rfl)⟩
def bf.el(p:bf):Yu (some 2) p.enc:=⟨(rfl),(rfl)⟩
def NL.clean_enc{α:Type}(sz:Nat)(f:α->AV)(s:NL α):clean (s.enc sz f)=true:=(rfl)
def Gt.clean_enc(e:Gt):clean e.enc=true:=(rfl)
def Gt.cleans_cells(e:Gt):Z4 e.cells=true:=(rfl)
def State.noref_enc(s:State):Zy s.enc=true:=(rfl)
def NL.noref_enc{α:Type}(sz:Nat)(f:α->AV)(s:NL α):Zy (s.enc sz f)=true:=(rfl)
def SL.noref_enc{α:Type}(sz:Nat)(f:α->AV)(s:SL α):Zy (s.enc sz f)=true:=(rfl)
def Gt.noref_enc(e:Gt):Zy e.enc=true:=(rfl)
def NL.msz_enc{α:Type}(sz:Nat)(f:α->AV)(s:NL α):msz (s.enc sz f)=1:=(rfl)
def SL.msz_enc{α:Type}(sz:Nat)(f:α->AV)(s:SL α):msz (s.enc sz f)=1:=(rfl)
def State.msz_enc(s:State):msz s.enc=16:=by simp[State.enc,State.cells,msz,QJ,SL.msz_enc]
def Gt.msz_enc(e:Gt):msz e.enc=38:=by simp[Gt.enc,Gt.cells,msz,QJ,NL.msz_enc]
attribute [go_sem] NL.noref_enc SL.noref_enc Gt.noref_enc NL.msz_enc SL.msz_enc State.msz_enc Gt.msz_enc NL.clean_enc Gt.clean_enc State.noref_enc
def Z6{α:Type}{f:α->AV}{l:List α}{i:Nat}{x:α}(h:l[i]?=some x):(l.map f)[i]?=some (f x):=by simp[h]
def Z7{α:Type}{l:List α}{i:Nat}{x:α}(h:l[i]?=some x):i<l.length:=(ZXu.1 h).1
def Zh{i n:Nat}(h:i<n):decide ((i:Int)<(n:Int))=true:=by simpa using h
def ZG(n:Nat):decide ((n:Int)<(n:Int))=false:=by simp
def cellV(h:Hp)(n:Option Nat):AV->Option AV
 | .ptr b i off g=>ldE n i off<|rowAt h b g
 | .iptr _ cs=>takeC n cs
 |_=>none
def Z0D(h:Hp)(n:Option Nat)(b i off g:Nat):cellV h n (.ptr b i off g)=ldE n i off (rowAt h b g):=rfl
def Dq(fr:Fr)(h:Hp)(t:Nat)(n:Option Nat):WX fr h (.cell t n)=cellV h n (get fr t):=by
 simp only[WX,cellV];generalize get fr t=v;cases v<;>first|rfl|skip
 case ptr b i off g=>
  simp only[rowAt,ldE];cases h[b]? with
  |none=>rfl
  |some o=>
   cases o<;>first|rfl|skip
   case row sz es=>dsimp only;cases(es.length==g)<;>first|rfl|(simp only[cond_true];cases es[i]?<;>rfl)
def Z0F(fr:Fr)(h:Hp)(t:Nat)(n:Option Nat):QO fr h [.cell t n]=cellV h n (get fr t):=by
 simp only[QO,YD,Dq];cases cellV h n (get fr t)<;>rfl
attribute [go_sem] Z0D Z0F
abbrev W(n:Int):Int:=IntKind.i64.wrap n
def st1(off:Nat):List AV->Option AV
 |[c]=>bif off==0 then some c else none
 |_=>none
def Z0G(off:Nat)(c:AV):st1 off [c]=bif off==0 then some c else none:=rfl
def Z0H(off n:Nat)(v:AV)(k:IntKind)(m:Int):stE off n v (.int k m)=st1 off v.cells:=rfl
def Z0I(off n:Nat)(v:AV)(b:Bool):stE off n v (.bool b)=st1 off v.cells:=rfl
def Z0J(off n:Nat)(v:AV)(s:ByteArray):stE off n v (.str s)=st1 off v.cells:=rfl
def Z0K(off n:Nat)(v:AV)(bw ex:Bool)(sz:Nat)(es:List AV):stE off n v (.isl bw ex sz es)=st1 off v.cells:=rfl
def Z0L(off n:Nat)(v:AV)(b g o l:Nat)(ex:Bool):stE off n v (.sl b g o l ex)=st1 off v.cells:=rfl
attribute [go_sem] Z0G Z0H Z0I Z0J Z0K Z0L
def Ug:Option AV->Option (List AV)->Option (List AV)
 |some v,some vs=>some<|v::vs
 |_,_=>none
def Z0M(v:AV)(vs:List AV):Ug (some v) (some vs)=some (v::vs):=rfl
def GS:Option (List AV)->Option AV
 |some [v]=>some v
 |some vs=>some<|.tup vs
 |none=>none
def Z0O(v w:AV)(vs:List AV):GS (some<|v::w::vs)=some (.tup<|v::w::vs):=rfl
def Z0P(fr:Fr)(h:Hp)(rs:List ResVar):QO fr h rs=GS (YD fr h rs):=by
 unfold QO GS;rcases YD fr h rs with _|(_|⟨a,_|⟨b,l⟩⟩)<;>rfl
def Z0Q(fr:Fr)(h:Hp):YD fr h []=some []:=rfl
def Z0R(fr:Fr)(h:Hp)(r:ResVar)(rs:List ResVar):YD fr h (r::rs)=Ug (WX fr h r) (YD fr h rs):=by
 simp only[YD,Ug];cases WX fr h r<;>cases YD fr h rs<;>rfl
def Z0S(fr:Fr)(h:Hp)(t:Nat):WX fr h (.tmp t)=some (get fr t):=rfl
attribute [go_sem] Z0M Z0O Z0Q Z0R Z0S Dq
attribute [go_sem 900] Z0P
def Z0T(n:Nat)(a b:List AV):Zd n (a++b)=(Zd n a&&Zd n b):=by
 induction a with
 |nil=>simp[Zd]
 |cons x a ih=>simp[Zd,ih,Bool.and_assoc]
attribute [go_sem] Z0T XA
def N9:Option (List AV)->Option AV
 |some vs=>some<|.tup vs
 |none=>none
def Z0V(vs:List AV):N9 (some vs)=some (.tup vs):=rfl
def GT(bw ex:Bool)(sz:Nat):Option (List AV)->Option AV
 |some vs=>some<|.isl bw ex sz vs
 |none=>none
def Z0W(bw ex:Bool)(sz:Nat)(vs:List AV):GT bw ex sz (some vs)=some (.isl bw ex sz vs):=rfl
def GU(bw:Bool):Option (List AV)->Option AV
 |some vs=>some<|.iptr bw vs
 |none=>none
def Z0X(bw:Bool)(vs:List AV):GU bw (some vs)=some (.iptr bw vs):=rfl
def Z0Y{bw:Bool}{h:Hp}{n:Nat}{l:List AV}(a:Z4 l=true):ZC bw h (n+1) l=some l:=by
 unfold ZC;rw[a];rfl
def Z0Z{bw:Bool}{h:Hp}{n:Nat}{v:AV}(a:clean v=true):freeze bw h (n+1) v=some v:=by
 unfold freeze;rw[a];rfl
def Z10(bw:Bool)(h:Hp)(n:Nat)(v:AV)(r:List AV)(a:Z4 (v::r)=false):ZC bw h (n+1) (v::r)=Ug (freeze bw h n v) (ZC bw h n r):=by
 conv=>lhs;unfold ZC
 rw[a,cond_false];simp only[Ug];cases freeze bw h n v<;>cases ZC bw h n r<;>rfl
def Z11(bw:Bool)(h:Hp)(n:Nat)(cs:List AV)(a:Z4 cs=false):freeze bw h (n+1) (.tup cs)=N9 (ZC bw h n cs):=by
 conv=>lhs;unfold freeze
 have:clean (.tup cs)=false:=a;rw[this,cond_false];simp only[N9];cases ZC bw h n cs<;>rfl
def Z12(bw:Bool)(h:Hp)(n:Nat)(cs:List AV)(a:Z4 cs=false):freeze bw h (n+1) (.agg cs)=U7 (ZC bw h n cs):=by
 conv=>lhs;unfold freeze
 have:clean (.agg cs)=false:=a;rw[this,cond_false];simp only[U7];cases ZC bw h n cs<;>rfl
def Na(bw:Bool)(h:Hp)(n off a:Nat)(ex:Bool):Option (Nat×List AV)->Option AV
 |some (sz,es)=>GT bw (bw&&ex) sz<|ZC bw h n<|(es.drop off).take a
 |none=>none
def Z13(bw:Bool)(h:Hp)(n off a:Nat)(ex:Bool)(sz:Nat)(es:List AV):Na bw h n off a ex (some (sz,es))=GT bw (bw&&ex) sz (ZC bw h n<|(es.drop off).take a):=rfl
def Z14(bw:Bool)(h:Hp)(n b g off a:Nat)(ex:Bool):freeze bw h (n+1) (.sl b g off a ex)=Na bw h n off a ex (rowAt h b g):=by
 conv=>lhs;unfold freeze
 simp only[clean,cond_false,rowAt,Na];cases h[b]? with
 |none=>rfl
 |some o=>
  cases o<;>first|rfl|skip
  case row sz es=>
   dsimp only;cases(es.length==g)
   .rfl
   .simp only[cond_true,GT];cases ZC bw h n ((es.drop off).take a)<;>rfl
def GV(bw:Bool)(h:Hp)(n off:Nat):Option AV->Option AV
 |some e=>GU bw<|ZC bw h n<|e.cells.drop off
 |none=>none
def Z15(bw:Bool)(h:Hp)(n off:Nat)(e:AV):GV bw h n off (some e)=GU bw (ZC bw h n<|e.cells.drop off):=rfl
def Nb(bw:Bool)(h:Hp)(n i off:Nat):Option (Nat×List AV)->Option AV
 |some (_,es)=>GV bw h n off es[i]?
 |none=>none
def Z16(bw:Bool)(h:Hp)(n i off sz:Nat)(es:List AV):Nb bw h n i off (some (sz,es))=GV bw h n off es[i]?:=rfl
def Z17(bw:Bool)(h:Hp)(n b i off g:Nat):freeze bw h (n+1) (.ptr b i off g)=Nb bw h n i off (rowAt h b g):=by
 conv=>lhs;unfold freeze
 simp only[clean,cond_false,rowAt,Nb];cases h[b]? with
 |none=>rfl
 |some o=>
  cases o<;>first|rfl|skip
  case row sz es=>
   dsimp only;cases(es.length==g)
   .rfl
   .simp only[cond_true,GV];cases es[i]? with
    |none=>rfl
    |some e=>simp only[GU];cases ZC bw h n (e.cells.drop off)<;>rfl
attribute [go_sem] Z0V Z0W Z0X Z10 Z11 Z12 Z13 Z14 Z15 Z16 Z17
attribute [go_sem 1100] Z0Y Z0Z
def XC{h:Hp}{b g sz bytes:Nat}{es ys:List AV}{bw ex fz:Bool}(a:rowAt h b g=some (sz,es))(e:ys.isEmpty=false)(j:ys.all (fits sz)=true)(i:0<sz)(h1:0<bytes)(h2:(g+ys.length)*bytes<=140737488355328):
 appW h fz sz bytes (.sl b g 0 g false) (.isl bw ex sz ys)=some (.sl b (g+ys.length) 0 (g+ys.length) false,setH h b<|.row sz<|es++ys):=by
 unfold rowAt at a;cases d:h[b]? with
 |none=>rw[d]at a;cases a
 |some o=>
  rw[d]at a;cases o with
  |row sz' es'=>
   dsimp only at a;cases c:(es'.length==g)with
   |false=>rw[c]at a;cases a
   |true=>
    rw[c]at a;simp only[cond_true,Option.some.injEq,Prod.mk.injEq]at a;obtain⟨rfl,rfl⟩:=a;have f:es'.length=g:=by simpa using c
    have k:List.take g es'=es':=ZXz<|by omega
    subst f;simp only[appW,Qt,Q2,d,c,cond_true,ZXS,k,Qq,beq_self_eq_true,ZXE,i,h1,h2,and_self,if_true,e,cond_false,ZM,ZH,j,ZY3]
  |_=>cases a
def Y8{E:Env}{live:List Nat}{b:ACode}(n:Nat)(S:Nat->Fr)(H:Nat->Hp)(f:∀i,Z2 live (S i)=S i)
 (d:∀i,i<n->∃fr',Zb E b (S i) (H i)=some (.normal,fr',H<|i+1)/\Z2 live fr'=S (i+1))
 {e:AExit} {fr:Fr} {h:Hp} (c:Zb E b (S n) (H n)=some (e,fr,h)) (g:e≠.normal):Zg E live b (S 0) (H 0)=some (e,fr,h):=by
 suffices G:∀k i,k+i=n->Zg E live b (S i) (H i)=some (e,fr,h)from G n 0<|by omega
 intro k;induction k with
 |zero=>
  intro i j;have:i=n:=by omega
  subst this;exact Q7 (f _) c g
 |succ k ih=>
  intro i j;obtain⟨fr',h1,h2⟩:=d i<|by omega
  rw[Yt (f _) h1,h2];exact ih (i+1)<|by omega
def ZDU{E:Env}{α:Type}{live:List Nat}{b:ACode}{h:Hp}(l:List α)(P:α->Bool)(S:Nat->Fr)(d:Nat)(Q:Nat->Fr->Prop)
 (m:∀i,Z2 live (S i)=S i)
 (f:∀i x,l[i]?=some x->P x=false->∃fr',Zb E b (S i) h=some (.normal,fr',h)/\Z2 live fr'=S (i+1))
 (o:∀i x,l[i]?=some x->P x=true->∃fr',Zb E b (S i) h=some (.ret,fr',h)/\Q i fr')
 (j:∃fr',Zb E b (S l.length) h=some (.exit d,fr',h)):
 ∃fr',Zg E live b (S 0) h=some (if Zp P l 0=-1 then .exit d else .ret,fr',h)/\(Zp P l 0≠-1->∃i:Nat,Zp P l 0=(i:Int)/\Q i fr'):=by
 suffices G:∀(c a:List α),l=a++c->∃fr',Zg E live b (S a.length) h=some (if Zp P c a.length=-1 then .exit d else .ret,fr',h)/\(Zp P c a.length≠-1->∃i:Nat,Zp P c a.length=(i:Int)/\Q i fr')from G l [] rfl
 intro c;induction c with
 |nil=>
  intro a k;obtain⟨fr',h1⟩:=j;have:l.length=a.length:=by rw[k];simp
  rw[this]at h1;exact⟨fr',by simpa[Zp]using Q7 (m _) h1 (by simp),λh=>by simp[Zp]at h⟩
 |cons x c ih=>
  intro a k;have q:l[a.length]?=some x:=by rw[k];simp
  cases g:P x with
  |false=>
   obtain⟨r,h1,h2⟩:=f _ _ q g;obtain⟨fr',n,p⟩:=ih (a++[x])<|by simp[k]
   have e:((a++[x]).length:Int)=(a.length:Int)+1:=by simp
   rw[e]at n p;rw[ZXy,ZY7]at n;refine⟨fr',?_,?_⟩
   .rw[Yt (m _) h1,h2,n];simp only[Zp,g,cond_false]
   .simpa only[Zp,g,cond_false]using p
  |true=>
   obtain⟨fr',h1,h2⟩:=o _ _ q g;have e:Zp P (x::c) a.length=(a.length:Int):=by simp[Zp,g]
   have s:((a.length:Int)=-1)=False:=by simp
   refine⟨fr',?_,λ_=>⟨a.length,e,h2⟩⟩
   rw[Q7 (m _) h1 (by simp),e]
   simp only[s,if_false]
def QT{E:Env}{α:Type}{live:List Nat}{b:ACode}{h:Hp}(l:List α)(P:Nat->α->Bool)(S:Nat->Fr)(a:Nat)(m Q:Fr->Prop)
 (j:∀i,Z2 live (S i)=S i)
 (c:∀i x,l[i]?=some x->P i x=true->∃fr',Zb E b (S i) h=some (.normal,fr',h)/\Z2 live fr'=S (i+1))
 (g:∀i x,l[i]?=some x->P i x=false->∃fr',Zb E b (S i) h=some (.ret,fr',h)/\Q fr')
 (d:∃fr',Zb E b (S l.length) h=some (.exit a,fr',h)/\m fr'):
 ∃fr',Zg E live b (S 0) h=some (if Zu P 0 l=true then .exit a else .ret,fr',h)/\(Zu P 0 l=true->m fr')/\(Zu P 0 l=false->Q fr'):=by
 obtain⟨fr',h1,h2⟩:=Uf (E:=E) (live:=live) (b:=b) (h:=h) l P S a (λfr=>Q fr) j c g (by obtain⟨fr',h1,_⟩:=d;exact⟨fr',h1⟩)
 refine⟨fr',h1,λe=>?_,h2⟩
 obtain⟨fr2,o,n⟩:=d
 suffices G:∀k i,k+i=l.length->Zu P i (l.drop i)=true->Zg E live b (S i) h=some (.exit a,fr2,h)by
  have:=G l.length 0 (by omega)<|by simpa using e
  rw[this,if_pos e]at h1;cases h1;exact n
 intro k;induction k with
 |zero=>
  intro i p _;have:i=l.length:=by omega
  subst this;exact Q7 (j _) o<|by simp
 |succ k ih=>
  intro i p e;have f:i<l.length:=by omega
  rw[ZXP f]at e;simp only[Zu,ZXf]at e;obtain⟨fr',h1,h2⟩:=c i l[i] (ZXj f) e.1;rw[Yt (j _) h1,h2];exact ih (i+1) (by omega) e.2
def Jc(a b:Nat):Int.tmod (a:Int) (b:Int)=((a%b:Nat):Int):=rfl
def nat_ne{n:Nat}(h:0<n):((n:Int)=0)=False:=by simp;omega
def Ds{n i x:Nat}(h:(List.range n)[i]?=some x):x=i/\i<n:=by
 obtain⟨h1,h2⟩:=ZXu.1 h;simp at h1 h2;exact⟨h2.symm,h1⟩
def Dt{a n i x:Nat}(h:(List.range' a n)[i]?=some x):x=a+i/\i<n:=by
 obtain⟨h1,h2⟩:=ZXu.1 h;simp at h1 h2;exact⟨by omega,h1⟩
def Z19(a:AObj)(b:Bool):trimB 1 [a] b=[a]:=by cases b<;>rfl
def Z1a(a c:AObj)(b:Bool):trimB 2 [a,c] b=[a,c]:=by cases b<;>rfl
def Z1b(a d c:AObj)(b:Bool):trimB 3 [a,d,c] b=[a,d,c]:=by cases b<;>rfl
attribute [go_sem] decide_true decide_false Bool.not_true Bool.not_false Bool.true_and Bool.false_and Bool.and_true Bool.and_false List.getElem?_cons_zero List.getElem?_cons_succ List.length_append Option.map_none Option.map_some
variable [REdz]
def gOn(p:Pt):Bool:=decide (min p.X p.Y>=0)&&decide (max p.X p.Y<=32767)
def XD(l:List Pt):Bool:=l.all gOn
def Yv(a b:Pt):Pt:=⟨W<|b.X-a.X,W<|b.Y-a.Y⟩
def Uh(v w:Pt):Int:=W<|W (v.X*w.Y)-W (v.Y*w.X)
def Nc(v w:Pt):Int:=W<|W (v.X*w.X)+W (v.Y*w.Y)
structure Seg where
 a:Pt
 b:Pt
 v:Pt
def XE(a b:Pt):Seg:=⟨a,b,Yv a b⟩
def sgn(n:Int):Int:=bif decide (n>0)then 1 else bif decide (n<0)then -1 else 0
def Ve(s:Seg)(p:Pt):Int:=sgn<|Uh s.v<|Yv s.a p
def Jd(a b c:Pt):Int:=bif XD [a,b,c]then Ve (XE a b) c else 0
def QK(a b:Pt):Bool:=a.X==b.X&&a.Y==b.Y
def W7(p a b:Pt):Bool:=
 bif XD [p,a,b]then
  (bif QK p a then true else bif QK p b then true else bif Ve (XE a b) p==0 then decide (Nc (Yv p a) (Yv p b)<0)else false)
 else false
def VV(s:Seg)(a b:Pt):Bool:=decide (W (Ve s a*Ve s b)<0)
def Ui(a b c d:Pt):Int:=
 bif XD [a,b,c,d]then
  (bif W7 a c d||W7 b c d||W7 c a b||W7 d a b then 1
   else bif VV (XE a b) c d&&VV (XE c d) a b then 2 else 0)
 else 0
def Seg.enc(s:Seg):AV:=.agg [I s.a.X,I s.a.Y,I s.b.X,I s.b.Y,I s.v.X,I s.v.Y]
def W8(p:Pt):pfn rE 244 [.agg [I p.X,I p.Y]]=some (.bool<|gOn p):=by
 rw[Z5 (f:=244) rfl rfl];unfold gOn;cases h1:decide (min p.X p.Y>=0)<;>simp only[go_sem,c244,h1]
def Nd(a b:Pt):pfn rE 426 [.agg [I a.X,I a.Y],.agg [I b.X,I b.Y]]=some (.agg [I (Yv a b).X,I (Yv a b).Y]):=by
 rw[Z5 (f:=426) rfl rfl];unfold Yv;simp only[go_sem,c426]
def Z1c(a b:Pt):pfn rE 427 [.agg [I a.X,I a.Y],.agg [I b.X,I b.Y]]=some (I<|Uh a b):=by
 rw[Z5 (f:=427) rfl rfl];unfold Uh;simp only[go_sem,c427]
def Z1d(a b:Pt):pfn rE 428 [.agg [I a.X,I a.Y],.agg [I b.X,I b.Y]]=some (I<|Nc a b):=by
 rw[Z5 (f:=428) rfl rfl];unfold Nc;simp only[go_sem,c428]
def Vf(a b:Pt):pfn rE 409 [.agg [I a.X,I a.Y],.agg [I b.X,I b.Y]]=some (.agg [I a.X,I a.Y,I b.X,I b.Y,I (Yv a b).X,I (Yv a b).Y]):=by
 rw[Z5 (f:=409) rfl rfl];simp only[go_sem,c409,Nd]
def Du(s:Seg)(p:Pt):pfn rE 410 [.agg [I s.a.X,I s.a.Y,I s.b.X,I s.b.Y,I s.v.X,I s.v.Y],.agg [I p.X,I p.Y]]=some (I<|Ve s p):=by
 rw[Z5 (f:=410) rfl rfl];unfold Ve sgn;cases h1:decide (Uh s.v (Yv s.a p)>0)<;>cases h2:decide (Uh s.v (Yv s.a p)<0)<;>simp only[go_sem,c410,Nd,Z1c,h1,h2]
def Nf(bw ex:Bool)(l:List Pt)(k:l.length<9223372036854775807):pfn rE 408 [.isl bw ex 2<|l.map Pt.enc]=some (.bool<|XD l):=by
 have L:=Uf (E:=rE) (live:=[5,6,7]) (b:=c408L0b) (h:=[]) l (λ_ x=>gOn x) (λi=>[(5,.isl bw ex 2<|l.map Pt.enc),(6,I l.length),(7,I i)]) 0 (λfr=>get fr 2=.bool false) (λi=>rfl)
  (λi x hx hP=>by
   have d:=Z6 (f:=Pt.enc) hx;have g:=Zh<|Z7 hx;have j:=Zx (n:=i) (by have:=Z7 hx;omega)
   refine⟨_,by simp only[go_sem,c408L0b,d,g,j,hP,Pt.enc,W8];rfl,?_⟩
   simp only[go_sem])
  (λi x hx hP=>by
   have d:=Z6 (f:=Pt.enc) hx;have g:=Zh<|Z7 hx;refine⟨_,by simp only[go_sem,c408L0b,d,g,hP,Pt.enc,W8];rfl,?_⟩
   simp only[go_sem])
  (⟨_,by simp only[go_sem,c408L0b,ZG];rfl⟩)
 rw[Z5 (f:=408) rfl rfl];rw[QE]at L;obtain⟨fr',h1,h2⟩:=L;have a:Zg rE [5,6,7] c408L0b [(5,.isl bw ex 2<|l.map Pt.enc),(6,I l.length),(7,.int .i64 0)] []=_:=h1;unfold XD;cases e:l.all gOn with
 |true=>rw[e]at a;simp only[go_sem,c408,c408L0,a]
 |false=>
  rw[e]at a;have c:=h2 e;simp only[go_sem,c408,c408L0,a,c,ZXB]
def Dv(a b c:Pt):pfn rE 408 [.isl false false 2 [.agg [I a.X,I a.Y],.agg [I b.X,I b.Y],.agg [I c.X,I c.Y]]]=some (.bool<|XD [a,b,c]):=Nf false false [a,b,c]<|by simp
def Je(a b c d:Pt):pfn rE 408 [.isl false false 2 [.agg [I a.X,I a.Y],.agg [I b.X,I b.Y],.agg [I c.X,I c.Y],.agg [I d.X,I d.Y]]]=some (.bool<|XD [a,b,c,d]):=Nf false false [a,b,c,d]<|by simp
def Dw(a b p:Pt):pfn rE 410 [.agg [I a.X,I a.Y,I b.X,I b.Y,I (Yv a b).X,I (Yv a b).Y],.agg [I p.X,I p.Y]]=some (I<|Ve (XE a b) p):=Du (XE a b) p
def Ng(a b c:Pt):pfn rE 375 [.agg [I a.X,I a.Y],.agg [I b.X,I b.Y],.agg [I c.X,I c.Y]]=some (I<|Jd a b c):=by
 rw[Z5 (f:=375) rfl rfl];unfold Jd;cases h1:XD [a,b,c]<;>simp only[go_sem,c375,Vf,Dv,Dw,h1]
def Uj(p a b:Pt):pfn rE 411 [.agg [I p.X,I p.Y],.agg [I a.X,I a.Y],.agg [I b.X,I b.Y]]=some (.bool<|W7 p a b):=by
 rw[Z5 (f:=411) rfl rfl];unfold W7;have g:(p.X==a.X&&p.Y==a.Y)=QK p a:=rfl;have c:(p.X==b.X&&p.Y==b.Y)=QK p b:=rfl;cases h1:XD [p,a,b]<;>cases h2:QK p a<;>cases e:QK p b<;>cases d:Ve (XE a b) p==0<;>simp only[go_sem,c411,Vf,Dv,Dw,Nd,Z1d,g,c,h1,h2,e,d]
def Z1e(s:Seg)(a b:Pt):pfn rE 412 [.clo (.func 410) [.agg [I s.a.X,I s.a.Y,I s.b.X,I s.b.Y,I s.v.X,I s.v.Y]] [],.agg [I a.X,I a.Y],.agg [I b.X,I b.Y]]=some (.bool<|VV s a b):=by
 rw[Z5 (f:=412) rfl rfl];unfold VV;simp only[go_sem,c412,Du]
def Z1f(a b p q:Pt):pfn rE 412 [.clo (.func 410) [.agg [I a.X,I a.Y,I b.X,I b.Y,I (Yv a b).X,I (Yv a b).Y]] [],.agg [I p.X,I p.Y],.agg [I q.X,I q.Y]]=some (.bool<|VV (XE a b) p q):=Z1e (XE a b) p q
def Dx(a b c d:Pt):pfn rE 376 [.agg [I a.X,I a.Y],.agg [I b.X,I b.Y],.agg [I c.X,I c.Y],.agg [I d.X,I d.Y]]=some (I<|Ui a b c d):=by
 rw[Z5 (f:=376) rfl rfl];unfold Ui;cases h1:XD [a,b,c,d]with
 |false=>simp only[go_sem,c376,Vf,Je,h1]
 |true=>
  cases h2:W7 a c d with
  |true=>simp only[go_sem,c376,Vf,Je,Uj,h1,h2,ZXE]
  |false=>
  cases e:W7 b c d with
  |true=>simp only[go_sem,c376,Vf,Je,Uj,h1,h2,e,ZXE,ZXY]
  |false=>
  cases g:W7 c a b with
  |true=>simp only[go_sem,c376,Vf,Je,Uj,h1,h2,e,g,ZXE,ZXY]
  |false=>
  cases h:W7 d a b with
  |true=>simp only[go_sem,c376,Vf,Je,Uj,h1,h2,e,g,h,ZXE,ZXY]
  |false=>
  cases i:VV (XE a b) c d<;>cases j:VV (XE c d) a b<;>simp only[go_sem,c376,Vf,Je,Uj,Z1f,h1,h2,e,g,h,i,j,ZYS]
def pAt(l:List Pt)(i:Nat):Pt:=l.getD i ⟨0,0⟩
def Z1g{l:List Pt}{i:Nat}(h:i<l.length):l[i]?=some (pAt l i):=by
 simp[pAt,List.getD,ZXj h]
def YN{l:List Pt}{i:Nat}(h:i<l.length):(l.map Pt.enc)[i]?=some (Pt.enc<|pAt l i):=Z6<|Z1g h
def Jf(p:Pt):Bool:=!gOn p
def Z1h(p:Pt):pfn rE 314 [.agg [I p.X,I p.Y]]=some (.bool<|Jf p):=by
 rw[Z5 (f:=314) rfl rfl];unfold Jf;simp only[go_sem,c314,W8]
def WG{α:Type}(P:α->Bool)(l:List α):Bool:=decide (Zp P l 0>=0)
def Vg{α:Type}(P:α->Bool)(l:List α):WG P l=l.any P:=by
 suffices H:∀(l:List α)(i:Int),0<=i->decide (Zp P l i>=0)=l.any P from H l 0<|by omega
 intro l;induction l with
 |nil=>intro i a;simp[Zp]
 |cons x r ih=>
  intro i a;simp only[Zp,ZZr];by_cases h:P x=true
  .simp[h,a]
  .simp only[ZZ6]at h;simpa[h]using ih (i+1)<|by omega
def Z1i(l:List Pt)(ex:Bool)(a:l.length<=1000000):pfn rE 313 [.isl false ex 2<|l.map Pt.enc,.clo (.func 314) [] []]=some (.bool<|l.any Jf):=by
 have h1:=WF (E:=rE) (f:=373) (sz:=2) (n:=some 2) (enc:=Pt.enc) (p:=Jf) (g:=314) (cap:=[]) rfl rfl rfl l (by omega) (λx _=>x.el) (λx _=>Z1h x) false ex
 rw[Z5 (f:=313) rfl rfl,<-Vg];unfold WG;simp only[go_sem,c313,h1]
def VW(l:List Pt)(n:Int)(i:Nat):Int:=W<|n+W (W ((pAt l i).X*(pAt l<|(i+1)%l.length).Y)-W ((pAt l<|(i+1)%l.length).X*(pAt l i).Y))
def GW(l:List Pt):Int:=(List.range l.length).foldl (VW l) 0
def XF(v:AV):Fr:=[(7,.clo (.func 407) [] [.iptr false [v]]),(6,v),(3,.ptr 0 0 0 1),(2,I 0),(0,v)]
def twH(v:AV)(n:Int):Hp:=[.row 1 [I n],.loop .ready .normal (XF v) [8,9] c315R0a c315R0b]
def Z1j(v:AV)(e:Zd 2 [v]=true)(c:Zd 5 [v]=true)(n:Int)(p a b:Pt):
 U4 rE 1 [.agg [I a.X,I a.Y],.agg [I b.X,I b.Y]] (twH v n++[.row 2 [.agg [I p.X,I p.Y]]]) =
  some (.bool true,twH v (W<|n+W (W (a.X*b.Y)-W (b.X*a.Y)))++[.row 2 [.agg [I p.X,I p.Y]],.row 2 [.agg [I a.X,I a.Y]],.row 2 [.agg [I b.X,I b.Y]]]):=by
 have d:bel 5 v=true:=by simpa[Zd]using c
 have h:=Ss (E:=rE) (b:=1) (args:=[.agg [I a.X,I a.Y],.agg [I b.X,I b.Y]]) (h:=twH v n++[.row 2 [.agg [I p.X,I p.Y]]]) (fr:=XF v) (ps:=[8,9]) (assign:=c315R0a) (body:=c315R0b)
  (fr0:=(9,.agg [I b.X,I b.Y])::(8,.agg [I a.X,I a.Y])::XF v) rfl rfl (by simp only[go_sem,c315R0a,twH,XF];rfl) (by rfl)
  (by simp only[go_sem,c315R0b,d];rfl) (by rfl)
 exact h
def Z1k{E:Env}{g:Nat}{first cap:List AV}{ps:List Nat}{assign body:ACode}{fr:Fr}{h:Hp}{rs:List ResVar}{c:ACode}(a:E.fn g=some ⟨rs,c⟩):
 rf E (.clo (.func g) first cap) ps assign body fr h=J0 fr h.length (fnd rs<|Zb E c (QP 0<|first++[.yld h.length]++cap)<|h++[.loop .ready .normal fr ps assign body]):=by
 rw[Sq,LD a];rfl
def Z1l(ex:Bool)(es:List AV)(h:Hp):fnV rE 374 [.isl false ex 2 es] h=some (.clo (.func 407) [] [.iptr false [.isl false ex 2 es]],h):=by
 rw[Q6 (f:=374) rfl rfl];simp only[go_sem,c374]
def Z1m(l:List Pt)(ex:Bool)(s:l.length<=1000000):pfn rE 315 [.isl false ex 2<|l.map Pt.enc]=some (I<|GW l):=by
 have L:=Y8 (E:=rE) (live:=[0,1,5,6,7]) (b:=c407L0b) l.length (λi=>[(0,.yld 1),(1,.iptr false [.isl false ex 2<|l.map Pt.enc]),(5,.isl false ex 2<|l.map Pt.enc),(6,I l.length),(7,I i)])
  (λi=>twH (.isl false ex 2<|l.map Pt.enc)<|(List.range i).foldl (VW l) 0) (λi=>rfl)
  (λi hi=>by
   have k:0<l.length:=by omega
   have q:=YN hi;have h:=YN (l:=l)<|ZYr (i+1) k;have g:=Zh hi;have r:=Zx (n:=i)<|by omega
   have p:=nat_ne k;have d:=Z1j (.isl false ex 2<|l.map Pt.enc) rfl rfl ((List.range i).foldl (VW l) 0) (pAt l i) (pAt l i) (pAt l<|(i+1)%l.length);have o:(List.range<|i+1).foldl (VW l) 0=W ((List.range i).foldl (VW l) 0+W (W ((pAt l i).X*(pAt l<|(i+1)%l.length).Y)-W ((pAt l<|(i+1)%l.length).X*(pAt l i).Y))):=by
    rw[ZZc,ZZs];rfl
   rw[o];generalize W ((List.range i).foldl (VW l) 0+W (W ((pAt l i).X*(pAt l<|(i+1)%l.length).Y)-W ((pAt l<|(i+1)%l.length).X*(pAt l i).Y)))=n' at d⊢;generalize(List.range i).foldl (VW l) 0=n at d⊢;simp only[twH,ZXl,ZXo]at d⊢;refine⟨_,by simp only[go_sem,c407L0b,S3,q,h,g,r,p,Jc,d,Pt.enc];rfl,?_⟩
   simp only[go_sem])
  (e:=.exit 0) (by simp only[go_sem,twH,c407L0b,ZG];rfl) (by simp)
 have m:Zg rE [0,1,5,6,7] c407L0b [(0,.yld 1),(1,.iptr false [.isl false ex 2<|l.map Pt.enc]),(5,.isl false ex 2<|l.map Pt.enc),(6,I l.length),(7,.int .i64 0)] [.row 1 [.int .i64 0],.loop .ready .normal (XF<|.isl false ex 2<|l.map Pt.enc) [8,9] c315R0a c315R0b]=_:=L;rw[Z5 (f:=315) rfl rfl];have a:rf rE (.clo (.func 407) [] [.iptr false [.isl false ex 2<|l.map Pt.enc]]) [8,9] c315R0a c315R0b (XF<|.isl false ex 2<|l.map Pt.enc) [.row 1 [.int .i64 0]]=some (.normal,XF<|.isl false ex 2<|l.map Pt.enc,[.row 1 [I<|GW l],.loop .exhausted .normal (XF<|.isl false ex 2<|l.map Pt.enc) [8,9] c315R0a c315R0b]):=by
  rw[Z1k (c:=c407) rfl];have j:Zd 2 (frV<|XF<|.isl false ex 2<|l.map Pt.enc)=true:=rfl;simp only[j,go_sem]at m;simp only[go_sem,c407,c407L0,m,j];rfl
 unfold XF at a;simp only[go_sem,c315,Z1l,Sr,a]
def GX(l:List Pt)(i k:Nat):Bool:=!decide (Ui (pAt l i) (pAt l<|(i+1)%l.length) (pAt l k) (pAt l<|(k+1)%l.length)>0)
def Xb(l:List Pt)(i:Nat):Nat:=min l.length<|i+l.length-1
def Jg(l:List Pt)(i:Nat):Bool:=(List.range' (i+2)<|Xb l i-(i+2)).all (GX l i)
def Nh(l:List Pt)(i:Nat):Bool:=Jd (pAt l i) (pAt l<|(i+1)%l.length) (pAt l<|(i+2)%l.length)==0
def Uk(l:List Pt)(i:Nat):Bool:=!Nh l i&&Jg l i
def Ni(l:List Pt):Bool:=(List.range l.length).all (Uk l)
def Dy(l:List Pt)(ex:Bool)(hl:l.length<=1000000)(i:Nat)(hi:i<l.length):
 ∃fr',Zg rE [0,3,4,5,6,7,11,12] c316L0b [(0,.isl false ex 2<|l.map Pt.enc),(3,I l.length),(4,I i),(5,.ptr 0 0 0 1),(6,.ptr 1 0 0 1),(7,I (i+2:Nat)),(11,I l.length),(12,I i)] [.row 2 [.agg [I (pAt l i).X,I (pAt l i).Y]],.row 2 [.agg [I (pAt l<|(i+1)%l.length).X,I (pAt l<|(i+1)%l.length).Y]]] =
  some (if Jg l i=true then .exit 2 else .ret,fr',[.row 2 [.agg [I (pAt l i).X,I (pAt l i).Y]],.row 2 [.agg [I (pAt l<|(i+1)%l.length).X,I (pAt l<|(i+1)%l.length).Y]]])/\(Jg l i=true->(get fr' 2=.bot/\get fr' 0=.isl false ex 2 (l.map Pt.enc)/\get fr' 3=I l.length/\get fr' 11=I l.length/\get fr' 12=I i))/\(Jg l i=false->(get fr' 2=.bool false/\get fr' 0=.isl false ex 2 (l.map Pt.enc)/\get fr' 3=I l.length/\get fr' 11=I l.length/\get fr' 12=I i)):=by
 have h0:0<l.length:=by omega
 have hn:=nat_ne h0;have e1:IntKind.i64.wrap ((i:Int)+(l.length:Int))=((i+l.length:Nat):Int):=by rw[YM (by omega)<|by omega];omega
 have e2:IntKind.i64.wrap (((i+l.length:Nat):Int)-1)=((i+l.length-1:Nat):Int):=by rw[YM (by omega)<|by omega];omega
 have e3:min (l.length:Int) ((i+l.length-1:Nat):Int)=(Xb l i:Int):=by unfold Xb;omega
 have hm:Xb l i<=l.length:=Nat.min_le_left _ _;have L:=QT (E:=rE) (live:=[0,3,4,5,6,7,11,12]) (b:=c316L0b) (h:=[.row 2 [.agg [I (pAt l i).X,I (pAt l i).Y]],.row 2 [.agg [I (pAt l<|(i+1)%l.length).X,I (pAt l<|(i+1)%l.length).Y]]])
  (List.range' (i+2)<|Xb l i-(i+2)) (λ_ k=>GX l i k) (λj=>[(0,.isl false ex 2<|l.map Pt.enc),(3,I l.length),(4,I i),(5,.ptr 0 0 0 1),(6,.ptr 1 0 0 1),(7,I (i+2+j:Nat)),(11,I l.length),(12,I i)]) 2 (λfr=>get fr 2=.bot/\get fr 0=.isl false ex 2 (l.map Pt.enc)/\get fr 3=I l.length/\get fr 11=I l.length/\get fr 12=I i) (λfr=>get fr 2=.bool false/\get fr 0=.isl false ex 2 (l.map Pt.enc)/\get fr 3=I l.length/\get fr 11=I l.length/\get fr 12=I i) (λj=>rfl)
  (λj k hk hP=>by
   obtain⟨rfl,hj⟩:=Dt hk;have hk':i+2+j<Xb l i:=by omega
   have hg:=YN (l:=l) (i:=i+2+j)<|by omega
   have hg2:=YN (l:=l)<|ZYr (i+2+j+1) h0;have hlt:decide (((i+2+j:Nat):Int)<(Xb l i:Int))=true:=decide_eq_true<|by omega
   have hw:=Zx (n:=i+2+j)<|by omega
   have hP':decide (Ui (pAt l i) (pAt l<|(i+1)%l.length) (pAt l<|i+2+j) (pAt l<|(i+2+j+1)%l.length)>0)=false:=by simpa only[GX,ZXM]using hP
   have ea:i+2+(j+1)=i+2+j+1:=by omega
   rw[ea];generalize i+2+j=k at*;refine⟨_,by simp only[go_sem,c316L0b,e1,e2,e3,hlt,hg,hg2,hw,hn,Jc,Pt.enc,Dx,hP'];rfl,?_⟩
   simp only[go_sem])
  (λj k hk hP=>by
   obtain⟨rfl,hj⟩:=Dt hk;have hk':i+2+j<Xb l i:=by omega
   have hg:=YN (l:=l) (i:=i+2+j)<|by omega
   have hg2:=YN (l:=l)<|ZYr (i+2+j+1) h0;have hlt:decide (((i+2+j:Nat):Int)<(Xb l i:Int))=true:=decide_eq_true<|by omega
   have hw:=Zx (n:=i+2+j)<|by omega
   have hP':decide (Ui (pAt l i) (pAt l<|(i+1)%l.length) (pAt l<|i+2+j) (pAt l<|(i+2+j+1)%l.length)>0)=true:=by simpa only[GX,Bool.not_eq_false']using hP
   generalize i+2+j=k at*;refine⟨_,by simp only[go_sem,c316L0b,e1,e2,e3,hlt,hg,hg2,hw,hn,Jc,Pt.enc,Dx,hP'];rfl,?_⟩
   refine⟨?_,?_,?_,?_,?_⟩<;>simp only[go_sem])
  (by
   have hlt:decide (((i+2+(List.range' (i+2)<|Xb l i-(i+2)).length:Nat):Int)<(Xb l i:Int))=false:=by simp;omega
   generalize i+2+(List.range' (i+2)<|Xb l i-(i+2)).length=k at*;exact⟨_,by simp only[go_sem,c316L0b,e1,e2,e3,hlt];rfl,by refine⟨?_,?_,?_,?_,?_⟩<;>simp only[go_sem]⟩)
 rw[QE]at L;exact L
def Z1n(l:List Pt)(ex:Bool)(B:l.length<=1000000):pfn rE 316 [.isl false ex 2<|l.map Pt.enc]=some (.bool<|Ni l):=by
 have L:=Uf (E:=rE) (live:=[0,3,11,12]) (b:=c316L1b) (h:=[]) (List.range l.length) (λ_ i=>Uk l i) (λi=>[(0,.isl false ex 2<|l.map Pt.enc),(3,I l.length),(11,I l.length),(12,I i)]) 0 (λfr=>get fr 2=.bool false) (λi=>rfl)
  (λi x hx hP=>by
   obtain⟨rfl,q⟩:=Ds hx;have o:0<l.length:=by omega
   have s:=nat_ne o;have u:=YN q;have d:=YN (l:=l)<|ZYr (x+1) o;have a:=YN (l:=l)<|ZYr (x+2) o;have e:=Zh q;have t:=Zx (n:=x)<|by omega
   have g:IntKind.i64.wrap ((x:Int)+2)=((x+2:Nat):Int):=by rw[YM (by omega)<|by omega];omega
   have m:Nh l x=false/\Jg l x=true:=by simpa[Uk]using hP
   have r:(Jd (pAt l x) (pAt l<|(x+1)%l.length) (pAt l<|(x+2)%l.length)==0)=false:=m.1;obtain⟨fr',h1,h2,_⟩:=Dy l ex B x q;rw[if_pos m.2]at h1;obtain⟨z,v,y,p,k⟩:=h2 m.2;refine⟨_,by simp only[go_sem,c316L1b,c316L0,u,d,a,e,t,g,s,Jc,Pt.enc,Ng,r,h1,v,z,y,p,k];rfl,?_⟩
   simp only[go_sem])
  (λi x hx hP=>by
   obtain⟨rfl,q⟩:=Ds hx;have o:0<l.length:=by omega
   have s:=nat_ne o;have u:=YN q;have d:=YN (l:=l)<|ZYr (x+1) o;have a:=YN (l:=l)<|ZYr (x+2) o;have e:=Zh q;have t:=Zx (n:=x)<|by omega
   have g:IntKind.i64.wrap ((x:Int)+2)=((x+2:Nat):Int):=by rw[YM (by omega)<|by omega];omega
   cases j:Nh l x with
   |true=>
    have r:(Jd (pAt l x) (pAt l<|(x+1)%l.length) (pAt l<|(x+2)%l.length)==0)=true:=j;refine⟨_,by simp only[go_sem,c316L1b,c316L0,u,d,a,e,t,g,s,Jc,Pt.enc,Ng,r];rfl,?_⟩
    simp only[go_sem]
   |false=>
    have r:(Jd (pAt l x) (pAt l<|(x+1)%l.length) (pAt l<|(x+2)%l.length)==0)=false:=j;have A:Jg l x=false:=by simpa[Uk,j]using hP
    obtain⟨fr',h1,_,h2⟩:=Dy l ex B x q;rw[A]at h1;obtain⟨z,v,y,p,k⟩:=h2 A;refine⟨_,by simp only[go_sem,c316L1b,c316L0,u,d,a,e,t,g,s,Jc,Pt.enc,Ng,r,h1,v,z,y,p,k,ZXB];rfl,?_⟩
    simp only[go_sem])
  (⟨_,by simp only[go_sem,c316L1b,List.length_range,ZG];rfl⟩)
 rw[QE]at L;obtain⟨fr',h1,h2⟩:=L;have c:Zg rE [0,3,11,12] c316L1b [(0,.isl false ex 2<|l.map Pt.enc),(3,I l.length),(11,I l.length),(12,.int .i64 0)] []=_:=h1;rw[Z5 (f:=316) rfl rfl];unfold Ni;cases w:(List.range l.length).all (Uk l)with
 |true=>rw[w]at c;simp only[go_sem,c316,c316L1,c]
 |false=>rw[w]at c;simp only[go_sem,c316,c316L1,c,h2 w,ZXB]
def Vh(l:List Pt):Bool:=decide ((l.length:Int)>=3)&&(decide ((l.length:Int)<=40)&&(!l.any Jf&&(decide (GW l>0)&&Ni l)))
def Dz(l:List Pt)(ex:Bool)(e:l.length<=1000000):pfn rE 234 [.isl false ex 2<|l.map Pt.enc]=some (.bool<|Vh l):=by
 have h1:=Z1i l ex e;have h2:=Z1m l ex e;have g:=Z1n l ex e;rw[Z5 (f:=234) rfl rfl];unfold Vh;cases c:decide ((l.length:Int)>=3)with
 |false=>simp only[go_sem,c234,c]
 |true=>
 cases d:decide ((l.length:Int)<=40)with
 |false=>simp only[go_sem,c234,c,d]
 |true=>
 cases a:l.any Jf with
 |true=>simp only[go_sem,c234,c,d,h1,a]
 |false=>
 cases b:decide (GW l>0)with
 |false=>simp only[go_sem,c234,c,d,h1,h2,a,b]
 |true=>simp only[go_sem,c234,c,d,h1,h2,g,a,b]
def VX(l:List Pt)(i:Nat)(x:Pt):Bool:=gOn x&&!(decide ((i:Int)>0)&&QK x (pAt l<|i-1))
def Ul(l:List Pt):Bool:=Zu (VX l) 0 l&&(decide ((l.length:Int)>=2)&&decide ((l.length:Int)<=40))
def Z1o(l:List Pt)(ex:Bool)(t:l.length<=1000000):pfn rE 236 [.isl false ex 2<|l.map Pt.enc]=some (.bool<|Ul l):=by
 have L:=QT (E:=rE) (live:=[0,5,6,7]) (b:=c236L0b) (h:=[]) l (VX l) (λi=>[(0,.isl false ex 2<|l.map Pt.enc),(5,.isl false ex 2<|l.map Pt.enc),(6,I l.length),(7,I i)]) 0 (λfr=>get fr 0=.isl false ex 2 (l.map Pt.enc)) (λfr=>get fr 2=.bool false) (λi=>rfl)
  (λi x hx hP=>by
   have k:=Z6 (f:=Pt.enc) hx;have m:=Zh<|Z7 hx;have q:=Zx (n:=i) (by have:=Z7 hx;omega)
   have a:gOn x=true:=by simp only[VX,ZXf]at hP;exact hP.1
   rcases i with _|j
   .have d:decide (((0:Nat):Int)>0)=false:=rfl;refine⟨_,by simp only[go_sem,c236L0b,k,m,q,Pt.enc,W8,a,d];rfl,?_⟩
    simp only[go_sem]
   .have d:decide (((j+1:Nat):Int)>0)=true:=decide_eq_true (by omega)
    have p:IntKind.i64.wrap (((j+1:Nat):Int)-1)=((j:Nat):Int):=by rw[YM (by omega) (by have:=Z7 hx;omega)];omega
    have g:=YN (l:=l) (i:=j) (by have:=Z7 hx;omega)
    have e:(x.X==(pAt l j).X&&x.Y==(pAt l j).Y)=false:=by
     have:VX l (j+1) x=(gOn x&&!(decide (((j+1:Nat):Int)>0)&&QK x (pAt l j))):=rfl;rw[this,a,d]at hP;simp only[ZXk,ZXM]at hP;exact hP
    refine⟨_,by simp only[go_sem,c236L0b,k,g,m,q,p,Pt.enc,W8,a,d,e];rfl,?_⟩
    simp only[go_sem])
  (λi x hx hP=>by
   have k:=Z6 (f:=Pt.enc) hx;have m:=Zh<|Z7 hx;cases a:gOn x with
   |false=>
    refine⟨_,by simp only[go_sem,c236L0b,k,m,Pt.enc,W8,a];rfl,?_⟩
    simp only[go_sem]
   |true=>
    rcases i with _|j
    .simp[VX,a]at hP
    .have d:decide (((j+1:Nat):Int)>0)=true:=decide_eq_true (by omega)
     have p:IntKind.i64.wrap (((j+1:Nat):Int)-1)=((j:Nat):Int):=by rw[YM (by omega) (by have:=Z7 hx;omega)];omega
     have g:=YN (l:=l) (i:=j) (by have:=Z7 hx;omega)
     have e:(x.X==(pAt l j).X&&x.Y==(pAt l j).Y)=true:=by
      have:VX l (j+1) x=(gOn x&&!(decide (((j+1:Nat):Int)>0)&&QK x (pAt l j))):=rfl;rw[this,a,d]at hP;simp only[ZXk,Bool.not_eq_false']at hP;exact hP
     refine⟨_,by simp only[go_sem,c236L0b,k,g,m,p,Pt.enc,W8,a,d,e];rfl,?_⟩
     simp only[go_sem])
  (⟨_,by simp only[go_sem,c236L0b,ZG];rfl,by simp only[go_sem]⟩)
 obtain⟨fr',h1,h2,s⟩:=L;have c:Zg rE [0,5,6,7] c236L0b [(0,.isl false ex 2<|l.map Pt.enc),(5,.isl false ex 2<|l.map Pt.enc),(6,I l.length),(7,.int .i64 0)] []=_:=h1;rw[Z5 (f:=236) rfl rfl];unfold Ul;cases o:Zu (VX l) 0 l with
 |true=>
  rw[o]at c;cases r:decide ((l.length:Int)>=2)<;>simp only[go_sem,c236,c236L0,c,h2 o,r]
 |false=>rw[o]at c;simp only[go_sem,c236,c236L0,c,s o,ZXB]
def Vi:List bf:=[⟨0,0⟩,⟨1,9⟩,⟨1,8⟩,⟨1,7⟩,⟨1,6⟩,⟨1,5⟩,⟨2,9⟩,⟨1,4⟩,⟨2,7⟩,⟨1,3⟩,⟨3,8⟩,⟨2,5⟩,⟨3,7⟩,⟨4,9⟩,⟨1,2⟩,⟨5,9⟩,⟨4,7⟩,⟨3,5⟩,⟨5,8⟩,⟨2,3⟩,⟨5,7⟩,⟨3,4⟩,⟨7,9⟩,⟨4,5⟩,⟨5,6⟩,⟨6,7⟩,⟨7,8⟩,⟨8,9⟩]
def Jh(l:List bf):List AV:=l.flatMap λp=>[I p.a,I p.b]
def Nj:∀(l:List bf)(i:Nat)(x:bf),l[i]?=some x->∃r,(Jh l).drop (i*2)=I x.a::I x.b::r
 |[],i,x,h=>by simp at h
 |y::r,0,x,h=>by
  simp at h;subst h;exact⟨Jh r,rfl⟩
 |y::r,i+1,x,h=>by
  obtain⟨t,c⟩:=Nj r i x<|by simpa using h
  refine⟨t,?_⟩;rw[<-c];have:(i+1)*2=i*2+1+1:=by omega
  rw[this];rfl
set_option maxRecDepth 4000 in
def DA:pfn rE 379 []=some (.agg<|Jh Vi):=by
 rw[Z5 (f:=379) rfl rfl];simp only[go_sem,c379,Jh,Vi,ZZp,List.flatMap_nil]
def Nl(a b:Int):Int:=Zp (λp:bf=>p.a==a&&p.b==b) Vi 0
def Z1p(a b:Int):pfn rE 323 [I a,I b]=some (I<|Nl a b):=by
 have L:=ZDU (E:=rE) (live:=[0,1,7,8]) (b:=c323L0b) (h:=[]) Vi (λp:bf=>p.a==a&&p.b==b) (λi=>[(0,I a),(1,I b),(7,.agg<|Jh Vi),(8,I i)]) 0 (λi fr=>get fr 4=I i) (λi=>rfl)
  (λi x hx hP=>by
   have l:i<28:=Z7 hx;have d:decide ((i:Int)<28)=true:=decide_eq_true<|by omega
   have g:(0<=(i:Int)/\(i:Int)<((28:Nat):Int))=True:=by simp;omega
   have o:=Zx (n:=i)<|by omega
   have e:((i:Int)).toNat=i:=rfl;obtain⟨r,j⟩:=Nj _ i x hx;refine⟨_,by simp only[go_sem,c323L0b,d,g,e,j,hP,o,if_true];rfl,?_⟩
   simp only[go_sem])
  (λi x hx hP=>by
   have l:i<28:=Z7 hx;have d:decide ((i:Int)<28)=true:=decide_eq_true<|by omega
   have g:(0<=(i:Int)/\(i:Int)<((28:Nat):Int))=True:=by simp;omega
   have e:((i:Int)).toNat=i:=rfl;obtain⟨r,j⟩:=Nj _ i x hx;refine⟨_,by simp only[go_sem,c323L0b,d,g,e,j,hP,if_true];rfl,?_⟩
   simp only[go_sem])
  (⟨_,by
    have d:decide ((Vi.length:Int)<28)=false:=rfl;simp only[go_sem,c323L0b,d];rfl⟩)
 obtain⟨fr',h1,h2⟩:=L;have c:Zg rE [0,1,7,8] c323L0b [(0,I a),(1,I b),(7,.agg<|Jh Vi),(8,.int .i64 0)] []=_:=h1;rw[Z5 (f:=323) rfl rfl];unfold Nl;by_cases k:Zp (λp:bf=>p.a==a&&p.b==b) Vi 0=-1
 .rw[k]at c⊢;simp only[go_sem,c323,c323L0,DA,c]
 .obtain⟨i,d,m⟩:=h2 k;rw[if_neg k]at c;simp only[go_sem,c323,c323L0,DA,c,m,d]
def Vj(s:Str)(i:Nat):Int:=((s.data[i]?).map λb=>((b.toNat:Nat):Int)).getD 0
def letterT(s:Str):Bool:=Z3 s emp||((s.size:Int)==1&&(decide (Vj s 0>=97)&&decide (Vj s 0<=122)))
def Z1q(s:Str):pfn rE 322 [.str s]=some (.bool<|letterT s):=by
 rw[Z5 (f:=322) rfl rfl];unfold letterT;cases b:Z3 s emp with
 |true=>simp only[go_sem,c322,b]
 |false=>
 cases c:((s.size:Int)==1)with
 |false=>simp only[go_sem,c322,b,c]
 |true=>
  have h:0<s.data.size:=by
   have:s.size=1:=by simp at c;omega
   show 0<s.size;omega
  have e:s.data[(0:Int).toNat]?=some s.data[0]:=by simp
  have g:Vj s 0=((s.data[0].toNat:Nat):Int):=by
   have d:s.data[0]?=some s.data[0]:=e;unfold Vj;rw[d];rfl
  cases a:decide (Vj s 0>=97)<;>rw[g]at a⊢<;>simp only[go_sem,c322,b,c,e,a,ZXR,ZYN,if_true]
def YO(n:HN):Bool:=decide (n.N>=1)&&(decide (n.N<=9999)&&(letterT n.bn&&decide (Nl n.Num n.Den>=0)))
def Ji(n:HN):pfn rE 243 [.agg [I n.N,.str n.bn,I n.Num,I n.Den]]=some (.bool<|YO n):=by
 rw[Z5 (f:=243) rfl rfl];unfold YO;cases b:decide (n.N>=1)with
 |false=>simp only[go_sem,c243,b]
 |true=>
 cases c:decide (n.N<=9999)with
 |false=>simp only[go_sem,c243,b,c]
 |true=>
 cases a:letterT n.bn<;>simp only[go_sem,c243,b,c,Z1q,Z1p,a]
attribute [go_sem] Z19 Z1a Z1b
@[irreducible] def Qj:List AV:=List.replicate 256<|.int .i64 0
def VY:Qj.length=256:=by unfold Qj;exact ZZE
def GY:Qj.all scalar=true:=by
 unfold Qj;rw[ZXs];intro x a;rw[ZZI a];rfl
def VZ(l:List AV)(b:Nat)(c:Int):List AV:=l.take b++[I c]++l.drop (b+1)
def ZT(c:Int)(a:List UInt8)(l:List AV):List AV:=a.foldl (λl b=>VZ l b.toNat c) l
def Z1r{l:List AV}{b:Nat}(c:Int)(h:b<l.length):(VZ l b c).length=l.length:=by
 simp[VZ];omega
def XG(c:Int):∀(a:List UInt8)(l:List AV),l.length=256->(ZT c a l).length=256
 |[],l,h=>h
 |b::r,l,h=>by
  have d:b.toNat<256:=b.toNat_lt;exact XG c r _<|by rw[Z1r c<|by omega];exact h
def Z1s(s:Str)(c:Int)(l0:List AV)(h0:l0.length=256)(hs:s.data.size<1000000):
 fnV rE 207 [.str s,I c,.ptr 1 0 0 1] [.row 256 [.agg Qj],.row 256 [.agg l0]]=some (.tup [],[.row 256 [.agg Qj],.row 256 [.agg<|ZT c s.data.toList l0]]):=by
 have L:=Y8 (E:=rE) (live:=[0,1,2,5]) (b:=c207L0b) s.size (λi=>[(0,.str s),(1,I c),(2,.ptr 1 0 0 1),(5,I i)]) (λi=>[.row 256 [.agg Qj],.row 256 [.agg<|ZT c (s.data.toList.take i) l0]]) (λi=>rfl)
  (λi hi=>by
   have hi0:i<s.data.size:=hi;have hi':=Zh hi;have hw:=Zx (n:=i)<|by omega
   have hg:s.data[i]?=some s.data[i]:=by simp[hi0]
   have hn:((i:Int)).toNat=i:=rfl;have e1:s.data.toList.take (i+1)=s.data.toList.take i++[s.data[i]]:=by
    rw[ZYm];congr 1;simp[hi0]
   have e2:ZT c (s.data.toList.take<|i+1) l0=VZ (ZT c (s.data.toList.take i) l0) s.data[i].toNat c:=by
    rw[e1];simp[ZT]
   rw[e2];have hl:=XG c (s.data.toList.take i) l0 h0;generalize ZT c (s.data.toList.take i) l0=l at hl⊢;generalize s.data[i]=b at hg⊢;have hb:b.toNat<256:=b.toNat_lt;have hb':(0<=((b.toNat:Nat):Int)/\((b.toNat:Nat):Int)<((256:Nat):Int))=True:=by simp;omega
   have hbn:(((b.toNat:Nat):Int)).toNat=b.toNat:=rfl;have hle:decide (b.toNat+1<=l.length)=true:=decide_eq_true<|by omega
   have hi0':(0<=(i:Int))=True:=by simp
   refine⟨_,by simp only[go_sem,c207L0b,hi',hi0',hw,hn,hg,hb',hbn,hle,if_true,ZXR,ZXA,ZXN];rfl,?_⟩
   simp only[go_sem])
  (e:=.exit 0) (by simp only[go_sem,c207L0b,ZG];rfl) (by simp)
 have L':Zg rE [0,1,2,5] c207L0b [(0,.str s),(1,I c),(2,.ptr 1 0 0 1),(5,.int .i64 0)] [.row 256 [.agg Qj],.row 256 [.agg l0]]=_:=L;rw[Q6 (f:=207) rfl rfl];have e3:s.data.toList.take s.size=s.data.toList:=by
  apply ZXz;exact Nat.le_of_eq<|ZXZ
 rw[e3]at L';simp only[go_sem,c207,c207L0,L']
def WH(l:List UInt8)(c:Int)(l0:List AV)(hl:l.length<100)(h0:l0.length=256):
 fnV rE 207 [.str<|B l,I c,.ptr 1 0 0 1] [.row 256 [.agg Qj],.row 256 [.agg l0]]=some (.tup [],[.row 256 [.agg Qj],.row 256 [.agg<|ZT c l l0]]):=
 Z1s (B l) c l0 h0 (Nat.lt_trans hl<|by decide)
def Um:List UInt8:=[97,98,99,100,101,102,103,104,105,106,107,108,109,110,111,112,113,114,115,116,117,118,119,120,121,122,65,66,67,68,69,70,71,72,73,74,75,76,77,78,79,80,81,82,83,84,85,86,87,88,89,90]
def Qe:List AV:=ZT 9 [59,44,46,58,40,41,91,93,123,125,61,43,45]<|ZT 8 [60,62]<|ZT 7 [33]<|ZT 6 [34]<|ZT 2 [35]<|ZT 1 [32,9,10]<|ZT 5 [95]<|ZT 4 [48,49,50,51,52,53,54,55,56,57]<|ZT 3 Um Qj
def DB:ACode:=
 .seq (.region [o 3<|.mkf (.func 207) [] [(.t 1)],
  o 2 (.mv<|.t 3)])<|
.seq (.region [o 4<|.mv<|.t 2,
 o 5 (.callv false (.t 4) [(.c<|.str<|B Um),(.c<|.int .i64 3)])])<|
.seq (.region [o 6<|.mv<|.t 2,
 o 7 (.callv false (.t 6) [(.c<|.str<|B [48,49,50,51,52,53,54,55,56,57]),(.c<|.int .i64 4)])])<|
.seq (.region [o 8<|.mv<|.t 2,
 o 9 (.callv false (.t 8) [(.c<|.str<|B [95]),(.c<|.int .i64 5)])])<|
.seq (.region [o 10<|.mv<|.t 2,
 o 11 (.callv false (.t 10) [(.c<|.str<|B [32,9,10]),(.c<|.int .i64 1)])])<|
.seq (.region [o 12<|.mv<|.t 2,
 o 13 (.callv false (.t 12) [(.c<|.str<|B [35]),(.c<|.int .i64 2)])])<|
.seq (.region [o 14<|.mv<|.t 2,
 o 15 (.callv false (.t 14) [(.c<|.str<|B [34]),(.c<|.int .i64 6)])])<|
.seq (.region [o 16<|.mv<|.t 2,
 o 17 (.callv false (.t 16) [(.c<|.str<|B [33]),(.c<|.int .i64 7)])])<|
.seq (.region [o 18<|.mv<|.t 2,
 o 19 (.callv false (.t 18) [(.c<|.str<|B [60,62]),(.c<|.int .i64 8)])])<|
.seq (.region [o 20<|.mv<|.t 2,
 o 21 (.callv false (.t 20) [(.c<|.str<|B [59,44,46,58,40,41,91,93,123,125,61,43,45]),(.c<|.int .i64 9)])])<|
.seq (.region [o 22<|.load (some 256)<|.t 1,
 ⟨none,.store 256 (.t 0)<|.t 22,none⟩])<|
.ret
def GZ:ACode:=.seq (.region [o 0<|.box 256<|.c<|.agg Qj])<|.seq (.region [o 1<|.box 256<|.c<|.agg Qj]) DB
def c117_eq:c117=GZ:=by
 unfold GZ Qj;kernel_rfl
def W9(c:Int):∀(a:List UInt8)(l:List AV),l.all scalar=true->(ZT c a l).all scalar=true
 |[],l,h=>h
 |b::r,l,h=>by
  refine W9 c r _ ?_;simp only[VZ,List.all_append,ZYi,List.all_nil,scalar_int,ZXC,ZXf];rw[ZXs]at h⊢;exact⟨λx hx=>h x<|ZYI hx,ZXs.2 λx hx=>h x<|ZZ8 hx⟩
def cl0:List AV:=ZT 3 Um Qj
def Nn:cl0.length=256:=XG _ _ _ VY
def DC:cl0.all scalar=true:=W9 _ _ _ GY
def Z1t:ZT 3 Um Qj=cl0:=rfl
def cl1:List AV:=ZT 4 [48,49,50,51,52,53,54,55,56,57] cl0
def Np:cl1.length=256:=XG _ _ _ Nn
def DD:cl1.all scalar=true:=W9 _ _ _ DC
def Z1u:ZT 4 [48,49,50,51,52,53,54,55,56,57] cl0=cl1:=rfl
def cl2:List AV:=ZT 5 [95] cl1
def Nq:cl2.length=256:=XG _ _ _ Np
def DE:cl2.all scalar=true:=W9 _ _ _ DD
def Z1v:ZT 5 [95] cl1=cl2:=rfl
def cl3:List AV:=ZT 1 [32,9,10] cl2
def Nr:cl3.length=256:=XG _ _ _ Nq
def DF:cl3.all scalar=true:=W9 _ _ _ DE
def Z1w:ZT 1 [32,9,10] cl2=cl3:=rfl
def cl4:List AV:=ZT 2 [35] cl3
def Ns:cl4.length=256:=XG _ _ _ Nr
def DG:cl4.all scalar=true:=W9 _ _ _ DF
def Z1x:ZT 2 [35] cl3=cl4:=rfl
def cl5:List AV:=ZT 6 [34] cl4
def Nt:cl5.length=256:=XG _ _ _ Ns
def DH:cl5.all scalar=true:=W9 _ _ _ DG
def Z1y:ZT 6 [34] cl4=cl5:=rfl
def cl6:List AV:=ZT 7 [33] cl5
def Nu:cl6.length=256:=XG _ _ _ Nt
def DI:cl6.all scalar=true:=W9 _ _ _ DH
def Z1z:ZT 7 [33] cl5=cl6:=rfl
def cl7:List AV:=ZT 8 [60,62] cl6
def Nv:cl7.length=256:=XG _ _ _ Nu
def DJ:cl7.all scalar=true:=W9 _ _ _ DI
def Z1A:ZT 8 [60,62] cl6=cl7:=rfl
def cl8:List AV:=ZT 9 [59,44,46,58,40,41,91,93,123,125,61,43,45] cl7
def Nw:cl8.length=256:=XG _ _ _ Nv
def DK:cl8.all scalar=true:=W9 _ _ _ DJ
def Z1B:ZT 9 [59,44,46,58,40,41,91,93,123,125,61,43,45] cl7=cl8:=rfl
def Z1C:Qe=cl8:=rfl
def Ny:Qe.length=256:=Nw
def DL:Qe.all scalar=true:=DK
def Z1D{l:List AV}(h:l.length=256):List.take 256 l=l:=ZXz<|by omega
def DM{l:List AV}(h:l.length=256):List.drop 256 l=[]:=List.drop_of_length_le<|by omega
def Wa(c:Int):∀(d:List UInt8)(l:List AV),Z4 l=true->Z4 (ZT c d l)=true
 |[],l,h=>h
 |b::r,l,h=>by
  refine Wa c r _ ?_;have h2:Z4 (l.take b.toNat)=true/\Z4 (l.drop b.toNat)=true:=by
   rw[<-ZXf,<-XA,ZYe];exact h
  have e:Z4 (l.drop<|b.toNat+1)=true:=by
   cases a:l.drop b.toNat with
   |nil=>have:l.drop (b.toNat+1)=[]:=by rw[<-ZYu,a];rfl
         rw[this];rfl
   |cons x t=>have:l.drop (b.toNat+1)=t:=by rw[<-ZYu,a];rfl
              rw[this];have:=h2.2;rw[a]at this;simp[Z4]at this;exact this.2
  simp only[VZ,XA,h2.1,e,N1,Dk,Dj,ZY3]
def DN:Z4 Qj=true:=by unfold Qj;kernel_rfl
def Un:Z4 Qe=true:=by
 unfold Qe;exact Wa _ _ _<|Wa _ _ _<|Wa _ _ _<|Wa _ _ _<|Wa _ _ _<|Wa _ _ _<|Wa _ _ _<|Wa _ _ _<|Wa _ _ _ DN
def DO:pfn rE 117 []=some (.agg Qe):=by
 have e:List.take 256 cl8=cl8:=Z1D Nw;have a:List.drop 256 Qj=[]:=DM VY;have j:Z4 cl8=true:=Un;have l:=WH Um 3 Qj (by decide) VY
 have m:=WH [48,49,50,51,52,53,54,55,56,57] 4 cl0 (by decide) Nn
 have b:=WH [95] 5 cl1 (by decide) Np
 have i:=WH [32,9,10] 1 cl2 (by decide) Nq
 have g:=WH [35] 2 cl3 (by decide) Nr
 have n:=WH [34] 6 cl4 (by decide) Ns
 have h:=WH [33] 7 cl5 (by decide) Nt
 have k:=WH [60,62] 8 cl6 (by decide) Nu
 have d:=WH [59,44,46,58,40,41,91,93,123,125,61,43,45] 9 cl7 (by decide) Nv
 rw[Z5 (f:=117) (c:=GZ) rfl (by rw[<-c117_eq];rfl),Z1C]
 simp only[go_sem,GZ,DB,VY,GY,RL,l,m,b,i,g,n,h,k,d,Nw,DK,Z1t,Z1u,Z1v,Z1w,Z1x,Z1y,Z1z,Z1A,Z1B,e,a,j,ZXr]
def isI(v:AV):Bool:=match v with| .int .i64 _=>true|_=>false
def Z1E{v:AV}(h:isI v=true):∃n,v=I n:=by
 cases v with
 |int k n=>cases k<;>first|exact⟨n,rfl⟩|simp[isI]at h
 |_=>simp[isI]at h
def Wb(c:Int):∀(a:List UInt8)(l:List AV),l.all isI=true->(ZT c a l).all isI=true
 |[],l,h=>h
 |b::r,l,h=>by
  refine Wb c r _ ?_;simp only[VZ,List.all_append,ZYi,List.all_nil,ZXC,ZXf];rw[ZXs]at h;exact⟨⟨ZXs.2 λx hx=>h x<|ZYI hx,rfl⟩,ZXs.2 λx hx=>h x<|ZZ8 hx⟩
def Z1F:Qe.all isI=true:=by
 have a:Qj.all isI=true:=by
  unfold Qj;rw[ZXs];intro x b;rw[ZZI b];rfl
 unfold Qe;exact Wb _ _ _<|Wb _ _ _<|Wb _ _ _<|Wb _ _ _<|Wb _ _ _<|Wb _ _ _<|Wb _ _ _<|Wb _ _ _<|Wb _ _ _ a
def intOf(v:AV):Int:=match v with| .int _ n=>n|_=>0
def K1(k:Nat):Int:=intOf<|Qe.getD k .bot
def Z1G{k:Nat}(h:k<256):Qe.drop k=I (K1 k)::Qe.drop (k+1):=by
 have a:k<Qe.length:=by rw[Ny];exact h
 rw[ZXP a];have h1:=ZXs.1 Z1F _<|ZYA a;obtain⟨n,b⟩:=Z1E h1;have:K1 k=n:=by
  unfold K1;rw[List.getD,ZXj a,b];rfl
 rw[this,b]
def Xc(s:Str)(i:Nat):Nat:=(s.data.getD i 0).toNat
def atT(s:Str)(i:Nat):Int:=bif decide ((i:Int)>=(s.size:Int))then 0 else K1<|Xc s i
def DP(s:Str)(i:Nat):Xc s i<256:=UInt8.toNat_lt _
def DQ{s:Str}{i:Nat}(h:i<s.size):s.data[i]?=some (s.data.getD i 0):=by
 have h':i<s.data.size:=h;have e:s.data[i]?=some s.data[i]:=ZYW h';rw[ZYC,e];rfl
def H0(s:Str)(i:Nat):pfn rE 209 [.iptr true<|.str s::Qe,I i]=some (I<|atT s i):=by
 rw[Z5 (f:=209) rfl rfl];unfold atT;cases hc:decide ((i:Int)>=(s.size:Int))with
 |true=>simp only[go_sem,c209,hc]
 |false=>
  have hi:i<s.size:=by have:=of_decide_eq_false hc;omega
  have hg:=DQ hi;have h0:(0<=(i:Int))=True:=by simp
  have hn:((i:Int)).toNat=i:=rfl;have hb:=DP s i;have hd:=Z1G hb;have hb':(0<=((Xc s i:Nat):Int)/\((Xc s i:Nat):Int)<((256:Nat):Int))=True:=by simp;omega
  have hbn:(((Xc s i:Nat):Int)).toNat=Xc s i:=rfl;have e:(s.data.getD i 0).toNat=Xc s i:=rfl;simp only[go_sem,c209,hc,h0,hn,hg,if_true,ZXR,e,hb',hbn,ZXN,hd]
def Jj(n:Option Nat)(sz:Nat)(q:AOp):ACode:=
 .keep [0,1,4,7,8]<|.seq (.region [o 9<|.bin .lss (.t 8)<|.t 7])<|
  .seq (.cond (.t 9) (.skip)<|.exit 0)<|
  .seq (.keep [0,1,4,7,8]<|.block 1<|
   .seq (.region [o 10<|.mv<|.t 8,o 5<|.mv<|.t 10])<|
   .seq (.keep [0,1,5,7,8,16]<|.region [o 11<|.mv<|.t 1,o 12<|.mv<|.t 0,o 13<|.mv<|.t 5,o 14<|.iadr sz (.t 12)<|.t 13,o 15<|.load n<|.t 14,o 16 q])<|
   .cond (.t 16) (.seq (.region [o 17<|.mv<|.t 5,o 4<|.mv<|.t 17])<|.ret) (.skip))<|
  .region [o 18<|.bin .add (.t 8)<|.c<|.int .i64 1,o 8<|.mv<|.t 18]
def ixC(n:Option Nat)(sz:Nat)(q:AOp):ACode:=
 .seq (.region [o 4<|.mv<|.c<|.int .i64 0])<|
 .seq (.seq (.keep [0,1,7,8]<|.region [o 6<|.mv<|.t 0,o 7<|.len 1<|.t 6,o 8<|.mv<|.c<|.int .i64 0])<|
 .keep [4]<|.block 0<|.loop [0,1,7,8]<|Jj n sz q)<|
 .seq (.region [o 4<|.mv<|.c<|.int .i64<|-1])<|
 .ret
def Nz{α:Type}{f:Nat}{enc:α->AV}{p:α->Bool}{v:AV}(q:rE.sum f=none)(r:rE.fn f=some ⟨[.tmp 4],ixC none 1<|.bin .eql (.t 11)<|.t 15⟩)(l:List α)(u:l.length<=4611686018427387904)
 (d:∀x∈l,(enc x).cells=[enc x]) (w:clean v=true) (o:∀x∈l,YZ .eql v (enc x)=some (.bool<|p x)) (bw ex:Bool):pfn rE f [.isl bw ex 1<|l.map enc,v]=some (I<|Zp p l 0):=by
 have L:=ZDU (E:=rE) (live:=[0,1,7,8]) (b:=Jj none 1<|.bin .eql (.t 11)<|.t 15) (h:=[]) l p (λi=>[(0,.isl bw ex 1<|l.map enc),(1,v),(7,I l.length),(8,I i)]) 0 (λi fr=>get fr 4=I i) (λi=>rfl)
  (λi x hx hP=>by
   have k:=Z6 (f:=enc) hx;have g:=Zh<|Z7 hx;have s:=Zx (n:=i) (by have:=Z7 hx;omega)
   have e:=ZXp hx;have j:=d x e;have a:=o x e;rw[hP]at a;simp only[go_sem]at a;refine⟨_,by simp only[go_sem,Jj,k,g,s,j,a];rfl,?_⟩
   simp only[go_sem])
  (λi x hx hP=>by
   have k:=Z6 (f:=enc) hx;have g:=Zh<|Z7 hx;have e:=ZXp hx;have j:=d x e;have a:=o x e;rw[hP]at a;simp only[go_sem]at a;refine⟨_,by simp only[go_sem,Jj,k,g,j,a];rfl,?_⟩
   simp only[go_sem])
  (⟨_,by simp only[go_sem,Jj,ZG];rfl⟩)
 obtain⟨fr',h1,h2⟩:=L;have c:Zg rE [0,1,7,8] (Jj none 1<|.bin .eql (.t 11)<|.t 15) [(0,.isl bw ex 1<|l.map enc),(1,v),(7,I l.length),(8,.int .i64 0)] []=_:=h1;rw[Z5 (f:=f) q r];by_cases m:Zp p l 0=-1
 .rw[m]at c⊢;simp only[go_sem,ixC,c]
 .obtain⟨i,g,a⟩:=h2 m;rw[if_neg m]at c;simp only[go_sem,ixC,c,a,g]
def DR(l:List Int)(ex:Bool)(v:Int)(a:l.length<=1000000):pfn rE 48 [.isl false ex 1<|l.map I,I v]=some (.bool<|l.any<|λx=>v==x):=by
 have h:=Nz (f:=109) (enc:=I) (p:=λx=>v==x) (v:=I v) rfl rfl l (by omega) (λx _=>rfl) rfl (λx _=>rfl) false ex
 rw[Z5 (f:=48) rfl rfl,<-Vg];unfold WG;simp only[go_sem,c48,h]
def Xd(s:Str)(cs:List Int):Nat->Nat->Nat
 |0,i=>i
 |k+1,i=>bif decide ((i:Int)<(s.size:Int))&&cs.any (λx=>atT s i==x)then Xd s cs k (i+1)else i
def ZI(s:Str)(cs:List Int)(i:Nat):Nat:=Xd s cs (s.size-i) i
def NA(s:Str)(cs:List Int):∀k i,i<=Xd s cs k i/\Xd s cs k i<=i+k
 |0,i=>by simp[Xd]
 |k+1,i=>by
  unfold Xd;cases decide ((i:Int)<(s.size:Int))&&cs.any (λx=>atT s i==x)with
  |true=>have:=NA s cs k<|i+1;simp only[cond_true];omega
  |false=>simp
theorem K2(s:Str)(cs:List Int)(i:Nat):i<=ZI s cs i:=(NA s cs _ i).1
def K3(s:Str)(cs:List Int){i:Nat}(h:i<=s.size):ZI s cs i<=s.size:=by
 have:=(NA s cs (s.size-i) i).2;unfold ZI;omega
def NB(s:Str)(cs:List Int){i:Nat}(h:i<s.size):ZI s cs i=bif cs.any (λx=>atT s i==x)then ZI s cs (i+1)else i:=by
 unfold ZI;have e:s.size-i=(s.size-(i+1))+1:=by omega
 rw[e,Xd];have:decide ((i:Int)<(s.size:Int))=true:=Zh h;rw[this,ZXk]
def H1(s:Str)(cs:List Int)(i:Nat)(hs:s.size<=1000000)(hi:i<=s.size)(hc:cs.length<=1000):pfn rE 208 [.iptr true<|.str s::Qe,I i,.isl false false 1<|cs.map I]=some (I<|ZI s cs i):=by
 have L:∀k i,s.size-i=k->i<=s.size->Zg rE [0,1,2] c208L0b [(0,.iptr true<|.str s::Qe),(1,I i),(2,.isl false false 1<|cs.map I)] []=some (.exit 0,[(0,.iptr true<|.str s::Qe),(1,I (Xd s cs k i:Nat)),(2,.isl false false 1<|cs.map I)],[]):=by
  intro k;induction k with
  |zero=>
   intro i hk hi;have:i=s.size:=by omega
   subst this;exact Q7 rfl (by simp only[go_sem,c208L0b,ZG];rfl) (by simp)
  |succ k ih=>
   intro i hk hi;have hlt:decide ((i:Int)<(s.size:Int))=true:=Zh<|by omega
   have ha:=H0 s i;have hh:=DR cs false (atT s i)<|by omega
   have hw:=Zx (n:=i)<|by omega
   unfold Xd;rw[hlt,ZXk];cases hb:cs.any (λx=>atT s i==x)with
   |true=>
    rw[hb]at hh;rw[cond_true,<-ih (i+1) (by omega) (by omega)]
    refine(Yt rfl (by simp only[go_sem,c208L0b,hlt,ha,hh,hw];rfl)).trans ?_
    simp only[go_sem]
   |false=>
    rw[hb]at hh;rw[cond_false];exact Q7 rfl (by simp only[go_sem,c208L0b,hlt,ha,hh]) (by simp)
 have L':=L _ i rfl hi;rw[Z5 (f:=208) rfl rfl];unfold ZI;simp only[go_sem,c208,c208L0,L']
def nlB(c:UInt8):Bool:=((c.toNat:Nat):Int)==10
def Wd(s:Str)(i:Nat):Int:=Yc nlB (s.extract i s.size).data.toList 0
def K4(s:Str):Nat->Nat->Nat
 |0,i=>i
 |k+1,i=>bif atT s i==2 then(bif decide (Wd s i<0)then s.size else K4 s k<|ZI s [1]<|i+(Wd s i).toNat)else i
def YP(s:Str)(i:Nat):Nat:=K4 s (s.size+1)<|ZI s [1] i
def H2(p:UInt8->Bool):∀(l:List UInt8)(k:Nat),Yc p l k=-1\/∃j:Nat,Yc p l k=((k+j:Nat):Int)/\j<l.length/\∃c,l[j]?=some c/\p c=true
 |[],k=>Or.inl rfl
 |c::r,k=>by
  unfold Yc;cases a:p c with
  |true=>right;exact⟨0,by simp,by simp,c,by simp,a⟩
  |false=>
   rw[cond_false];have e:(k:Int)+1=((k+1:Nat):Int):=by omega
   rw[e];rcases H2 p r (k+1)with h|⟨j,h1,h2,c2,h3,h4⟩
   .exact Or.inl h
   .right;refine⟨j+1,?_,by simp;omega,c2,by simpa using h3,h4⟩
    rw[h1];omega
def ext_list(s:Str)(i j:Nat):(s.extract i j).data.toList=(s.data.toList.drop i).take (j-i):=by
 rw[ByteArray.data_extract,Array.toList_extract,List.extract_eq_take_drop]
def Z1H(s:Str)(i:Nat):Wd s i=-1\/∃j:Nat,Wd s i=(j:Int)/\i+j<s.size/\Xc s (i+j)=10:=by
 unfold Wd;rcases H2 nlB (s.extract i s.size).data.toList 0 with h|⟨j,h1,h2,c,h3,h4⟩
 .exact Or.inl h
 .right;rw[ext_list]at h2 h3;have a:s.data.toList.length=s.size:=ZXZ;refine⟨j,by exact h1.trans (by simp),?_,?_⟩
  .simp at h2;have:s.data.size=s.size:=rfl;omega
  .have b:s.data.toList[i+j]?=some c:=by
    rw[ZZt,ZZH]at h3;split at h3
    .exact h3
    .cases h3
   have d:s.data[i+j]?=some c:=by simpa using b
   have:Xc s (i+j)=c.toNat:=by unfold Xc;rw[ZYC,d];rfl
   rw[this];have:((c.toNat:Nat):Int)=10:=by simpa[nlB]using h4
   omega
def Z1I:K1 10=1:=by unfold K1 Qe Qj;kernel_rfl
def Z1J{s:Str}{i:Nat}(h:i<s.size)(a:Xc s i=10):atT s i=1:=by
 unfold atT;have:decide ((i:Int)>=(s.size:Int))=false:=decide_eq_false<|by omega
 rw[this,cond_false,a,Z1I]
def DS{i n:Nat}(h:i<=n):bounds (some<|I i) none none n=some (i,n,none):=by
 simp[bounds,Vz,Wl,VA,numOf,VB,Ue,h]
def DT{i n:Nat}(h:i<=n):bounds none (some<|I i) none n=some (0,i,none):=by
 simp[bounds,Vz,Wl,VA,numOf,VB,Ue,h]
theorem Uo{i j n:Nat}(h:i<=j)(h2:j<=n):bounds (some<|I i) (some<|I j) none n=some (i,j,none):=by
 simp[bounds,Vz,Wl,VA,numOf,VB,Ue,h,h2]
def Z1K(s:Str):pfn rE 210 [.str s,.int .u8 10]=some (I<|Yc (λx=>(x.toNat:Int)==10) s.data.toList 0):=by
 unfold pfn;rw[V8 (s:=U9) rfl];rfl
def DU(s:Str)(i:Nat)(q:s.size<=1000000)(g:i<=s.size):pfn rE 118 [.iptr true<|.str s::Qe,I i]=some (I<|YP s i)/\YP s i<=s.size/\i<=YP s i:=by
 have L:∀k i,s.size+1-i<=k->i<=s.size->∃e fr',Zg rE [0,1] c118L0b [(0,.iptr true<|.str s::Qe),(1,I i)] []=some (e,fr',[])/\((e=.exit 0/\get fr' 1=I (K4 s k i))\/(e=.ret/\get fr' 4=I (K4 s k i)))/\K4 s k i<=s.size/\i<=K4 s k i:=by
  intro k;induction k with
  |zero=>intro i B g;omega
  |succ k ih=>
   intro i B g;have p:=H0 s i;unfold K4;cases h2:atT s i==2 with
   |false=>
    rw[cond_false];refine⟨_,_,Q7 rfl (by simp only[go_sem,c118L0b,p,h2];rfl) (by simp),Or.inl ⟨rfl,?_⟩,g,ZXh _⟩
    simp only[go_sem]
   |true=>
    have u:i<s.size:=by
     cases r:decide ((i:Int)>=(s.size:Int))with
     |false=>have:=of_decide_eq_false r;omega
     |true=>unfold atT at h2;rw[r]at h2;simp at h2
    have h:=DS (i:=i) (n:=s.size) g;have o:=Z1K<|s.extract i s.size;have d:pfn rE 210 [.str<|s.extract i s.size,.int .u8 10]=some (I<|Wd s i):=o;rw[cond_true];rcases Z1H s i with hn|⟨j,hn,hj,hb⟩
    .have a:decide (Wd s i<0)=true:=by rw[hn];rfl
     rw[a,cond_true];refine⟨_,_,Q7 rfl (by simp only[go_sem,c118L0b,p,h2,h,d,a];rfl) (by simp),Or.inr ⟨rfl,?_⟩,ZXh _,g⟩
     simp only[go_sem]
    .have a:decide (Wd s i<0)=false:=by rw[hn];exact decide_eq_false (by omega)
     rw[a,cond_false];have z:(Wd s i).toNat=j:=by rw[hn];rfl
     rw[z];have y:IntKind.i64.wrap ((i:Int)+Wd s i)=((i+j:Nat):Int):=by rw[hn,YM (by omega)<|by omega];omega
     have b:pfn rE 208 [.iptr true<|.str s::Qe,I (i+j:Nat),.isl false false 1 [I 1]]=some (I<|ZI s [1]<|i+j):=H1 s [1] (i+j) q (by omega)<|by simp
     have l:i+j+1<=ZI s [1] (i+j):=by
      rw[NB s [1] hj];have:([1]:List Int).any (λx=>atT s (i+j)==x)=true:=by simp[Z1J hj hb]
      rw[this,cond_true];exact K2 s [1]<|i+j+1
     have c:=K3 s [1] (i:=i+j)<|by omega
     generalize A:ZI s [1] (i+j)=w at b l c⊢;obtain⟨e,fr',m,t,v,C⟩:=ih w (by omega) c
     refine⟨e,fr',?_,t,v,by omega⟩
     rw[<-m];refine(Yt rfl (by simp only[go_sem,c118L0b,p,h2,h,d,a,y,b];rfl)).trans ?_
     simp only[go_sem]
 have b:pfn rE 208 [.iptr true<|.str s::Qe,I i,.isl false false 1 [I 1]]=some (I<|ZI s [1] i):=H1 s [1] i q g<|by simp
 have l:=K2 s [1] i;have c:=K3 s [1] g;obtain⟨e,fr',h1,h2,m,t⟩:=L (s.size+1) (ZI s [1] i) (by omega) c
 refine⟨?_,m,by unfold YP;omega⟩
 rw[Z5 (f:=118) rfl rfl];unfold YP;rcases h2 with⟨rfl,h2⟩|⟨rfl,h2⟩<;>simp only[go_sem,c118,c118L0,b,h1,h2]
def Xe(s p:Str):Bool:=decide ((s.size:Int)>=(p.size:Int))&&Z3 (s.extract 0 p.size) p
def Z1L(s p:Str):pfn rE 213 [.str s,.str p]=some (.bool<|Xe s p):=by
 have h:pfn rE 305 [.str s,.str p]=some (.bool<|Xe s p):=by
  rw[Z5 (f:=305) rfl rfl];unfold Xe;cases a:decide ((s.size:Int)>=(p.size:Int))with
  |false=>simp only[go_sem,c305,a]
  |true=>
   have b:=DT (i:=p.size) (n:=s.size)<|by grind
   simp only[go_sem,c305,a,b]
 rw[Z5 (f:=213) rfl rfl];simp[go_sem,c213,h]
def qnB(c:UInt8):Bool:=[34,10].any (·==c)
def Z1M(s:Str)(a:s.size<4294967281):pfn rE 212 [.str s,.str<|B [34,10]]=some (I<|Yc qnB s.data.toList 0):=by
 have e:J6 [.str s,.str<|B [34,10]] []=some (.int .i64<|Yc qnB s.data.toList 0,[]):=by
  have b:Nat.blt s.size 4294967281=true:=ZXH a;show(bif (Nat.blt s.size 4294967281&&_)then some _ else none)=_
  rw[b];rfl
 unfold pfn;rw[V8 (s:=J6) rfl,e];rfl
def NC(s:Str):Int:=J4 s.data.toList 0
def H3(s:Str):Bool:=s.data.toList.all W6&&(!s.data.toList.isEmpty&&Nat.ble s.size 18)
def Z1N(s:Str)(h:H3 s=true):pfn rE 211 [.str s]=some (.tup [I<|NC s,.nilif]):=by
 have e:ZPo [.str s] []=some (.tup [I<|NC s,.nilif],[]):=by
  unfold H3 at h;show(bif (s.data.toList.all W6&&(!s.data.toList.isEmpty&&Nat.ble s.size 18))then some _ else _)=_
  rw[h];rfl
 unfold pfn;rw[V8 (s:=ZPo) rfl,e];rfl
def Z1O:∀k:Fin 256,K1 k.val=4->48<=k.val/\k.val<=57:=by decide +kernel
def Z1P{s:Str}{i:Nat}(h:atT s i=4):i<s.size/\W6 (s.data.getD i 0)=true:=by
 unfold atT at h;cases c:decide ((i:Int)>=(s.size:Int))with
 |true=>grind
 |false=>
  rw[c,cond_false]at h;have h1:=of_decide_eq_false c;obtain⟨h2,a⟩:=Z1O ⟨Xc s i,DP s i⟩ h;refine⟨by omega,?_⟩
  unfold W6;rw[ZXf];exact⟨decide_eq_true h2,decide_eq_true a⟩
def DV(s:Str):∀k i j,i<=j->j<Xd s [4] k i->atT s j=4
 |0,i,j,h1,h2=>by grind [Xd]
 |k+1,i,j,h1,h2=>by
  rw[Xd]at h2;cases c:decide ((i:Int)<(s.size:Int))&&[4].any (λx=>atT s i==x)with
  |false=>grind
  |true=>
   rw[c,cond_true]at h2;by_cases e:i=j
   .grind
   .exact DV s k (i+1) j (by omega) h2
def Z1Q(s:Str)(i:Nat)(y:i<s.size)(z:s.size<=1000000)(p:(atT s i==4)=true)(d:decide (W ((ZI s [4] i:Int)-(i:Int))>13)=false):H3 (s.extract i<|ZI s [4] i)=true:=by
 have v:=K3 s [4] (i:=i)<|by omega
 have w:i<ZI s [4] i:=by
  rw[NB s [4] y];have:[4].any (λx=>atT s i==x)=true:=by grind
  grind [K2]
 have u:W ((ZI s [4] i:Int)-(i:Int))=(ZI s [4] i:Int)-(i:Int):=YM (by omega)<|by omega
 have k:=of_decide_eq_false d;have f:(s.extract i<|ZI s [4] i).size=ZI s [4] i-i:=by
  simp_all
 have c:(s.extract i<|ZI s [4] i).data.toList.length=ZI s [4] i-i:=by
  rw[<-f];exact ZXZ
 unfold H3;simp only[ZXf];refine⟨?_,?_,ZXH<|by omega⟩
 .rw[ZXs];intro b q;obtain⟨m,l⟩:=ZYv.1 q;have g:m<ZI s [4] i-i:=by grind
  have j:=Z1P<|DV s (s.size-i) i (i+m) (by omega)<|by grind [ZI]
  have n:s.data[i+m]?=some b:=by
   simp_all
  simp_all
 grind
structure Tok where
 br:Int
 At:Int
 N:Int
 Text:Str
def Tok.enc(t:Tok):AV:=.agg [I t.br,I t.At,I t.N,.str t.Text]
def Yw:Tok:=⟨0,0,0,emp⟩
structure Nx where
 tok:Tok
 stop:Int
 err:Int
abbrev ZX(s:Str)(i j:Nat):Str:=s.extract i j
def quN(s:Str)(i:Nat):Int:=Yc qnB (ZX s (i+1) s.size).data.toList 0
def H4(s:Str)(i:Nat):Bool:=decide (quN s i<0)||Vj (ZX s (i+1) s.size) (quN s i).toNat==10
def We(s:Str)(i:Nat):Nx:=
 bif atT s i==3 then
  (bif decide (W ((ZI s [3,4,5] i:Int)-(i:Int))>24)then⟨Yw,0,2⟩else⟨⟨1,i,0,ZX s i<|ZI s [3,4,5] i⟩,ZI s [3,4,5] i,0⟩)
 else bif atT s i==4 then
  (bif decide (W ((ZI s [4] i:Int)-(i:Int))>13)||(atT s (ZI s [4] i)==3||atT s (ZI s [4] i)==5)then⟨Yw,0,4⟩
   else⟨⟨2,i,NC<|ZX s i<|ZI s [4] i,ZX s i<|ZI s [4] i⟩,ZI s [4] i,0⟩)
 else bif atT s i==6 then
  (bif H4 s i then⟨Yw,0,6⟩else bif decide (quN s i>400)then⟨Yw,0,2⟩else⟨⟨3,i,0,ZX (ZX s (i+1) s.size) 0 (quN s i).toNat⟩,i+(quN s i).toNat+2,0⟩)
 else bif atT s i==7||atT s i==8 then
  (bif Xe (ZX s (i+1) s.size) (B [61])then⟨⟨4,i,0,ZX s i<|i+2⟩,i+2,0⟩else bif atT s i==7 then⟨Yw,0,3⟩else⟨⟨4,i,0,ZX s i<|i+1⟩,i+1,0⟩)
 else bif atT s i==9 then⟨⟨4,i,0,ZX s i<|i+1⟩,i+1,0⟩
 else⟨Yw,0,3⟩
def Nx.val(n:Nx):AV:=.tup [.agg [I n.tok.br,I n.tok.At,I n.tok.N,.str n.tok.Text],I n.stop,I n.err]
def Z1R(s:Str)(i:Nat)(K:s.size<=1000000)(Z:i<s.size):pfn rE 119 [.iptr true<|.str s::Qe,I i]=some (We s i).val:=by
 have o:=H0 s i;have l:IntKind.i64.wrap ((i:Int)+1)=(i:Int)+1:=YM (by omega)<|by omega
 have D:IntKind.i64.wrap ((i:Int)+2)=(i:Int)+2:=YM (by omega)<|by omega
 have S:((i:Int)+1)=((i+1:Nat):Int):=by omega
 have T:((i:Int)+2)=((i+2:Nat):Int):=by omega
 have m:bounds (some<|I<|(i:Int)+1) none none s.size=some (i+1,s.size,none):=by rw[S];exact DS<|by omega
 have C:bounds (some<|I i) (some<|I<|(i:Int)+1) none s.size=some (i,i+1,none):=by grind [Uo]
 rw[Z5 (f:=119) rfl rfl];unfold We;cases b:atT s i==3 with
 |true=>
  have p:pfn rE 208 [.iptr true<|.str s::Qe,I i,.isl false false 1 [I 3,I 4,I 5]]=some (I<|ZI s [3,4,5] i):=H1 s [3,4,5] i K (by omega)<|by simp
  have x:=Uo (n:=s.size) (K2 s [3,4,5] i)<|K3 s [3,4,5]<|by omega
  cases c:decide (W ((ZI s [3,4,5] i:Int)-(i:Int))>24)<;>simp only[go_sem,c119,o,b,p,c,x,Nx.val,Yw,ZX]
 |false=>
 cases a:atT s i==4 with
 |true=>
  have p:pfn rE 208 [.iptr true<|.str s::Qe,I i,.isl false false 1 [I 4]]=some (I<|ZI s [4] i):=H1 s [4] i K (by omega)<|by simp
  have x:=Uo (n:=s.size) (K2 s [4] i)<|K3 s [4]<|by omega
  have u:=H0 s<|ZI s [4] i;cases c:decide (W ((ZI s [4] i:Int)-(i:Int))>13)with
  |true=>simp only[go_sem,c119,o,b,a,p,c,u,Nx.val,Yw]
  |false=>
  cases z:atT s (ZI s [4] i)==3 with
  |true=>simp only[go_sem,c119,o,b,a,p,c,u,z,Nx.val,Yw]
  |false=>
  cases R:atT s (ZI s [4] i)==5 with
  |true=>simp only[go_sem,c119,o,b,a,p,c,u,z,R,Nx.val,Yw]
  |false=>
   have O:=Z1N _<|Z1Q s i Z K a c;simp only[go_sem,c119,o,b,a,p,c,u,z,R,x,O,Nx.val,ZX]
 |false=>
 cases e:atT s i==6 with
 |true=>
  have q:pfn rE 212 [.str<|s.extract (i+1) s.size,.str<|B [34,10]]=some (I<|quN s i):=Z1M _<|by grind [ByteArray.size_extract]
  unfold H4;cases w:decide (quN s i<0)with
  |true=>simp only[go_sem,c119,o,b,a,e,l,m,q,w,Nx.val,Yw]
  |false=>
   have F:(s.extract (i+1) s.size).data.toList=(s.data.toList.drop<|i+1).take (s.size-(i+1)):=ext_list _ _ _;have V:s.data.toList.length=s.size:=ZXZ;obtain⟨j,y,G,Y⟩:∃j:Nat,quN s i=(j:Int)/\j<(s.extract (i+1) s.size).size/\i+1+j<s.size:=by
    rcases H2 qnB (ZX s (i+1) s.size).data.toList 0 with h|⟨j,h1,h2,_⟩
    .grind [quN]
    .refine⟨j,h1.trans (by simp),?_,?_⟩
     .have:(ZX s (i+1) s.size).data.toList.length=(s.extract (i+1) s.size).size:=ZXZ;omega
     grind
   have hn:(quN s i).toNat=j:=by grind
   have P:(0<=(j:Int))=True:=by simp
   have v:((j:Int)).toNat=j:=rfl;have E:=DQ G;have N:Vj (ZX s (i+1) s.size) j=((((s.extract (i+1) s.size).data.getD j 0).toNat:Nat):Int):=by
    unfold Vj ZX;grind
   rw[y]at q w;have H:=DT (i:=j) (n:=(s.extract (i+1) s.size).size)<|by omega
   have Q:IntKind.i64.wrap ((i:Int)+(j:Int))=(i:Int)+(j:Int):=YM (by omega)<|by omega
   have M:IntKind.i64.wrap ((i:Int)+(j:Int)+2)=(i:Int)+(j:Int)+2:=YM (by omega)<|by omega
   rw[y,v,N];cases J:((((s.extract (i+1) s.size).data.getD j 0).toNat:Nat):Int)==10 with
   |true=>simp only[go_sem,c119,o,b,a,e,l,m,q,w,P,if_true,v,E,ZXR,J,Nx.val,Yw]
   |false=>
   cases z:decide ((j:Int)>400)with
   |true=>simp only[go_sem,c119,o,b,a,e,l,m,q,w,P,if_true,v,E,ZXR,J,z,Nx.val,Yw]
   |false=>simp only[go_sem,c119,o,b,a,e,l,m,q,w,P,if_true,v,E,ZXR,J,z,H,Q,M,Nx.val,ZX]
 |false=>
 have t:pfn rE 213 [.str<|s.extract (i+1) s.size,.str<|B [61]]=some (.bool<|Xe (ZX s (i+1) s.size)<|B [61]):=Z1L _ _;have A:Xe (ZX s (i+1) s.size) (B [61])=true->i+2<=s.size:=by
  intro h;unfold Xe at h;have h1:=(ZXf _ _▸h).1;have h2:=of_decide_eq_true h1;have L:(B [61]).size=1:=rfl;have X:(ZX s (i+1) s.size).size=(ZX s (i+1) s.size).data.toList.length:=ZXZ.symm;have U:(ZX s (i+1) s.size).data.toList=(s.data.toList.drop<|i+1).take (s.size-(i+1)):=ext_list _ _ _
  grind
 cases g:atT s i==7 with
 |true=>
  cases d:Xe (ZX s (i+1) s.size) (B [61])with
  |true=>
   have x:bounds (some<|I i) (some<|I<|(i:Int)+2) none s.size=some (i,i+2,none):=by rw[T];exact Uo (by omega)<|A d
   simp only[go_sem,c119,o,b,a,e,g,l,D,m,t,d,x,Nx.val,ZX]
  |false=>simp only[go_sem,c119,o,b,a,e,g,l,m,t,d,Nx.val,Yw]
 |false=>
 cases k:atT s i==8 with
 |true=>
  cases d:Xe (ZX s (i+1) s.size) (B [61])with
  |true=>
   have x:bounds (some<|I i) (some<|I<|(i:Int)+2) none s.size=some (i,i+2,none):=by rw[T];exact Uo (by omega)<|A d
   simp only[go_sem,c119,o,b,a,e,g,k,l,D,m,t,d,x,Nx.val,ZX]
  |false=>simp only[go_sem,c119,o,b,a,e,g,k,l,m,t,d,C,Nx.val,ZX]
 |false=>
 cases r:atT s i==9 with
 |true=>simp only[go_sem,c119,o,b,a,e,g,k,r,l,C,Nx.val,ZX]
 |false=>simp only[go_sem,c119,o,b,a,e,g,k,r,Nx.val,Yw]
def Z1S{s:Str}{i:Nat}{c:UInt8}(h:Xe (ZX s i s.size) (B [c])=true):i+1<=s.size:=by
 have h1:=(ZXf _ _▸h).1;have d:(B [c]).size=1:=rfl;have b:(ZX s i s.size).size=(ZX s i s.size).data.toList.length:=ZXZ.symm;have a:(ZX s i s.size).data.toList=(s.data.toList.drop i).take (s.size-i):=ext_list _ _ _
 grind
def Z1T(s:Str)(i:Nat):quN s i=-1\/∃j:Nat,quN s i=(j:Int)/\i+1+j<s.size:=by
 rcases H2 qnB (ZX s (i+1) s.size).data.toList 0 with h|⟨j,h1,h2,_⟩
 .exact Or.inl h
 .right;refine⟨j,h1.trans (by simp),?_⟩
  have a:(ZX s (i+1) s.size).data.toList=(s.data.toList.drop<|i+1).take (s.size-(i+1)):=ext_list _ _ _
  grind
def DW{s:Str}{cs:List Int}{i:Nat}(h:i<s.size)(a:cs.any (λx=>atT s i==x)=true):i<ZI s cs i:=by
 rw[NB s cs h,a,cond_true]
 grind [K2]
def Z1U(s:Str)(i:Nat)(l:i<s.size)(a:(We s i).err=0):∃j:Nat,(We s i).stop=(j:Int)/\i<j/\j<=s.size:=by
 unfold We at a⊢;cases b:atT s i==3 with
 |true=>
  cases c:decide (W ((ZI s [3,4,5] i:Int)-(i:Int))>24)with
  |true=>grind
  |false=>exact⟨_,rfl,DW l (by grind),K3 _ _<|by omega⟩
 |false=>
 cases e:atT s i==4 with
 |true=>
  cases c:decide (W ((ZI s [4] i:Int)-(i:Int))>13)||(atT s (ZI s [4] i)==3||atT s (ZI s [4] i)==5)with
  |true=>grind
  |false=>exact⟨_,rfl,DW l (by grind),K3 _ _<|by omega⟩
 |false=>
 cases f:atT s i==6 with
 |true=>
  cases c:H4 s i with
  |true=>grind
  |false=>
   cases d:decide (quN s i>400)with
   |true=>grind
   |false=>
    rcases Z1T s i with h|⟨j,h1,h2⟩
    .grind [H4]
    .refine⟨i+j+2,?_,by omega,by omega⟩
     grind
 |false=>
 rw[f,cond_false]at a;rw[cond_false];cases g:atT s i==7||atT s i==8 with
 |true=>
  rw[g,cond_true]at a;rw[cond_true];cases c:Xe (ZX s (i+1) s.size) (B [61])with
  |true=>exact⟨i+2,rfl,by omega,Z1S c⟩
  |false=>
   grind
 |false=>
 grind
structure Lx where
 toks:List Tok
 err:Int
 pos:Int
def ND(n:Nx)(a:List Tok):Int:=bif n.err==0&&(a.length:Int)==5000 then 2 else n.err
def Xf(s:Str):Nat->Nat->List Tok->Lx
 |0,_,_=>⟨[],0,0⟩
 |k+1,i,out=>bif decide ((i:Int)<(s.size:Int))then(bif ND (We s i) out != 0 then⟨[],ND (We s i) out,i⟩else Xf s k (YP s (We s i).stop.toNat)<|out++[(We s i).tok])else⟨out,0,0⟩
def Up(s:Str):Lx:=bif decide ((s.size:Int)>20000)then⟨[],2,-1⟩else Xf s (s.size+1) (YP s 0) []
def Lx.val(x:Lx):AV:=.tup [.isl false false 4<|x.toks.map Tok.enc,I x.err,I x.pos]
def Yx(s:Str)(a:List Tok):Hp:=[.row 257 [.agg<|.str s::Qe],.row 4<|a.map Tok.enc]
def Tok.el(t:Tok):Yu (some 4) t.enc:=⟨rfl,rfl⟩
def Z1V(s:Str)(P:s.size<=20000):∀k i a,s.size-i<=k->i<=s.size->a.length<=i->∃e fr' h',Zg rE [0,5,6,7] c57L0b [(0,.str s),(5,.ptr 0 0 0 1),(6,.sl 1 a.length 0 a.length false),(7,I i)] (Yx s a)=some (e,fr',h')/\
 ((e=.exit 0/\∃q:List Tok,Xf s (k+1) i a=⟨q,0,0⟩/\get fr' 6=.sl 1 q.length 0 q.length false/\get fr' 2=.bot/\get fr' 3=.bot/\get fr' 4=.bot/\h'=Yx s q)\/
  (e=.ret/\(Xf s (k+1) i a).toks=[]/\get fr' 2=.isl false false 4 []/\get fr' 3=I (Xf s (k+1) i a).err/\get fr' 4=I (Xf s (k+1) i a).pos/\get fr' 6=.bot/\∃q,h'=Yx s q)):=by
 intro k;have m:=Un;have o:∀n,Zd n Qe=true:=λn=>ZN _ Un
 have f:∀n(l:List Tok),Zd n (l.map Tok.enc)=true:=λn l=>ZN _<|Zw (λt=>rfl) l
 induction k with
 |zero=>
  intro i a N O L;have:i=s.size:=by omega
  subst this;have c:decide ((s.size:Int)<(s.size:Int))=false:=ZG _;refine⟨_,_,_,Q7 rfl (by simp only[go_sem,Yx,c57L0b,c];rfl) (by simp),Or.inl ⟨rfl,a,?_,?_,?_,?_,?_,?_⟩⟩
  .grind [Xf]
  .simp only[go_sem]
  .simp only[go_sem]
  .simp only[go_sem]
  .simp only[go_sem]
  grind [Yx]
 |succ k ih=>
  intro i a N O L;rw[Xf];cases c:decide ((i:Int)<(s.size:Int))with
  |false=>
   refine⟨_,_,_,Q7 rfl (by simp only[go_sem,Yx,c57L0b,c];rfl) (by simp),Or.inl ⟨rfl,a,rfl,?_,?_,?_,?_,?_⟩⟩
   .simp only[go_sem]
   .simp only[go_sem]
   .simp only[go_sem]
   .simp only[go_sem]
   grind [Yx]
  |true=>
   have v:i<s.size:=by grind
   have p:=Z1R s i (by omega) v
   have d:=Z1U s i v;rw[cond_true];generalize K:We s i=n at p d⊢;obtain⟨⟨A,x,B,tt⟩,stop,err⟩:=n;unfold Nx.val at p;simp only at p d⊢;unfold ND;simp only;have C:((a.map Tok.enc).length==a.length)=true:=by simp
   cases w:err==0 with
   |false=>
    have D:(err != 0)=true:=by grind
    simp only[ZXm,cond_false,D,cond_true];refine⟨_,_,_,Q7 rfl (by simp only[go_sem,Yx,c57L0b,c,m,p,w,D,beq_self_eq_true,o,f];rfl) (by simp),Or.inr ⟨rfl,by grind,?_,?_,?_,?_,a,?_⟩⟩
    .simp only[go_sem]
    .simp only[go_sem]
    .simp only[go_sem]
    .simp only[go_sem]
    grind [Yx]
   |true=>
    have G:err=0:=by grind
    subst G;cases b:(a.length:Int)==5000 with
    |true=>
     have u:((2:Int) != 0)=true:=rfl;simp only[ZY3,cond_true,u];refine⟨_,_,_,Q7 rfl (by simp only[go_sem,Yx,c57L0b,c,m,p,b,beq_self_eq_true,o,f,u];rfl) (by simp),Or.inr ⟨rfl,by grind,?_,?_,?_,?_,a,?_⟩⟩
     .simp only[go_sem]
     .simp only[go_sem]
     .simp only[go_sem]
     .simp only[go_sem]
     grind [Yx]
    |false=>
     obtain⟨j,H,M,y⟩:=d rfl;subst H;have z:((j:Int)).toNat=j:=rfl;have E:=DU s j (by omega) y
     simp only[ZXT,cond_false,z];have F:((0:Int) != 0)=false:=rfl;rw[F,cond_false];obtain⟨e,fr',h',h1,h2⟩:=ih (YP s j) (a++[⟨A,x,B,tt⟩]) (by omega) E.2.1<|by grind
     refine⟨e,fr',h',?_,h2⟩;rw[<-h1];have r:=λ(h:Hp)(J:rowAt h 1 a.length=some (4,a.map Tok.enc))=>XC (fz:=false) (bw:=false) (ex:=false) (ys:=[.agg [I A,I x,I B,.str tt]]) (bytes:=40) J rfl (by rfl) (by omega) (by omega) (by grind)
     have g:=r [.row 257 [.agg<|.str s::Qe],.row 4<|a.map Tok.enc,.row 4 [.agg [I A,I x,I B,.str tt]]]<|by simp[rowAt]
     refine(Yt rfl (by simp only[go_sem,Yx,c57L0b,c,m,p,b,beq_self_eq_true,o,f,F,g,E.1];rfl)).trans ?_
     simp only[go_sem,Yx,ZXx,Tok.enc]
def c233a:ACode:=
 .seq (.seq (.keep [0,13]<|.region [o 11<|.mv<|.t 0,
  o 12 (.len 0<|.t 11),
  o 13 (.bin .gtr (.t 12)<|.c<|.int .i64 20000)])<|
 .cond (.t 13)
  (.seq (.keep [2,3,4]<|.region [o 2<|.mv<|.c<|.isl false false 4 [],
    o 3 (.mv<|.c<|.int .i64 2),
    o 4 (.mv<|.c<|.int .i64<|-1)])<|
   .ret)
  (.skip))<|
 .seq (.keep [0,5]<|.region [o 14<|.mv<|.t 0,
  o 15 (.call true 117 []),
  o 16 (.build (.str emp::Qj) [(0,1,(.t 14)),(1,256,(.t 15))]),
  o 5 (.box 257<|.c<|.agg<|.str emp::Qj),
  ⟨none,.store 257 (.t 5)<|.t 16,none⟩])<|
 .seq (.region [o 6<|.own 4])<|
 .seq (.seq (.region [o 17<|.call true 118 [(.t 5),(.c<|.int .i64 0)],
  o 7 (.mv<|.t 17)])<|
 .keep [2,3,4,6]<|.block 0<|
  c57L0)<|
 .seq (.keep [2,3,4]<|.region [o 46<|.mv<|.t 6,
  o 2 (.mv<|.t 46),
  o 3 (.mv<|.c<|.int .i64 0),
  o 4 (.mv<|.c<|.int .i64 0)])<|
 .ret
def c233z:ACode:=
 .seq (.keep [0]<|.region [o 2<|.mv<|.c<|.isl false false 4 [],
  o 3 (.mv<|.c<|.int .i64 0),
  o 4 (.mv<|.c<|.int .i64 0)]) c233a
def c57_eq:c57=c233z:=by
 kernel_rfl
def Z1W(s:Str):pfn rE 57 [.str s]=some (Up s).val:=by
 have i:=Un;have b:∀n,Zd n Qe=true:=λn=>ZN _ Un
 have y:∀n,Zd n Qj=true:=λn=>ZN _ DN
 have h:∀n(l:List Tok),Zd n (l.map Tok.enc)=true:=λn l=>ZN _<|Zw (λt=>rfl) l
 have o:∀(l:List Tok),Z4 (l.map Tok.enc)=true:=λl=>Zw (λt=>rfl) l
 rw[Z5 (f:=57) (c:=c233z) rfl (by rw[<-c57_eq];rfl)]
 unfold Up;cases k:decide ((s.size:Int)>20000)with
 |true=>simp only[go_sem,c233z,c233a,k,Lx.val]
 |false=>
  have u:s.size<=20000:=by grind
  have g:List.drop 256 Qj=[]:=DM VY;have r:=DU s 0 (by omega)<|by omega
  have d:pfn rE 118 [.iptr true<|.str s::Qe,.int .i64 0]=_:=r.1;obtain⟨e,fr',h',h1,h2⟩:=Z1V s u s.size (YP s 0) [] (by omega) r.2.1<|by simp
  have a:Zg rE [0,5,6,7] c57L0b [(0,.str s),(5,.ptr 0 0 0 1),(6,.sl 1 0 0 0 false),(7,I<|YP s 0)] [.row 257 [.agg<|.str s::Qe],.row 4 []]=_:=h1;rcases h2 with⟨rfl,j,q,v,p,z,w,rfl⟩|⟨rfl,ht,p,q,h4,g6,j,rfl⟩
  .rw[q];unfold Yx at a;have m:List.take j.length (List.map Tok.enc j)=List.map Tok.enc j:=ZXz (by simp)
   simp only[go_sem,c233z,c233a,c57L0,k,DO,Ny,DL,VY,GY,g,i,b,d,a,v,p,z,w,h,o,m,beq_self_eq_true,ZXr,Lx.val]
  .unfold Yx at a;have e:Xf s (s.size+1) (YP s 0) []=⟨[],(Xf s (s.size+1) (YP s 0) []).err,(Xf s (s.size+1) (YP s 0) []).pos⟩:=by
    generalize Xf s (s.size+1) (YP s 0) []=x at ht⊢;cases x;grind
   rw[e];simp only[go_sem,c233z,c233a,c57L0,k,DO,Ny,DL,VY,GY,g,i,b,d,a,p,q,h4,g6,h,beq_self_eq_true,ZXr,Lx.val]
def dyB(n:Int):Bool:=decide (n>=0)&&decide (n<=100000)
def ZQ4(n:Int):pfn rE 115 [I n]=some (.bool<|dyB n):=by
 unfold dyB;rw[Z5 (f:=115) rfl rfl];cases h:decide (n>=0)<;>simp[go_sem,c115,h,ZXk]
def ZU6(n:Int):pfn rE 29 [I n]=some (.bool<|dyB n):=by
 unfold dyB;rw[Z5 (f:=29) rfl rfl];cases h:decide (n>=0)<;>simp[go_sem,c29,h,ZXk]
def ZPr(a b:Int):Bool:=dyB a&&(b==-1||dyB b&&decide (b>a))
def ZQs(a b:Int):pfn rE 114 [.agg [I a,I b]]=some (.bool<|ZPr a b):=by
 unfold ZPr;rw[Z5 (f:=114) rfl rfl];cases h1:dyB a<;>cases h2:b==-1<;>cases h3:dyB b<;>simp[go_sem,c114,ZQ4,h1,h2,h3,ZXE]
def ZQt(b:Int):Int:=bif decide (b<0)then 100001 else b
def ZU7(a b:Int):pfn rE 116 [.agg [I a,I b]]=some (I<|ZQt b):=by
 unfold ZQt;rw[Z5 (f:=116) rfl rfl];cases h:decide (b<0)<;>simp[go_sem,c116,h]
def ZPK(a b d:Int):Bool:=ZPr a b&&(dyB d&&(decide (d>=a)&&decide (d<ZQt b)))
def ZU8(a b d:Int):pfn rE 53 [.agg [I a,I b],I d]=some (.bool<|ZPK a b d):=by
 unfold ZPK;rw[Z5 (f:=53) rfl rfl];cases h1:ZPr a b<;>cases h2:dyB d<;>cases h3:decide (d>=a)<;>simp[go_sem,c53,ZQs,ZQ4,ZU7,h1,h2,h3,ZXk]
def ZRV(n:Int)(h0:-9223372036854775808<=n)(h1:n<=9223372036854775807):pfn rE 112 [I n]=some (.str ⟨(Go.Lib.itoa n).toArray⟩):=by
 unfold pfn;rw[V8 (s:=ZPl) rfl];have e:ZPl [I n] []=some (.str ⟨(Go.Lib.itoa n).toArray⟩,[]):=by
  show(if -9223372036854775808<=n/\n<=9223372036854775807 then some _ else none)=_
  rw[if_pos ⟨h0,h1⟩]
 rw[e];rfl
def ZPs(n:Int):Prop:=-9223372036854775808<=n/\n<=9223372036854775807
def ZP7(n:Int):ZPs (IntKind.i64.wrap n):=by grind [ZPs,IntKind.wrap,IntKind.signed,IntKind.bits]
def ZU9(d:Int)(hd:dyB d=false):pfn rE 110 [I d]=some (.tup [I 0,I 0,I 0,I 1]):=by
 rw[Z5 (f:=110) rfl rfl];simp[go_sem,c110,ZQ4,hd]
def ZUa(d:Int)(hd:dyB d=true):∃y m o:Int,ZPs y/\ZPs m/\ZPs o/\pfn rE 110 [I d]=some (.tup [I y,I m,I o,I 0]):=by
 rw[Z5 (f:=110) rfl rfl];simp only[go_sem,c110,ZQ4,hd,Int.reduceEq];generalize decide (_<=(2:Int))=c;cases c
 .simp only[go_sem,Int.reduceEq];exact⟨_,_,_,ZP7 _,ZP7 _,ZP7 _,rfl⟩
 .simp only[go_sem];exact⟨_,_,_,ZP7 _,ZP7 _,ZP7 _,rfl⟩
def ZQu(n:Int)(hn:ZPs n):∃t:Str,t.size<=21/\pfn rE 112 [I n]=some (.str t):=
 ⟨_,by show(List.toArray _).size<=21;exact Go.Lib.itoa_length_le n hn.1 hn.2,ZRV n hn.1 hn.2⟩
def ZRW(n:Int):∃t:Str,t.size<=42/\pfn rE 113 [I n]=some (.str t):=by
 have m1:=Int.tmod_lt_of_pos n (by decide:(0:Int)<10)
 have m0:=Int.lt_tmod_of_pos n (by decide:(0:Int)<10)
 obtain⟨A,l1,a⟩:=ZQu (IntKind.i64.wrap<|n.tdiv 10)<|ZP7 _;obtain⟨B,l2,b⟩:=ZQu (n.tmod 10) ⟨by omega,by omega⟩
 have hs:(A.size+B.size<=4611686018427387904)=True:=eq_true<|by omega
 rw[Z5 (f:=113) rfl rfl];simp[go_sem,c113,a,b,hs]
 grind
def ZUb(a b c:Str)(h:a.size+b.size+c.size<=1000):∃t:Str,pfn rE 111 [.isl false false 1 [.str a,.str b,.str c],.str<|B [45]]=some (.str t):=by
 have hl:(Go.Lib.join ([a,b,c].map (·.data.toList)) [45]).length<=140737488355328:=by
  rw[ZXn,Go.Lib.join_cons,ZXy,Go.Lib.joinTail_length];show _+([45].length*2+(b.data.toList.length+(c.data.toList.length+0)))<=_
  rw[Go.Lib.size_eq a,Go.Lib.size_eq b,Go.Lib.size_eq c]at h
  grind
 have hb:Nat.ble (Go.Lib.join ([a,b,c].map (·.data.toList)) [45]).length 140737488355328=true:=ZXH hl;refine⟨⟨(Go.Lib.join ([a,b,c].map (·.data.toList)) [45]).toArray⟩,?_⟩;unfold pfn;rw[V8 (s:=ZPm) rfl];have e:ZPm [.isl false false 1 [.str a,.str b,.str c],.str<|B [45]] []=some (.str ⟨(Go.Lib.join ([a,b,c].map (·.data.toList)) [45]).toArray⟩,[]):=by
  show(bif (Nat.ble (Go.Lib.join ([a,b,c].map (·.data.toList)) [45]).length 140737488355328&&true)then some _ else none)=_
  rw[hb];rfl
 rw[e];rfl
def ZUc(d:Int):∃t:Str,pfn rE 50 [I d]=some (.tup [.str t,I<|bif dyB d then 0 else 1]):=by
 rw[Z5 (f:=50) rfl rfl];cases hd:dyB d with
 |false=>
  have h1:((1:Int) != 0)=true:=rfl;exact⟨_,by simp[go_sem,c50,ZU9 d hd];rfl⟩
 |true=>
  obtain⟨y,m,o,hy,_,_,h⟩:=ZUa d hd;obtain⟨a,la,ha⟩:=ZQu y hy;obtain⟨b,lb,hb⟩:=ZRW m;obtain⟨c,lc,hc⟩:=ZRW o;obtain⟨t,ht⟩:=ZUb a b c<|by omega
  have h0:((0:Int) != 0)=false:=rfl;exact⟨t,by simp[go_sem,c50,h,ha,hb,hc,ht]⟩
def ZQv(c:Int):Bool:=(decide (c>=97)&&decide (c<=122))||(decide (c>=65)&&decide (c<=90))
def ZP8(i:Nat)(c:Int):Bool:=!ZQv c&&((i:Int)==0||(c != 95&&(decide (c<48)||decide (c>57))))
def ZOe(s:Str):Bool:=Zu (λi x=>!ZP8 i (x.toNat:Int)) 0 s.data.toList&&(!Z3 s emp&&decide ((s.size:Int)<=24))
def ZRX{s:Str}{i:Nat}{x:UInt8}(h:s.data.toList[i]?=some x):s.data[i]?=some x:=by
 grind
def fS(s:Str)(i:Nat):Fr:=[(0,.str s),(7,I s.size),(8,I i)]
def ZUd(s:Str)(hs:s.size<9223372036854775807)(i:Nat)(x:UInt8)(hx:s.data.toList[i]?=some x)(hP:(!ZP8 i (x.toNat:Int))=true):∃fr',Zb rE c52L0b (fS s i) []=some (.normal,fr',[])/\Z2 [0,7,8] fr'=fS s (i+1):=by
 unfold fS;have hg:=ZRX hx;have hl:s.data.toList.length=s.size:=ZXZ;have hi:=Zh (n:=s.size)<|by rw[<-hl];exact Z7 hx
 have hw:=Zx (n:=i)<|by grind
 have hn:((i:Int)).toNat=i:=rfl;have h0:(0<=(i:Int))=True:=by simp
 unfold ZP8 ZQv at hP;cases h1:decide ((x.toNat:Int)>=97)<;>cases h2:decide ((x.toNat:Int)<=122)<;>cases h3:decide ((x.toNat:Int)>=65)<;>cases h4:decide ((x.toNat:Int)<=90)<;>
  try (exfalso;simp only[decide_eq_true_eq,decide_eq_false_iff_not]at h1 h2 h3 h4;omega)
 all_goals
  cases h5:((i:Int)==0)<;>cases h6:(x.toNat:Int) != 95<;>cases h7:decide ((x.toNat:Int)<48)<;>cases h8:decide ((x.toNat:Int)>57)<;>
  simp only[h1,h2,h3,h4,h5,h6,h7,h8,ZXC,ZXk,ZXT,ZXm,ZXY,ZYq,ZXE,ZXU,ZXq,ZXv,reduceCtorEq]at hP<;>
  (refine⟨_,by simp only[go_sem,c52L0b,hg,hi,hw,hn,h0,ZXR,h1,h2,h3,h4,h5,h6,h7,h8];rfl,?_⟩;simp only[go_sem])
def ZUe(s:Str)(hs:s.size<9223372036854775807)(i:Nat)(x:UInt8)(hx:s.data.toList[i]?=some x)(hP:(!ZP8 i (x.toNat:Int))=false):∃fr',Zb rE c52L0b (fS s i) []=some (.ret,fr',[])/\get fr' 2=.bool false:=by
 unfold fS;have hg:=ZRX hx;have hl:s.data.toList.length=s.size:=ZXZ;have hi:=Zh (n:=s.size)<|by rw[<-hl];exact Z7 hx
 have hw:=Zx (n:=i)<|by grind
 have hn:((i:Int)).toNat=i:=rfl;have h0:(0<=(i:Int))=True:=by simp
 unfold ZP8 ZQv at hP;cases h1:decide ((x.toNat:Int)>=97)<;>cases h2:decide ((x.toNat:Int)<=122)<;>cases h3:decide ((x.toNat:Int)>=65)<;>cases h4:decide ((x.toNat:Int)<=90)<;>
  try (exfalso;simp only[decide_eq_true_eq,decide_eq_false_iff_not]at h1 h2 h3 h4;omega)
 all_goals
  cases h5:((i:Int)==0)<;>cases h6:(x.toNat:Int) != 95<;>cases h7:decide ((x.toNat:Int)<48)<;>cases h8:decide ((x.toNat:Int)>57)<;>
  simp only[h1,h2,h3,h4,h5,h6,h7,h8,ZXC,ZXk,ZXT,ZXm,ZXY,ZYq,ZXE,ZXU,ZXq,ZXv,reduceCtorEq]at hP<;>
  (refine⟨_,by simp only[go_sem,c52L0b,hg,hi,hn,h0,ZXR,h1,h2,h3,h4,h5,h6,h7,h8];rfl,?_⟩;simp only[go_sem])
def ZOJ(s:Str)(hs:s.size<9223372036854775807):pfn rE 52 [.str s]=some (.bool<|ZOe s):=by
 have hl:s.data.toList.length=s.size:=ZXZ;have L:=QT (E:=rE) (live:=[0,7,8]) (b:=c52L0b) (h:=[]) s.data.toList (λi x=>!ZP8 i (x.toNat:Int)) (fS s) 0 (λfr=>get fr 0=.str s) (λfr=>get fr 2=.bool false) (λi=>rfl) (ZUd s hs) (ZUe s hs)
  (⟨_,by unfold fS;simp[go_sem,c52L0b,ZG];rfl,by simp[go_sem]⟩)
 rw[Z5 (f:=52) rfl rfl];obtain⟨fr',h1,h3,h2⟩:=L;have h1':Zg rE [0,7,8] c52L0b [(0,.str s),(7,I s.size),(8,.int .i64 0)] []=_:=h1;unfold ZOe;cases hc:Zu (λi(x:UInt8)=>!ZP8 i (x.toNat:Int)) 0 s.data.toList with
 |true=>
  rw[hc]at h1';have h3':=h3 hc;cases he:Z3 s emp<;>simp[go_sem,c52,c52L0,h1',h3',he,ZXm]
 |false=>
  rw[hc]at h1';have h2':=h2 hc;simp[go_sem,c52,c52L0,h1',h2',ZXm]
def Jk{E:Env}{α:Type}{live:List Nat}{b:ACode}(l:List α)(P:Nat->α->Bool)(S:Nat->Fr)(H:Nat->Hp)(a:Nat)(m Q:Fr->Hp->Prop)
 (j:∀i,Z2 live (S i)=S i)
 (d:∀i x,l[i]?=some x->P i x=true->∃fr',Zb E b (S i) (H i)=some (.normal,fr',H<|i+1)/\Z2 live fr'=S (i+1))
 (g:∀i x,l[i]?=some x->P i x=false->∃fr' h',Zb E b (S i) (H i)=some (.ret,fr',h')/\Q fr' h')
 (e:∃fr' h',Zb E b (S l.length) (H l.length)=some (.exit a,fr',h')/\m fr' h'):
 ∃fr' h',Zg E live b (S 0) (H 0)=some (if Zu P 0 l=true then .exit a else .ret,fr',h')/\(Zu P 0 l=true->m fr' h')/\(Zu P 0 l=false->Q fr' h'):=by
 suffices G:∀k i,k+i=l.length->∃fr' h',Zg E live b (S i) (H i)=some (if Zu P i (l.drop i)=true then .exit a else .ret,fr',h')/\(Zu P i (l.drop i)=true->m fr' h')/\(Zu P i (l.drop i)=false->Q fr' h')by
  have:=G l.length 0<|by omega
  simpa using this
 intro k;induction k with
 |zero=>
  intro i s;have:i=l.length:=by omega
  subst this;obtain⟨fr',h',h1,h2⟩:=e;refine⟨fr',h',?_,?_,?_⟩
  .rw[Q7 (j _) h1<|by simp];simp[Zu]
  .intro _;exact h2
  .intro h;simp[Zu]at h
 |succ k ih=>
  intro i s;have f:i<l.length:=by omega
  have n:l[i]?=some l[i]:=ZXj f;rw[ZXP f];cases c:P i l[i]with
  |true=>
   obtain⟨q,h1,h2⟩:=d _ _ n c;obtain⟨fr',h',r,p,o⟩:=ih (i+1)<|by omega
   refine⟨fr',h',?_,?_,?_⟩
   .rw[Yt (j _) h1,h2,r];simp only[Zu,c,ZXk]
   .simpa only[Zu,c,ZXk]using p
   .simpa only[Zu,c,ZXk]using o
  |false=>
   obtain⟨fr',h',h1,h2⟩:=g _ _ n c;refine⟨fr',h',?_,?_,λ_=>h2⟩
   .rw[Q7 (j _) h1<|by simp];simp[Zu,c]
   .intro h;simp[Zu,c]at h
def Qi{α:Type}(eq:α->α->Bool)(K:List α)(x:α):List α:=bif K.any (eq x)then K else K++[x]
def ZO(n:Nat):List AV:=List.replicate n<|.bool true
def Uq{α:Type}{ag:Bool}{kk:List Nat}{enc:α->AV}{eq:α->α->Bool}(a:∀x y,Zz ag kk (enc x) (enc y)=some (eq x y))(x:α):
 ∀(K:List α)(i:Nat),(ZW ag kk (enc x) (K.map enc) i=some none/\K.any (eq x)=false)\/(∃j,ZW ag kk (enc x) (K.map enc) i=some (some j)/\i<=j/\j<i+K.length/\K.any (eq x)=true)
 |[],i=>Or.inl ⟨rfl,rfl⟩
 |y::r,i=>by
  simp only[ZXn,ZW,a,ZZr,ZXw];rcases Uq a x r (i+1)with⟨h1,h2⟩|⟨j,h1,h2,h3,h4⟩
  .rw[h1];cases eq x y with
   |true=>right;exact⟨i,rfl,by omega,by omega,rfl⟩
   |false=>left;exact⟨rfl,by simp[h2]⟩
  .rw[h1];right;cases eq x y with
   |true=>exact⟨i,rfl,by omega,by omega,rfl⟩
   |false=>exact⟨j,rfl,by omega,by omega,by simp[h4]⟩
def Ur{α:Type}{ag:Bool}{kk:List Nat}{enc:α->AV}{eq:α->α->Bool}(a:∀x y,Zz ag kk (enc x) (enc y)=some (eq x y))(K:List α)(x:α){h:Hp}{b:Nat}(c:h[b]?=some (.map (K.map enc)<|ZO K.length)):
 YK h ag kk (.mp b) (enc x) (.bool true)=some (.bot,setH h b<|.map ((Qi eq K x).map enc)<|ZO (Qi eq K x).length):=by
 simp only[YK,c,Yo,a];rcases Uq a x K 0 with⟨h1,h2⟩|⟨j,h1,h2,h3,h4⟩
 .have e:ZO K.length++[.bool true]=ZO (K.length+1):=by simp[ZO,List.replicate_succ']
  rw[h1];simp only[Qi,h2,cond_false,ZM,ZH,ZXx,ZXn,ZXD,ZXy,ZY7,e]
 .have:(ZO K.length).set j (.bool true)=ZO K.length:=by
   apply List.ext_getElem
   .simp
   .intro n f g;by_cases d:j=n
    .subst d;simp[ZO]
    .simp[ZO]
  rw[h1];simp only[Qi,h4,cond_true,ZM,ZH,this]
def H5{α:Type}{ag:Bool}{kk:List Nat}{enc:α->AV}{eq:α->α->Bool}(a:∀x y,Zz ag kk (enc x) (enc y)=some (eq x y))(K:List α)(x:α){h:Hp}{b:Nat}(c:h[b]?=some (.map (K.map enc)<|ZO K.length)):
 W5 h ag kk false (.bool false) (.mp b) (enc x)=some (.bool<|K.any<|eq x):=by
 simp only[W5,c,QW,a];rcases Uq a x K 0 with⟨h1,h2⟩|⟨j,h1,h2,h3,h4⟩
 .rw[h1,h2];rfl
 .have:(ZO K.length)[j]?=some (.bool true):=by
   unfold ZO;rw[ZZD];simp;omega
  rw[h1,h4];simp only[this];rfl
def Z1X(a vs:List AV)(h:Hp):lnM (.map a vs::h) 0=some (.int .i64 a.length):=rfl
attribute [go_sem] Z1X
def XH{α:Type}(eq:α->α->Bool)(l:List α):Bool:=(((l.foldl (Qi eq) []).length:Nat):Int)==(l.length:Int)
def Z1Y(x y:Str):Zz false [2] (.str x) (.str y)=some (Z3 x y):=by simp only[go_sem,ZXC]
def QL(a b:HN):Bool:=a.N==b.N&&(Z3 a.bn b.bn&&(a.Num==b.Num&&a.Den==b.Den))
def Xg(a b:Nm):Bool:=Z3 a.Lang b.Lang&&(a.Script==b.Script&&Z3 a.Text b.Text)
def Z1Z(x y:HN):Zz true [1,2,1,1] x.enc y.enc=some (QL x y):=by simp only[go_sem,HN.enc,QL]
def Z20(x y:Nm):Zz true [2,1,2] x.enc y.enc=some (Xg x y):=by simp only[go_sem,Nm.enc,Xg]
def Us{α a:Type}(f:a->α->a)(b:a){l:List α}{i:Nat}{x:α}(h:l[i]?=some x):(l.take<|i+1).foldl f b=f ((l.take i).foldl f b) x:=by
 rw[ZYm,h];simp
def Z21(l:List Str)(bw ex:Bool)(q:l.length<=1000000):pfn rE 319 [.isl bw ex 1<|l.map encS]=some (.bool<|XH Z3 l):=by
 have L:=Y8 (E:=rE) (live:=[0,3,7,8,9]) (b:=c319L0b) l.length (λi=>[(0,.isl bw ex 1<|l.map encS),(3,.mp 0),(7,.isl bw ex 1<|l.map encS),(8,I l.length),(9,I i)])
  (λi=>[.map (((l.take i).foldl (Qi Z3) []).map encS)<|ZO ((l.take i).foldl (Qi Z3) []).length]) (λi=>rfl)
  (λi hi=>by
   obtain⟨x,g⟩:∃x,l[i]?=some x:=⟨_,ZXj hi⟩;have j:=Z6 (f:=encS) g;have a:=Zh hi;have o:=Zx (n:=i)<|by omega
   have m:=Us (Qi Z3) [] g;rw[m];have d:=Ur (ag:=false) (kk:=[2]) (enc:=encS) (eq:=Z3) Z1Y ((l.take i).foldl (Qi Z3) []) x (h:=[.map (((l.take i).foldl (Qi Z3) []).map encS)<|ZO ((l.take i).foldl (Qi Z3) []).length]) (b:=0) rfl;generalize(l.take i).foldl (Qi Z3) []=K at d⊢;have c:YK [.map (K.map encS)<|ZO K.length] false [2] (.mp 0) (.str x) (.bool true)=_:=d;refine⟨_,by simp only[go_sem,c319L0b,j,a,o,encS,c];rfl,?_⟩
   simp only[go_sem])
  (e:=.exit 0) (by simp only[go_sem,c319L0b,ZG];rfl) (by simp)
 have p:l.take l.length=l:=ZXG;rw[p]at L;have k:Zg rE [0,3,7,8,9] c319L0b [(0,.isl bw ex 1<|l.map encS),(3,.mp 0),(7,.isl bw ex 1<|l.map encS),(8,I l.length),(9,.int .i64 0)] [.map [] []]=_:=L;rw[Z5 (f:=319) rfl rfl];unfold XH;simp only[go_sem,c319,c319L0,k]
def Ut:∀n,Z4 (ZO n)=true
 |0=>rfl
 |n+1=>by
  have:ZO (n+1)=.bool true::ZO n:=rfl;rw[this];simp only[N1,Di,Ut n,ZY3]
def Z22(l:List HN)(bw ex:Bool)(u:l.length<=1000000):pfn rE 326 [.isl bw ex 4<|l.map HN.enc]=some (.bool<|XH QL l):=by
 have L:=Y8 (E:=rE) (live:=[0,3,7,8,9]) (b:=c326L0b) l.length (λi=>[(0,.isl bw ex 4<|l.map HN.enc),(3,.mp 0),(7,.isl bw ex 4<|l.map HN.enc),(8,I l.length),(9,I i)])
  (λi=>[.map (((l.take i).foldl (Qi QL) []).map HN.enc)<|ZO ((l.take i).foldl (Qi QL) []).length]) (λi=>rfl)
  (λi hi=>by
   obtain⟨x,m⟩:∃x,l[i]?=some x:=⟨_,ZXj hi⟩;have o:=Z6 (f:=HN.enc) m;have c:=Zh hi;have r:=Zx (n:=i)<|by omega
   have q:=Us (Qi QL) [] m;rw[q];have a:∀n(K:List HN),Zd n (K.map HN.enc)=true:=λn K=>ZN _<|Zw (λt=>rfl) K
   have g:∀n k,Zd n (ZO k)=true:=λn k=>ZN _<|Ut k
   have j:=λhh=>Ur (ag:=true) (kk:=[1,2,1,1]) (enc:=HN.enc) (eq:=QL) Z1Z ((l.take i).foldl (Qi QL) []) x (h:=.map (((l.take i).foldl (Qi QL) []).map HN.enc) (ZO ((l.take i).foldl (Qi QL) []).length)::hh) (b:=0) rfl
   generalize(l.take i).foldl (Qi QL) []=K at j⊢;have d:YK [.map (K.map HN.enc)<|ZO K.length,.row 4 [.agg [I x.N,.str x.bn,I x.Num,I x.Den]]] true [1,2,1,1] (.mp 0) (.agg [I x.N,.str x.bn,I x.Num,I x.Den]) (.bool true)=_:=j [.row 4 [.agg [I x.N,.str x.bn,I x.Num,I x.Den]]];refine⟨_,by simp only[go_sem,c326L0b,o,c,r,HN.enc,d,a,g];rfl,?_⟩
   simp only[go_sem])
  (e:=.exit 0) (by simp only[go_sem,c326L0b,ZG];rfl) (by simp)
 have s:l.take l.length=l:=ZXG;rw[s]at L;have p:Zg rE [0,3,7,8,9] c326L0b [(0,.isl bw ex 4<|l.map HN.enc),(3,.mp 0),(7,.isl bw ex 4<|l.map HN.enc),(8,I l.length),(9,.int .i64 0)] [.map [] []]=_:=L;rw[Z5 (f:=326) rfl rfl];unfold XH;simp only[go_sem,c326,c326L0,p]
def Z23(l:List Nm)(bw ex:Bool)(u:l.length<=1000000):pfn rE 318 [.isl bw ex 3<|l.map Nm.enc]=some (.bool<|XH Xg l):=by
 have L:=Y8 (E:=rE) (live:=[0,3,7,8,9]) (b:=c318L0b) l.length (λi=>[(0,.isl bw ex 3<|l.map Nm.enc),(3,.mp 0),(7,.isl bw ex 3<|l.map Nm.enc),(8,I l.length),(9,I i)])
  (λi=>[.map (((l.take i).foldl (Qi Xg) []).map Nm.enc)<|ZO ((l.take i).foldl (Qi Xg) []).length]) (λi=>rfl)
  (λi hi=>by
   obtain⟨x,m⟩:∃x,l[i]?=some x:=⟨_,ZXj hi⟩;have o:=Z6 (f:=Nm.enc) m;have c:=Zh hi;have r:=Zx (n:=i)<|by omega
   have q:=Us (Qi Xg) [] m;rw[q];have a:∀n(K:List Nm),Zd n (K.map Nm.enc)=true:=λn K=>ZN _<|Zw (λt=>rfl) K
   have g:∀n k,Zd n (ZO k)=true:=λn k=>ZN _<|Ut k
   have j:=λhh=>Ur (ag:=true) (kk:=[2,1,2]) (enc:=Nm.enc) (eq:=Xg) Z20 ((l.take i).foldl (Qi Xg) []) x (h:=.map (((l.take i).foldl (Qi Xg) []).map Nm.enc) (ZO ((l.take i).foldl (Qi Xg) []).length)::hh) (b:=0) rfl
   generalize(l.take i).foldl (Qi Xg) []=K at j⊢;have d:YK [.map (K.map Nm.enc)<|ZO K.length,.row 3 [.agg [.str x.Lang,I x.Script,.str x.Text]]] true [2,1,2] (.mp 0) (.agg [.str x.Lang,I x.Script,.str x.Text]) (.bool true)=_:=j [.row 3 [.agg [.str x.Lang,I x.Script,.str x.Text]]];refine⟨_,by simp only[go_sem,c318L0b,o,c,r,Nm.enc,d,a,g];rfl,?_⟩
   simp only[go_sem])
  (e:=.exit 0) (by simp only[go_sem,c318L0b,ZG];rfl) (by simp)
 have s:l.take l.length=l:=ZXG;rw[s]at L;have p:Zg rE [0,3,7,8,9] c318L0b [(0,.isl bw ex 3<|l.map Nm.enc),(3,.mp 0),(7,.isl bw ex 3<|l.map Nm.enc),(8,I l.length),(9,.int .i64 0)] [.map [] []]=_:=L;rw[Z5 (f:=318) rfl rfl];unfold XH;simp only[go_sem,c318,c318L0,p]
def ZZ(s:Str):Bool:=(Up s).err==0&&match(Up s).toks with
 |[t]=>t.br==1&&Z3 t.Text s
 |_=>false
def Jl(s:Str):pfn rE 230 [.str s]=some (.bool<|ZZ s):=by
 have h:=Z1W s;unfold ZZ;generalize Up s=x at h⊢;obtain⟨c,d,g⟩:=x;unfold Lx.val at h;simp only at h⊢;rw[Z5 (f:=230) rfl rfl];cases b:d==0 with
 |false=>simp only[go_sem,c230,h,b]
 |true=>
  rcases c with _|⟨⟨tk,ta,tn,tt⟩,_|⟨t2,c⟩⟩
  .have e:(((0:Nat):Int)==1)=false:=rfl;simp only[go_sem,c230,h,b,e]
  .have e:(((0+1:Nat):Int)==1)=true:=rfl;have k:(0<=(0:Int))=True:=by simp
   have i:ixG [.agg [I tk,I ta,I tn,.str tt]] 0=some (.agg [I tk,I ta,I tn,.str tt]):=rfl;have j:(((1:Nat):Int)==1)=true:=rfl;cases h1:tk==1<;>simp only[go_sem,c230,h,b,e,i,h1,Tok.enc]
  .have e:(((c.length+1+1:Nat):Int)==1)=false:=by
    rw[beq_eq_false_iff_ne];omega
   simp only[go_sem,c230,h,b,e]
def XI(p:Int->Bool)(s:Str):Nat->Nat->Int
 |0,_=>-1
 |k+1,i=>bif Nat.blt i s.size then(bif p ((Utf8.decode s i).1:Nat)then(i:Int)else XI p s k<|i+(Utf8.decode s i).2)else -1
def H6(p:Int->Bool)(s:Str):Bool:=decide (XI p s (s.size+1) 0>=0)
def DX(p:Int->Bool)(g:Nat)(n:∀c:Int,pfn rE g [.int .i32 c]=some (.bool<|p c))(s:Str):pfn rE 325 [.str s,.clo (.func g) [] []]=some (.bool<|H6 p s):=by
 have L:∀k i,s.size-i<k->∃e fr' h',Zg rE [1,2,10] c414L0b [(1,.clo (.func g) [] []),(2,.bool true),(10,.it 0)] [.iter s i]=some (e,fr',h')/\
  ((e=.exit 0/\XI p s k i=-1)\/(e=.ret/\get fr' 6=I (XI p s k i)/\0<=XI p s k i)):=by
  intro k;induction k with
  |zero=>intro i q;omega
  |succ k ih=>
   intro i q;unfold XI;cases l:Nat.blt i s.size with
   |false=>
    have a:decide (i<s.size)=false:=by rw[<-N7];exact l
    exact⟨_,_,_,Q7 rfl (by simp only[go_sem,c414L0b,U8,a];rfl) (by simp),Or.inl ⟨rfl,rfl⟩⟩
   |true=>
    have a:decide (i<s.size)=true:=by rw[<-N7];exact l
    have j:i<s.size:=of_decide_eq_true a;have r:=Lib.decode_width_pos s i j;have b:=n ((Utf8.decode s i).1:Nat);rw[cond_true];cases m:p ((Utf8.decode s i).1:Nat)with
    |true=>
     rw[m]at b;rw[cond_true];refine⟨_,_,_,Q7 rfl (by simp only[go_sem,c414L0b,U8,a,b,beq_self_eq_true];rfl) (by simp),Or.inr ⟨rfl,?_,by omega⟩⟩
     simp only[go_sem]
    |false=>
     rw[m]at b;rw[cond_false];obtain⟨e,fr',h',h1,h2⟩:=ih (i+(Utf8.decode s i).2)<|by omega
     refine⟨e,fr',h',?_,h2⟩;rw[<-h1];have o:(false==true)=false:=rfl;refine(Yt rfl (by simp only[go_sem,c414L0b,U8,a,b,o];rfl)).trans ?_
     simp only[go_sem]
 obtain⟨e,fr',h',h1,h2⟩:=L (s.size+1) 0<|by omega
 have h:pfn rE 414 [.str s,.clo (.func g) [] [],.bool true]=some (I<|XI p s (s.size+1) 0):=by
  rw[Z5 (f:=414) rfl rfl];rcases h2 with⟨rfl,h2⟩|⟨rfl,h2,h3⟩
  .rw[h2];simp only[go_sem,c414,c414L0,h1]
  .simp only[go_sem,c414,c414L0,h1,h2]
 have d:pfn rE 380 [.str s,.clo (.func g) [] []]=some (I<|XI p s (s.size+1) 0):=by
  rw[Z5 (f:=380) rfl rfl];simp only[go_sem,c380,h]
 rw[Z5 (f:=325) rfl rfl];unfold H6;simp only[go_sem,c325,d]
structure Ord where
 Id:Str
 Who:Str
 Fr:Str
 To:Str
 pa:Int
 pb:Int
def Ord.enc(o:Ord):AV:=.agg [.str o.Id,.str o.Who,.str o.Fr,.str o.To,I o.pa,I o.pb]
def ZQ5:AV:=.agg [.str emp,.str emp,.str emp,.str emp,I 0,I 0]
def ZOX(a b:Ord):Bool:=bif a.pa != b.pa then decide (a.pa>b.pa)else !(WW a.Id b.Id||Z3 a.Id b.Id)
def ZRY(a b:Ord):pfn rE 54 [a.enc,b.enc]=some (.bool<|ZOX a b):=by
 unfold ZOX;rw[Z5 (f:=54) rfl rfl];cases h:a.pa != b.pa<;>simp[go_sem,c54,Ord.enc,h]
def ZUf(a b:Ord):pfn rE 56 [a.enc,b.enc]=some (.bool<|ZOX a b):=by
 have h:=ZRY a b;rw[Z5 (f:=56) rfl rfl];unfold Ord.enc at*;simp[go_sem,c56,h]
def ZRZ(a:AV)(l:List AV):ixG (a::l) 0=some a:=rfl
def ZUg(n:Nat):bounds (some<|I 1) none none (n+1)=some (1,n+1,none):=by
 have h1:Nat.ble 1 (n+1)=true:=ZXH<|by omega
 have h2:Nat.ble (n+1) (n+1)=true:=ZXH<|ZXh _;show(bif Nat.ble 1 (n+1)&&Nat.ble (n+1) (n+1)&&true then some (1,n+1,none)else none)=_
 grind
def ZOY(b x:Ord):Ord:=bif ZOX x b then x else b
def ZUh(bw ex:Bool)(x:Ord)(r:List Ord)(hr:r.length<=1000000):pfn rE 55 [.isl bw ex 6<|(x::r).map Ord.enc,.clo (.func 56) [] []]=some (r.foldl ZOY x).enc:=by
 have L:=Y8 (E:=rE) (live:=[1,4,5,12,13,14]) (b:=c55L0b) r.length (λi=>[(1,.clo (.func 56) [] []),(4,.ptr 0 0 0 1),(5,.ptr 1 0 0 1),(12,.isl bw ex 6<|r.map Ord.enc),(13,I r.length),(14,I i)])
  (λi=>[.row 6 [ZQ5],.row 6 [((r.take i).foldl ZOY x).enc]]) (λi=>rfl)
  (λi hi=>by
   have hx:r[i]?=some r[i]:=ZXj hi;have hg:=Z6 (f:=Ord.enc) hx;have hi':=Zh hi;have hw:=Zx (n:=i)<|by omega
   have hf:=Us (f:=ZOY) (b:=x) hx;rw[hf];generalize(r.take i).foldl ZOY x=b;generalize r[i]=y at hg;have hn:=ZUf y b;unfold ZOY;unfold Ord.enc ZQ5 at*;cases h:ZOX y b with
   |true=>
    rw[h]at hn;refine⟨_,by simp only[go_sem,c55L0b,hg,hi',hw,hn];rfl,?_⟩
    simp[go_sem]
   |false=>
    rw[h]at hn;refine⟨_,by simp only[go_sem,c55L0b,hg,hi',hw,hn];rfl,?_⟩
    simp only[go_sem])
  (e:=.exit 0) (by simp only[go_sem,c55L0b,ZG];rfl) (by simp)
 rw[ZXG]at L;have L':Zg rE [1,4,5,12,13,14] c55L0b [(1,.clo (.func 56) [] []),(4,.ptr 0 0 0 1),(5,.ptr 1 0 0 1),(12,.isl bw ex 6<|r.map Ord.enc),(13,I r.length),(14,.int .i64 0)] [.row 6 [ZQ5],.row 6 [x.enc]]=_:=L;rw[Z5 (f:=55) rfl rfl];unfold Ord.enc ZQ5 at*;have ht:(r.map λo=>AV.agg [AV.str o.Id,AV.str o.Who,AV.str o.Fr,AV.str o.To,I o.pa,I o.pb]).take r.length=r.map λo=>AV.agg [AV.str o.Id,AV.str o.Who,AV.str o.Fr,AV.str o.To,I o.pa,I o.pb]:=ZXz<|by simp
 simp only[go_sem,c55,c55L0,ZXn,ZRZ,ZXw,ZXg,ZUg,List.drop_succ_cons,ZXS,Nat.add_sub_cancel,ht,ZXC,beq_self_eq_true,L']
structure OrdS(o:Ord):Prop where
 id:o.Id.size<=1000
 who:o.Who.size<=1000
 fr:o.Fr.size<=1000
 to:o.To.size<=1000
def ZOm(l:List Ord)(i:Nat):List Str:=(l.take i).foldl (λK o=>Qi Z3 K o.Id) []
def ZQw(o:Ord):Bool:=ZOe o.Id&&(ZOe o.Who&&(ZOe o.Fr&&(ZOe o.To&&(!Z3 o.Fr o.To&&ZPr o.pa o.pb))))
def ZUi(n:Nat)(K:List Str):Zd n (K.map encS)=true:=ZN _<|Zw (λt=>rfl) K
def ZUj(n k:Nat):Zd n (ZO k)=true:=ZN _<|Ut k
def ZPL(l:List Ord)(i:Nat)(o:Ord):Bool:=ZQw o&&!(ZOm l i).any (Z3 o.Id)
def ZOK(l:List Ord):Bool:=Zu (ZPL l) 0 l&&decide ((l.length:Int)<=1000)
def ZUk(bw ex:Bool)(l:List Ord)(hl:l.length<=1000000)(hs:∀o∈l,OrdS o):pfn rE 51 [.isl bw ex 6<|l.map Ord.enc]=some (.bool<|ZOK l):=by
 have hE:(λt:Str=>AV.str t)=encS:=rfl
 have L:=Jk (E:=rE) (live:=[0,3,7,8,9]) (b:=c51L0b) l (ZPL l) (λi=>[(0,.isl bw ex 6<|l.map Ord.enc),(3,.mp 0),(7,.isl bw ex 6<|l.map Ord.enc),(8,I l.length),(9,I i)])
  (λi=>[.map ((ZOm l i).map encS)<|ZO (ZOm l i).length]) 0 (λfr _=>get fr 0=.isl bw ex 6 (l.map Ord.enc)) (λfr _=>get fr 2=.bool false) (λi=>rfl)
  (λi x hx hP=>by
   have hg:=Z6 (f:=Ord.enc) hx;have hi:=Zh<|Z7 hx;have hw:=Zx (n:=i)<|by grind
   have hf:ZOm l (i+1)=Qi Z3 (ZOm l i) x.Id:=Us (λ(K:List Str)(o:Ord)=>Qi Z3 K o.Id) [] hx
   rw[hf];have hz:=hs x<|ZXp hx;have n1:=ZOJ x.Id (by have:=hz.id;omega)
   have n2:=ZOJ x.Who (by have:=hz.who;omega)
   have n3:=ZOJ x.Fr (by have:=hz.fr;omega)
   have n4:=ZOJ x.To (by have:=hz.to;omega)
   unfold ZPL ZQw at hP;have hp:=λhh=>H5 (ag:=false) (kk:=[2]) (enc:=encS) (eq:=Z3) Z1Y (ZOm l i) x.Id (h:=.map ((ZOm l i).map encS) (ZO (ZOm l i).length)::hh) (b:=0) rfl
   have hq:=λhh=>Ur (ag:=false) (kk:=[2]) (enc:=encS) (eq:=Z3) Z1Y (ZOm l i) x.Id (h:=.map ((ZOm l i).map encS) (ZO (ZOm l i).length)::hh) (b:=0) rfl
   generalize ZOm l i=K at hP hp hq⊢;simp only[ZXf,ZXM]at hP;obtain⟨⟨h1,h2,h3,h4,h5,h6⟩,h7⟩:=hP;have h6':=ZQs x.pa x.pb;rw[h1]at n1;rw[h2]at n2;rw[h3]at n3;rw[h4]at n4;rw[h6]at h6';simp only[encS]at hp hq⊢;rw[h7]at hp;refine⟨_,by simp only[go_sem,c51L0b,hg,hi,hw,Ord.enc,n1,n2,n3,n4,h5,h6',hp,hq,ZUi,ZUj];rfl,?_⟩
   simp only[go_sem])
  (λi x hx hP=>by
   have hg:=Z6 (f:=Ord.enc) hx;have hi:=Zh<|Z7 hx;have hz:=hs x<|ZXp hx;have n1:=ZOJ x.Id (by have:=hz.id;omega)
   have n2:=ZOJ x.Who (by have:=hz.who;omega)
   have n3:=ZOJ x.Fr (by have:=hz.fr;omega)
   have n4:=ZOJ x.To (by have:=hz.to;omega)
   have h6':=ZQs x.pa x.pb;unfold ZPL ZQw at hP;have hp:=λhh=>H5 (ag:=false) (kk:=[2]) (enc:=encS) (eq:=Z3) Z1Y (ZOm l i) x.Id (h:=.map ((ZOm l i).map encS) (ZO (ZOm l i).length)::hh) (b:=0) rfl
   generalize ZOm l i=K at hP hp⊢;simp only[encS]at hp⊢;cases h1:ZOe x.Id<;>cases h2:ZOe x.Who<;>cases h3:ZOe x.Fr<;>cases h4:ZOe x.To<;>rw[h1]at n1<;>rw[h2]at n2<;>rw[h3]at n3<;>rw[h4]at n4<;>
    first
    |(refine⟨_,_,by simp only[go_sem,c51L0b,hg,hi,Ord.enc,n1,n2,n3,n4];rfl,?_⟩;simp only[go_sem];done)
    |(cases h5:Z3 x.Fr x.To with
     |true=>refine⟨_,_,by simp only[go_sem,c51L0b,hg,hi,Ord.enc,n1,n2,n3,n4,h5];rfl,?_⟩;simp only[go_sem]
     |false=>
      cases h6:ZPr x.pa x.pb with
      |false=>rw[h6]at h6';refine⟨_,_,by simp only[go_sem,c51L0b,hg,hi,Ord.enc,n1,n2,n3,n4,h5,h6'];rfl,?_⟩;simp only[go_sem]
      |true=>
       rw[h1,h2,h3,h4,h5,h6]at hP;have h7:K.any (Z3 x.Id)=true:=by grind
       rw[h6]at h6';rw[h7]at hp;refine⟨_,_,by simp only[go_sem,c51L0b,hg,hi,Ord.enc,n1,n2,n3,n4,h5,h6',hp];rfl,?_⟩;simp only[go_sem]))
  (⟨_,_,by simp only[go_sem,c51L0b,ZG];rfl,by simp only[go_sem]⟩)
 obtain⟨fr',h',h1,h3,h2⟩:=L;have h1':Zg rE [0,3,7,8,9] c51L0b [(0,.isl bw ex 6<|l.map Ord.enc),(3,.mp 0),(7,.isl bw ex 6<|l.map Ord.enc),(8,I l.length),(9,.int .i64 0)] [.map [] []]=_:=h1;rw[Z5 (f:=51) rfl rfl];unfold ZOK;cases hc:Zu (ZPL l) 0 l with
 |true=>
  rw[hc]at h1';have h3':=h3 hc;simp only[go_sem,c51,c51L0,h1',h3',ZXg,ZXk]
 |false=>
  rw[hc]at h1';have h2':=h2 hc;simp only[go_sem,c51,c51L0,h1',h2',ZXB,ZXm]
section
variable {α:Type}
def aix(m:List<|Str×α)(k:Str):Option Nat:=match m with
 |[]=>none
 |p::r=>bif Z3 k p.1 then some 0 else(aix r k).map (· + 1)
def ZO2(m:List<|Str×α)(k:Str):Option α:=match m with
 |[]=>none
 |p::r=>bif Z3 k p.1 then some p.2 else ZO2 r k
def ZOf(m:List<|Str×α)(k:Str)(v:α):List (Str×α):=match m with
 |[]=>[(k,v)]
 |p::r=>bif Z3 k p.1 then(p.1,v)::r else p::ZOf r k v
def ZOb(f:α->AV)(m:List<|Str×α):AObj:=.map (m.map λp=>encS p.1)<|m.map λp=>f p.2
def ZQx(k:Str):∀(m:List<|Str×α)(i:Nat),ZW false [2] (.str k) (m.map λp=>encS p.1) i=some ((aix m k).map (i + ·))
 |[],i=>rfl
 |p::r,i=>by
  have ih:=ZQx k r<|i+1;have e:aix (p::r) k=bif Z3 k p.1 then some 0 else(aix r k).map (· + 1):=rfl;rw[e];simp[encS]at ih;simp only[ZXn,ZW,encS,Z1Y,ih];cases Z3 k p.1 with
  |true=>rfl
  |false=>
   cases aix r k with
   |none=>rfl
   |some j=>
    show some (some<|i+1+j)=some (some<|i+(j+1))
    rw[ZYx,Nat.add_comm 1 j]
def ZS0(f:α->AV)(k:Str):∀(m:List<|Str×α)(j:Nat),aix m k=some j->∃v,ZO2 m k=some v/\(m.map λp=>f p.2)[j]?=some (f v)
 |[],j,h=>by cases h
 |p::r,j,h=>by
  unfold aix at h;unfold ZO2;cases hk:Z3 k p.1 with
  |true=>grind
  |false=>
   rw[hk,cond_false]at h;cases hr:aix r k with
   |none=>grind
   |some i=>
    rw[hr]at h;obtain⟨v,h1,h2⟩:=ZS0 f k r i hr
    grind
theorem ZS1(k:Str):∀(m:List<|Str×α),aix m k=none->ZO2 m k=none
 |[],_=>rfl
 |p::r,h=>by
  unfold aix at h;unfold ZO2;cases hk:Z3 k p.1 with
  |true=>grind
  |false=>
   simp_all[ZS1]
def ZS2(f:α->AV)(k:Str)(v:α):∀(m:List<|Str×α),aix m k=none->(ZOf m k v).map (λp=>encS p.1)=m.map (λp=>encS p.1)++[encS k]/\(ZOf m k v).map (λp=>f p.2)=m.map (λp=>f p.2)++[f v]
 |[],_=>⟨rfl,rfl⟩
 |p::r,h=>by
  unfold aix at h;unfold ZOf;cases hk:Z3 k p.1 with
  |true=>grind
  |false=>
   have ih:=ZS2 f k v r<|by simp_all
   grind
def ZS3(f:α->AV)(k:Str)(v:α):∀(m:List<|Str×α)(j:Nat),aix m k=some j->(ZOf m k v).map (λp=>encS p.1)=m.map (λp=>encS p.1)/\(ZOf m k v).map (λp=>f p.2)=(m.map<|λp=>f p.2).set j (f v)
 |[],j,h=>by cases h
 |p::r,j,h=>by
  unfold aix at h;unfold ZOf;cases hk:Z3 k p.1 with
  |true=>grind
  |false=>
   rw[hk,cond_false]at h;cases hr:aix r k with
   |none=>grind
   |some i=>
    rw[hr]at h;have ih:=ZS3 f k v r i hr
    grind
def ZS4(f:α->AV)(m:List<|Str×α)(k:Str)(z:AV){h:Hp}{b:Nat}(hb:h[b]?=some (ZOb f m)):
 W5 h false [2] true z (.mp b) (.str k)=some (.tup [match ZO2 m k with|some v=>f v|none=>z,.bool (ZO2 m k).isSome]):=by
 unfold ZOb at hb;simp only[W5,hb,QW,ZQx,Z1Y];cases hx:aix m k with
 |none=>grind [ZS1]
 |some j=>
  obtain⟨v,h1,h2⟩:=ZS0 f k m j hx
  grind
def ZS5(f:α->AV)(m:List<|Str×α)(k:Str)(v:α){h:Hp}{b:Nat}(hb:h[b]?=some (ZOb f m)):
 YK h false [2] (.mp b) (.str k) (f v)=some (.bot,setH h b<|ZOb f<|ZOf m k v):=by
 unfold ZOb at hb⊢;simp[YK,hb,Yo,ZQx,Z1Y];cases hx:aix m k with
 |none=>
  have:=ZS2 f k v m hx;rw[this.1,this.2];rfl
 |some j=>
  have:=ZS3 f k v m j hx;rw[this.1,this.2];rfl
theorem ZUl(m:List<|Str×α)(k:Str)(v:α):(ZOf m k v).length<=m.length+1:=by
 induction m with
 |nil=>exact ZXh _
 |cons p r ih=>
  grind [ZOf]
end
end Go.AM
namespace Go.AM
open Go
variable [REdz]
abbrev ZOl:=List<|Str×Ord
def zO:Ord:=⟨emp,emp,emp,emp,0,0⟩
def ZOZ(p:Str)(d:Int)(m:ZOl)(o:Ord):ZOl:=
 bif (Z3 o.Who p&&ZPK o.pa o.pb d)&&(!(ZO2 m o.Fr).isSome||ZOX o ((ZO2 m o.Fr).getD zO))then ZOf m o.Fr o else m
def ZOC(p:Str)(d:Int)(l:List Ord):ZOl:=l.foldl (ZOZ p d) []
def ZQy(m:ZOl)(k:Str){h:Hp}{b:Nat}(hb:h[b]?=some (ZOb Ord.enc m)):
 W5 h false [2] true (.agg [.str emp,.str emp,.str emp,.str emp,I 0,I 0]) (.mp b) (.str k)=some (.tup [((ZO2 m k).getD zO).enc,.bool (ZO2 m k).isSome]):=by
 rw[ZS4 Ord.enc m k _ hb];cases ZO2 m k<;>rfl
def ZOP(n:Nat)(m:ZOl):Zd n (m.map λp=>p.2.enc)=true:=ZN _<|Zw (f:=λp:Str×Ord=>p.2.enc) (λt=>rfl) m
def ZOQ(n:Nat)(m:ZOl):Zd n (m.map λp=>encS p.1)=true:=ZN _<|Zw (f:=λp:Str×Ord=>encS p.1) (λt=>rfl) m
def f16(bw ex:Bool)(l:List Ord)(p dr:Str)(d:Int)(i:Nat):Fr:=[(1,.str p),(2,.str dr),(3,I d),(13,.mp 0),(50,.isl bw ex 6<|l.map Ord.enc),(51,I l.length),(52,I i)]
def ZUm(bw ex:Bool)(l:List Ord)(hl:l.length<=1000000)(p dr:Str)(d:Int):
 Zg rE [1,2,3,13,50,51,52] c31L0b (f16 bw ex l p dr d 0) [ZOb Ord.enc []]=some (.exit 0,f16 bw ex l p dr d l.length,[ZOb Ord.enc<|ZOC p d l]):=by
 have L:=Y8 (E:=rE) (live:=[1,2,3,13,50,51,52]) (b:=c31L0b) l.length (f16 bw ex l p dr d) (λi=>[ZOb Ord.enc<|(l.take i).foldl (ZOZ p d) []]) (λi=>rfl)
  (λi hi=>by
   have hx:l[i]?=some l[i]:=ZXj hi;have hg:=Z6 (f:=Ord.enc) hx;have hi':=Zh hi;have hw:=Zx (n:=i)<|by omega
   have hf:=Us (ZOZ p d) [] hx;rw[hf];generalize(l.take i).foldl (ZOZ p d) []=m;generalize l[i]=y at hg;have hm:=λhh=>ZQy m y.Fr (h:=.map (m.map λp=>encS p.1) (m.map λp=>p.2.enc)::hh) (b:=0) rfl
   have hq:=λhh=>ZS5 Ord.enc m y.Fr y (h:=.map (m.map λp=>encS p.1) (m.map λp=>p.2.enc)::hh) (b:=0) rfl
   have ey:y.enc=.agg [.str y.Id,.str y.Who,.str y.Fr,.str y.To,I y.pa,I y.pb]:=rfl;have hc:=ZU8 y.pa y.pb d;have hn:=ZRY y<|(ZO2 m y.Fr).getD zO;unfold ZOZ;generalize(ZO2 m y.Fr).getD zO=old at hm hn⊢;generalize(ZO2 m y.Fr).isSome=it at hm⊢;have eo:old.enc=.agg [.str old.Id,.str old.Who,.str old.Fr,.str old.To,I old.pa,I old.pb]:=rfl;unfold f16;unfold ZOb at hq⊢;simp only[eo]at hm;rw[ey,eo]at hn;simp only[ey]at hg hq;cases h1:Z3 y.Who p with
   |false=>
    refine⟨_,by simp only[go_sem,c31L0b,hg,hi',hw,hm,h1,ZOP,ZOQ];rfl,?_⟩
    simp only[go_sem]
   |true=>
    cases h2:ZPK y.pa y.pb d with
    |false=>
     rw[h2]at hc;refine⟨_,by simp only[go_sem,c31L0b,hg,hi',hw,hm,h1,hc,ZOP,ZOQ];rfl,?_⟩
     simp only[go_sem]
    |true=>
     rw[h2]at hc;cases it with
     |false=>
      refine⟨_,by simp only[go_sem,c31L0b,hg,hi',hw,hm,h1,hc,hq,ZOP,ZOQ];rfl,?_⟩
      simp only[go_sem]
     |true=>
      cases h3:ZOX y old with
      |false=>
       rw[h3]at hn;refine⟨_,by simp only[go_sem,c31L0b,hg,hi',hw,hm,h1,hc,hn,hq,ZOP,ZOQ];rfl,?_⟩
       simp only[go_sem]
      |true=>
       rw[h3]at hn;refine⟨_,by simp only[go_sem,c31L0b,hg,hi',hw,hm,h1,hc,hn,hq,ZOP,ZOQ];rfl,?_⟩
       simp only[go_sem])
  (e:=.exit 0) (by unfold f16;simp only[go_sem,c31L0b,ZG];rfl) (by simp)
 rw[ZXG]at L;exact L
def nA(n:Nat):AV:=I (n:Int)
abbrev ZOu:=List<|Str×Nat
def ZQz(m:ZOu)(k:Str){h:Hp}{b:Nat}(hb:h[b]?=some (ZOb nA m)):
 W5 h false [2] true (I 0) (.mp b) (.str k)=some (.tup [I ((ZO2 m k).getD 0:Nat),.bool (ZO2 m k).isSome]):=by
 rw[ZS4 nA m k (I 0) hb];cases ZO2 m k<;>rfl
def ZQA(n:Nat)(m:ZOu):Zd n (m.map λp=>I (p.2:Int))=true:=ZN _<|Zw (f:=λp:Str×Nat=>I (p.2:Int)) (λt=>rfl) m
def ZQB(n:Nat)(l:List Ord):Zd n (l.map λo=>encS o.Id)=true:=ZN _<|Zw (f:=λo:Ord=>encS o.Id) (λt=>rfl) l
def ZQC(n:Nat)(m:ZOu):Zd n (m.map λp=>encS p.1)=true:=ZN _<|Zw (f:=λp:Str×Nat=>encS p.1) (λt=>rfl) m
def ZQD(n:Nat)(l:List Ord):Zd n (l.map Ord.enc)=true:=ZN _<|Zw (λt=>rfl) l
def setW(m:ZOl):Nat->ZOu->List Ord->Str->Option (Str×List Ord)
 |0,_,_,_=>none
 |k+1,pl,way,at'=>
  match ZO2 pl at' with
  |some i=>match way.drop i with
   |x::r=>some ((r.foldl ZOY x).To,way)
   |[]=>none
  |none=>match ZO2 m at' with
   |none=>some (at',way)
   |some o=>setW m k (ZOf pl at' way.length) (way++[o]) o.To
def w16(n:Nat)(at':Str):Fr:=[(13,.mp 0),(18,.sl 1 n 0 n false),(19,.sl 2 n 0 n false),(20,.mp 3),(21,.str at')]
def h16(m:ZOl)(way:List Ord)(pl:ZOu):Hp:=[ZOb Ord.enc m,.row 6<|way.map Ord.enc,.row 1<|way.map λo=>encS o.Id,ZOb nA pl]
def ZUn(v:AV)(rs:List Nat)(b:Nat)(o:AObj):wrB (some (v,rs,some (b,o)))=some b:=rfl
attribute [go_sem] ZUn
def ZS6{h:Hp}{aid b g sz bytes:Nat}{es ys:List AV}{bw ex fz:Bool}(hb:h[b]?=some (.row sz es))(hg:es.length=g)(hy:ys.isEmpty=false)(hf:ys.all (fits sz)=true)(h0:0<sz)(h1:0<bytes)(h2:(g+ys.length)*bytes<=140737488355328):
 Qt h aid fz sz bytes (.sl b g 0 g false) (.isl bw ex sz ys)=some (.sl b (g+ys.length) 0 (g+ys.length) false,b::Zs (.isl bw ex sz ys),some (b,.row sz<|es++ys)):=by
 subst hg;have ht:List.take es.length es=es:=ZXz<|ZXh _;simp[Qt,Q2,hb,Qq,h0,h1,h2,hy,hf]
def ZUo(m:ZOl)(way:List Ord)(pl:ZOu)(at':Str)(o:Ord)(hl:way.length<=100000)(h1:ZO2 pl at'=none)(h2:ZO2 m at'=some o):
 ∃fr',Zb rE c31L1b (w16 way.length at') (h16 m way pl)=some (.normal,fr',h16 m (way++[o])<|ZOf pl at' way.length)/\Z2 [13,18,19,20,21] fr'=w16 (way++[o]).length o.To:=by
 have hap:=λh aid(hb:h[1]?=_)=>ZS6 (h:=h) (aid:=aid) (fz:=false) (b:=1) (g:=way.length) (sz:=6) (es:=way.map Ord.enc) (bw:=false) (ex:=false) (ys:=[o.enc]) (bytes:=80) hb (by simp) rfl (by rfl) (by omega) (by omega) (by grind)
 have hap2:=λh(hb:rowAt h 1 way.length=_)=>XC (h:=h) (fz:=false) (b:=1) (g:=way.length) (sz:=6) (es:=way.map Ord.enc) (bw:=false) (ex:=false) (ys:=[o.enc]) (bytes:=80) hb rfl (by rfl) (by omega) (by omega) (by grind)
 have hbp:=λh aid(hb:h[2]?=_)=>ZS6 (h:=h) (aid:=aid) (fz:=false) (b:=2) (g:=way.length) (sz:=1) (es:=way.map λo=>encS o.Id) (bw:=false) (ex:=false) (ys:=[encS o.Id]) (bytes:=16) hb (by simp) rfl (by rfl) (by omega) (by omega) (by grind)
 have hbp2:=λh(hb:rowAt h 2 way.length=_)=>XC (h:=h) (fz:=false) (b:=2) (g:=way.length) (sz:=1) (es:=way.map λo=>encS o.Id) (bw:=false) (ex:=false) (ys:=[encS o.Id]) (bytes:=16) hb rfl (by rfl) (by omega) (by omega) (by grind)
 have m1:=λhh=>ZQy m at' (h:=ZOb Ord.enc m::hh) (b:=0) rfl
 have p1:=λa b c hh=>ZQz pl at' (h:=a::b::c::ZOb nA pl::hh) (b:=3) rfl
 have p2:=λa b c hh=>ZS5 nA pl at' way.length (h:=a::b::c::ZOb nA pl::hh) (b:=3) rfl
 have eo:o.enc=.agg [.str o.Id,.str o.Who,.str o.Fr,.str o.To,I o.pa,I o.pb]:=rfl;rw[h1]at p1;rw[h2]at m1;simp[ZZJ]at m1 p1;unfold ZOb at m1 p1 p2;unfold nA at p1 p2;have es:encS o.Id=.str o.Id:=rfl;simp[eo]at m1 hap hap2;simp[es]at hbp hbp2;unfold w16 h16 ZOb nA;refine⟨_,by simp[go_sem,c31L1b,m1,p1,p2,hap,hap2,hbp,hbp2,ZOP,ZOQ,ZQA,ZQC,ZQD,ZQB,beq_self_eq_true,ZXx,ZXn,ZXD,eo,es];rfl,?_⟩
 simp only[go_sem,ZXy,ZY7]
def ZUp(m:ZOl)(way:List Ord)(pl:ZOu)(at':Str)(h1:ZO2 pl at'=none)(h2:ZO2 m at'=none):
 ∃fr' h',Zb rE c31L1b (w16 way.length at') (h16 m way pl)=some (.ret,fr',h')/\get fr' 8=.str at'/\get fr' 9=.sl 2 way.length 0 way.length false/\get fr' 10=I 0/\rowAt h' 2 way.length=some (1,way.map λo=>encS o.Id):=by
 have m1:=λhh=>ZQy m at' (h:=ZOb Ord.enc m::hh) (b:=0) rfl
 have p1:=λa b c hh=>ZQz pl at' (h:=a::b::c::ZOb nA pl::hh) (b:=3) rfl
 rw[h1]at p1;rw[h2]at m1;simp[ZZJ]at m1 p1;have ez:zO.enc=.agg [.str emp,.str emp,.str emp,.str emp,I 0,I 0]:=rfl;simp[ez]at m1;unfold ZOb at m1 p1;unfold nA at p1;unfold w16 h16 ZOb nA;refine⟨_,_,by simp only[go_sem,c31L1b,m1,p1,ZOP,ZOQ,ZQA,ZQC,ZQD,ZQB];rfl,by simp[go_sem],by simp[go_sem],by simp[go_sem],by simp[rowAt,cond_true]⟩
def ZUq(m:ZOl)(way:List Ord)(pl:ZOu)(at':Str)(i:Nat)(x:Ord)(r:List Ord)(hl:way.length<=100000)(h1:ZO2 pl at'=some i)(h2:way.drop i=x::r):
 ∃fr' h',Zb rE c31L1b (w16 way.length at') (h16 m way pl)=some (.ret,fr',h')/\get fr' 8=.str (r.foldl ZOY x).To/\get fr' 9=.sl 2 way.length 0 way.length false/\get fr' 10=I 0/\rowAt h' 2 way.length=some (1,way.map λo=>encS o.Id):=by
 have p1:=λa b c hh=>ZQz pl at' (h:=a::b::c::ZOb nA pl::hh) (b:=3) rfl
 rw[h1]at p1;simp[ZZK]at p1;unfold ZOb nA at p1;have hi:i<way.length:=by
  grind [List.drop_eq_nil_of_le]
 have hb:bounds (some<|I (i:Int)) none none way.length=some (i,way.length,none):=by
  have b1:Nat.ble i way.length=true:=ZXH<|ZYg hi;have b2:Nat.ble way.length way.length=true:=ZXH<|ZXh _;have b0:VA (some<|I (i:Int))=some i:=by simp[VA,numOf]
  unfold bounds;show(bif Nat.ble i way.length&&Nat.ble way.length way.length&&true then some (i,way.length,none)else none)=_
  grind
 have hd:((way.map Ord.enc).drop i).take (way.length-i)=x.enc::r.map Ord.enc:=by
  rw[<-List.map_drop,h2,ZXz<|by grind];rfl
 have hr:r.length<=1000000:=by
  have:=congrArg List.length h2
  grind
 have hc:=ZUh true false x r hr;rw[ZXn]at hc;generalize r.foldl ZOY x=z at hc⊢;have hz:z.enc=.agg [.str z.Id,.str z.Who,.str z.Fr,.str z.To,I z.pa,I z.pb]:=rfl;have hsl:∀a c d:AObj,slF [a,.row 6<|way.map Ord.enc,c,d] 6 (.sl 1 way.length 0 way.length false) (some (i,way.length,none))=some (.sl 1 way.length i (way.length-i) false):=by
  grind [slF,rowAt]
 have hcl:Z4 (x.enc::r.map Ord.enc)=true:=Zw (λt=>rfl)<|x::r
 unfold w16 h16 ZOb nA;refine⟨_,_,by simp only[go_sem,c31L1b,p1,hb,hsl,hd,hcl,hc,hz,ZOP,ZOQ,ZQA,ZQC,ZQD,ZQB,beq_self_eq_true,ZXm];rfl,by simp only[go_sem],by simp only[go_sem],by simp only[go_sem],by simp only[rowAt,ZYn,ZYf,ZXg,beq_self_eq_true,cond_true]⟩
def ZS7(m:ZOl):∀(k:Nat)(pl:ZOu)(way:List Ord)(at' to:Str)(w:List Ord),way.length+k<=100000->setW m k pl way at'=some (to,w)->
 ∃fr' h',Zg rE [13,18,19,20,21] c31L1b (w16 way.length at') (h16 m way pl)=some (.ret,fr',h')/\get fr' 8=.str to/\get fr' 9=.sl 2 w.length 0 w.length false/\get fr' 10=I 0/\rowAt h' 2 w.length=some (1,w.map λo=>encS o.Id)
 |0,pl,way,at',to,w,_,h=>by cases h
 |k+1,pl,way,at',to,w,hk,h=>by
  have hr:Z2 [13,18,19,20,21] (w16 way.length at')=w16 way.length at':=rfl;unfold setW at h;cases h1:ZO2 pl at' with
  |some i=>
   rw[h1]at h;dsimp only at h;split at h
   .next x r h2=>
    obtain⟨fr',h',c,q⟩:=ZUq m way pl at' i x r (by omega) h1 h2
    grind [Q7]
   grind
  |none=>
   rw[h1]at h;cases h2:ZO2 m at' with
   |none=>
    rw[h2]at h;obtain⟨fr',h',c,q⟩:=ZUp m way pl at' h1 h2
    grind [Q7]
   |some o=>
    rw[h2]at h;obtain⟨fr',c,q⟩:=ZUo m way pl at' o (by omega) h1 h2
    rw[Yt hr c,q];exact ZS7 m k _ _ _ to w (by grind) h
def unv(m:ZOl)(pl:ZOu):Nat:=(m.filter λp=>(ZO2 pl p.1).isNone).length
theorem ZQ6{α:Type}(k k':Str)(v:α):∀m:List<|Str×α,ZO2 (ZOf m k v) k'=bif Z3 k' k then some v else ZO2 m k'
 |[]=>by unfold ZOf ZO2;cases Z3 k' k<;>rfl
 |p::r=>by
  have ih:=ZQ6 k k' v r;unfold ZOf;cases hk:Z3 k p.1 with
  |true=>
   have:=(Ky _ _).1 hk;rw[cond_true];unfold ZO2;rw[this];cases Z3 k' p.1<;>rfl
  |false=>
   rw[cond_false];have e1:ZO2 (p::ZOf r k v) k'=bif Z3 k' p.1 then some p.2 else ZO2 (ZOf r k v) k':=rfl;have e2:ZO2 (p::r) k'=bif Z3 k' p.1 then some p.2 else ZO2 r k':=rfl;rw[e1,e2,ih];cases h1:Z3 k' p.1 with
   |false=>rfl
   |true=>
    cases h2:Z3 k' k with
    |false=>rfl
    |true=>
     have b:=(Ky _ _).1 h2
     grind
def ZS8{α:Type}(k:Str):∀(m:List<|Str×α)(v:α),ZO2 m k=some v->(k,v)∈m
 |p::r,v,h=>by
  unfold ZO2 at h;cases hk:Z3 k p.1 with
  |true=>
   rw[hk]at h;cases h;have:=(Ky _ _).1 hk;rw[this];exact ZXV
  |false=>
   rw[hk,cond_false]at h;exact ZY2 _<|ZS8 k r v h
def ZUr(m:ZOl)(pl:ZOu)(k:Str)(n:Nat)(o:Ord)(h1:ZO2 pl k=none)(h2:ZO2 m k=some o):unv m (ZOf pl k n)<unv m pl:=by
 unfold unv;have hm:=ZS8 k m o h2;have hs:∀p:Str×Ord,(ZO2 (ZOf pl k n) p.1).isNone=true->(ZO2 pl p.1).isNone=true:=by
  grind [ZQ6]
 clear h2;induction m with
 |nil=>grind
 |cons p r ih=>
  have hle:∀l:ZOl,(l.filter λp=>(ZO2 (ZOf pl k n) p.1).isNone).length<=(l.filter λp=>(ZO2 pl p.1).isNone).length:=by
   intro l;induction l with
   |nil=>grind
   |cons q l ih=>
    grind
  rcases ZXF.1 hm with rfl|hm
  .have e1:(ZO2 (ZOf pl k n) k).isNone=false:=by rw[ZQ6,(Ky k k).2 rfl];rfl
   grind
  grind
def ZUs(pl:ZOu)(way:List Ord):Prop:=∀k i,ZO2 pl k=some i->i<way.length
def ZS9(m:ZOl):∀(k:Nat)(pl:ZOu)(way:List Ord)(at':Str),ZUs pl way->unv m pl<k->∃to w,setW m k pl way at'=some (to,w)
 |0,_,_,_,_,h=>absurd h<|ZYT _
 |k+1,pl,way,at',hp,h=>by
  unfold setW;cases h1:ZO2 pl at' with
  |some i=>
   have hi:=hp _ _ h1;dsimp only;rw[ZXP hi]
   grind
  |none=>
   cases h2:ZO2 m at' with
   |none=>grind
   |some o=>
    refine ZS9 m k _ _ _ ?_ (by have:=ZUr m pl at' way.length o h1 h2;omega)
    intro q i hq;rw[ZQ6]at hq;rw[ZXy,ZY7];cases hk:Z3 q at' with
    |true=>grind
    |false=>rw[hk]at hq;have:=hp q i hq;omega
def ZP9(p:Str)(d:Int)(l:List Ord)(dr:Str):Str×List Ord:=(setW (ZOC p d l) (l.length+2) [] [] dr).getD (emp,[])
theorem ZUt(p:Str)(d:Int)(l:List Ord):(ZOC p d l).length<=l.length:=by
 have G:∀(l:List Ord)(m:ZOl),(l.foldl (ZOZ p d) m).length<=m.length+l.length:=by
  intro l;induction l with
  |nil=>grind
  |cons o r ih=>
   intro m;have h2:(ZOZ p d m o).length<=m.length+1:=by
    unfold ZOZ;cases((Z3 o.Who p&&ZPK o.pa o.pb d)&&(!(ZO2 m o.Fr).isSome||ZOX o ((ZO2 m o.Fr).getD zO)))with
    |true=>grind [ZUl]
    |false=>grind
   grind
 have:=G l [];rw[ZXK,ZXA]at this;exact this
def ZUu(p:Str)(d:Int)(l:List Ord)(dr:Str):setW (ZOC p d l) (l.length+2) [] [] dr=some ((ZP9 p d l dr).1,(ZP9 p d l dr).2):=by
 have hu:unv (ZOC p d l) []<l.length+2:=by
  grind [ZUt,unv]
 obtain⟨to,w,h⟩:=ZS9 (ZOC p d l) (l.length+2) [] [] dr (λk i h=>by cases h) hu
 grind [ZP9]
def ZUv{n b:Nat}(hb:b<n)(fr:Fr)(h:Hp)(g:Nat):rowAt (Xq n fr h) b g=rowAt h b g:=by
 unfold Xq;cases(Zd n (fr.map (·.2))&&X4 n (h.take n))with
 |false=>rfl
 |true=>unfold rowAt;rw[cond_true,ZYK hb]
def ZPM(l:List Ord)(p dr:Str)(d:Int):AV:=
 bif dyB d&&(ZOK l&&(ZOe p&&ZOe dr))then .tup [.str (ZP9 p d l dr).1,.isl false false 1<|(ZP9 p d l dr).2.map λo=>encS o.Id,I 0]else .tup [.str emp,.isl false false 1 [],I 1]
def ZSa(bw ex:Bool)(l:List Ord)(hl:l.length<=50000)(hs:∀o∈l,OrdS o)(p dr:Str)(hp:p.size<=1000)(hd:dr.size<=1000)(d:Int):
 pfn rE 31 [.isl bw ex 6<|l.map Ord.enc,.str p,.str dr,I d]=some (ZPM l p dr d):=by
 obtain⟨t,h47⟩:=ZUc d;have h48:=ZUk bw ex l (by omega) hs
 have np:=ZOJ p<|by omega
 have nd:=ZOJ dr<|by omega
 have L:=ZUm bw ex l (by omega) p dr d
 obtain⟨fr',h',w1,w2,w3,w4,w5⟩:=ZS7 (ZOC p d l) (l.length+2) [] [] dr _ _ (by grind)<|ZUu p d l dr
 rw[Z5 (f:=31) rfl rfl];unfold ZPM;generalize ZP9 p d l dr=T at w1 w2 w3 w4 w5⊢;unfold f16 at L;unfold w16 h16 at w1;unfold ZOb at L w1;have hk:=λn=>ZOQ n<|ZOC p d l
 generalize(ZOC p d l).map (λp=>encS p.1)=KS at L w1 hk
 have hb:=λn=>ZOP n<|ZOC p d l
 generalize(ZOC p d l).map (λp=>p.2.enc)=VS at L w1 hb
 have L:Zg rE [1,2,3,13,50,51,52] c31L0b [(1,.str p),(2,.str dr),(3,I d),(13,.mp 0),(50,.isl bw ex 6<|l.map Ord.enc),(51,I l.length),(52,.int .i64 0)] [.map [] []]=_:=L;have w1:Zg rE [13,18,19,20,21] c31L1b [(13,.mp 0),(18,.sl 1 0 0 0 false),(19,.sl 2 0 0 0 false),(20,.mp 3),(21,.str dr)] [.map KS VS,.row 6 [],.row 1 [],.map [] []]=_:=w1;have hc:Z4 (T.2.map λo=>encS o.Id)=true:=Zw (f:=λo:Ord=>encS o.Id) (λt=>rfl) T.2
 have ht:(T.2.map λo=>encS o.Id).take T.2.length=T.2.map λo=>encS o.Id:=ZXz<|by simp
 have h0:((0:Int) != 0)=false:=rfl;have h1:((1:Int) != 0)=true:=rfl;cases hd:dyB d with
 |false=>
  rw[hd]at h47;simp[go_sem,c31,h47,cond_false,h1,ZXm]
 |true=>
  rw[hd]at h47;cases ho:ZOK l with
  |false=>rw[ho]at h48;simp only[go_sem,c31,h47,h48,h0,ZXm,ZXT]
  |true=>
   rw[ho]at h48;cases hn:ZOe p with
   |false=>rw[hn]at np;simp only[go_sem,c31,h47,h48,np,h0,ZXm,ZXT]
   |true=>
    rw[hn]at np;cases hm:ZOe dr with
    |false=>rw[hm]at nd;simp only[go_sem,c31,h47,h48,np,nd,h0,ZXm,ZXT]
    |true=>
     rw[hm]at nd;simp only[go_sem,c31,c31L0,c31L1,h47,h48,np,nd,h0,L,w1,w2,w3,w4,w5,hk,hb,hc,ht,ZUv (show 2<4 by decide),ZXg,ZY3,ZXm]
def ZSb(s:Str):pfn rE 49 [.str s]=some (.bool<|ZZ s):=by
 have h:=Jl s;rw[Z5 (f:=230) rfl rfl]at h;rw[Z5 (f:=49) rfl rfl];exact h
def ZQE{α:Type}(p:α->Bool):∀l:List α,l.any p = !(l.all λy=>!p y):=by grind
def ZQ7(n:Nat):decide ((n:Int)>=0)=true:=rfl
def ZUw(bw ex:Bool)(l:List Int)(hl:l.length<=1000000)(x:Int):∃n:Int,pfn rE 109 [.isl bw ex 1<|l.map I,I x]=some (I n)/\decide (n>=0)=l.any (x==·):=by
 have L:=Uf (E:=rE) (live:=[0,1,7,8]) (b:=c109L0b) (h:=[]) l (λ_ y=>!(x==y)) (λi=>[(0,.isl bw ex 1<|l.map I),(1,I x),(7,I l.length),(8,I i)]) 0 (λfr=>∃n:Nat,get fr 4=I n) (λi=>rfl)
  (λi y hy hP=>by
   have hg:=Z6 (f:=I) hy;have hi:=Zh<|Z7 hy;have hw:=Zx (n:=i)<|by grind
   have h1:(x==y)=false:=by grind
   refine⟨_,by simp only[go_sem,c109L0b,hg,hi,hw,h1];rfl,?_⟩
   simp[go_sem])
  (λi y hy hP=>by
   have hg:=Z6 (f:=I) hy;have hi:=Zh<|Z7 hy;have h1:(x==y)=true:=by grind
   refine⟨_,by simp only[go_sem,c109L0b,hg,hi,h1];rfl,i,?_⟩
   simp[go_sem])
  (⟨_,by simp only[go_sem,c109L0b,ZG];rfl⟩)
 obtain⟨fr',h1,h2⟩:=L;have h1':Zg rE [0,1,7,8] c109L0b [(0,.isl bw ex 1<|l.map I),(1,I x),(7,I l.length),(8,.int .i64 0)] []=_:=h1;rw[QE]at h1' h2;rw[ZQE (x==·) l];cases hc:l.all λy=>!(x==y)with
 |true=>
  rw[hc]at h1';exact⟨-1,by rw[Z5 (f:=109) rfl rfl];simp only[go_sem,c109,c109L0,ZXg,h1'],rfl⟩
 |false=>
  rw[hc]at h1';obtain⟨n,hn⟩:=h2 hc;exact⟨n,by rw[Z5 (f:=109) rfl rfl];simp only[go_sem,c109,c109L0,ZXg,h1',hn,ZXB],ZQ7 n⟩
def ZQF(bw ex:Bool)(l:List Int)(hl:l.length<=1000000)(x:Int):pfn rE 48 [.isl bw ex 1<|l.map I,I x]=some (.bool (l.any (x==·))):=by
 obtain⟨n,h,hn⟩:=ZUw bw ex l hl x;rw[Z5 (f:=48) rfl rfl];simp[go_sem,c48,h,hn]
def ZUx(bw ex:Bool)(l:List Str)(hl:l.length<=1000000)(x:Str):∃n:Int,pfn rE 329 [.isl bw ex 1<|l.map encS,.str x]=some (I n)/\decide (n>=0)=l.any (Z3 x):=by
 have L:=Uf (E:=rE) (live:=[0,1,7,8]) (b:=c329L0b) (h:=[]) l (λ_ y=>!Z3 x y) (λi=>[(0,.isl bw ex 1<|l.map encS),(1,.str x),(7,I l.length),(8,I i)]) 0 (λfr=>∃n:Nat,get fr 4=I n) (λi=>rfl)
  (λi y hy hP=>by
   have hg:=Z6 (f:=encS) hy;have hi:=Zh<|Z7 hy;have hw:=Zx (n:=i)<|by grind
   have h1:Z3 x y=false:=by grind
   refine⟨_,by simp only[go_sem,c329L0b,hg,hi,hw,h1,encS];rfl,?_⟩
   simp[go_sem])
  (λi y hy hP=>by
   have hg:=Z6 (f:=encS) hy;have hi:=Zh<|Z7 hy;have h1:Z3 x y=true:=by grind
   refine⟨_,by simp only[go_sem,c329L0b,hg,hi,h1,encS];rfl,i,?_⟩
   simp[go_sem])
  (⟨_,by simp only[go_sem,c329L0b,ZG];rfl⟩)
 obtain⟨fr',h1,h2⟩:=L;have h1':Zg rE [0,1,7,8] c329L0b [(0,.isl bw ex 1<|l.map encS),(1,.str x),(7,I l.length),(8,.int .i64 0)] []=_:=h1;rw[QE]at h1' h2;rw[ZQE (Z3 x) l];cases hc:l.all λy=>!Z3 x y with
 |true=>
  rw[hc]at h1';exact⟨-1,by rw[Z5 (f:=329) rfl rfl];simp only[go_sem,c329,c329L0,ZXg,h1'],rfl⟩
 |false=>
  rw[hc]at h1';obtain⟨n,hn⟩:=h2 hc;exact⟨n,by rw[Z5 (f:=329) rfl rfl];simp only[go_sem,c329,c329L0,ZXg,h1',hn,ZXB],ZQ7 n⟩
def ZUy(bw ex:Bool)(l:List Str)(hl:l.length<=1000000)(x:Str):pfn rE 257 [.isl bw ex 1<|l.map encS,.str x]=some (.bool<|l.any<|Z3 x):=by
 obtain⟨n,h,hn⟩:=ZUx bw ex l hl x;rw[Z5 (f:=257) rfl rfl];simp[go_sem,c257,h,hn]
def ZSc(bw ex:Bool)(l:List Int)(hl:l.length<=1000000)(g:Nat)(cap:List AV)(hc:Z4 cap=true)(P:Int->Bool)(hP:∀x,pfn rE g (I x::cap)=some (.bool<|P x)):
 ∃n:Int,pfn rE 47 [.isl bw ex 1<|l.map I,.clo (.func g) [] cap]=some (I n)/\decide (n>=0)=l.any P:=by
 have L:=Uf (E:=rE) (live:=[0,1,7,8]) (b:=c47L0b) (h:=[]) l (λ_ y=>!P y) (λi=>[(0,.isl bw ex 1<|l.map I),(1,.clo (.func g) [] cap),(7,I l.length),(8,I i)]) 0 (λfr=>∃n:Nat,get fr 4=I n) (λi=>rfl)
  (λi y hy hQ=>by
   have hg:=Z6 (f:=I) hy;have hi:=Zh<|Z7 hy;have hw:=Zx (n:=i)<|by grind
   have h1:P y=false:=by grind
   have h2:=hP y;rw[h1]at h2;refine⟨_,by simp only[go_sem,c47L0b,hg,hi,hw,h2,hc,ZXl];rfl,?_⟩
   simp[go_sem])
  (λi y hy hQ=>by
   have hg:=Z6 (f:=I) hy;have hi:=Zh<|Z7 hy;have h1:P y=true:=by grind
   have h2:=hP y;rw[h1]at h2;refine⟨_,by simp only[go_sem,c47L0b,hg,hi,h2,hc,ZXo,ZXl];rfl,i,?_⟩
   simp only[go_sem])
  (⟨_,by simp only[go_sem,c47L0b,ZG];rfl⟩)
 obtain⟨fr',h1,h2⟩:=L;have h1':Zg rE [0,1,7,8] c47L0b [(0,.isl bw ex 1<|l.map I),(1,.clo (.func g) [] cap),(7,I l.length),(8,.int .i64 0)] []=_:=h1;rw[QE]at h1' h2;rw[ZQE P l];cases hq:l.all λy=>!P y with
 |true=>
  rw[hq]at h1';exact⟨-1,by rw[Z5 (f:=47) rfl rfl];simp only[go_sem,c47,c47L0,ZXg,h1'],rfl⟩
 |false=>
  rw[hq]at h1';obtain⟨n,hn⟩:=h2 hq;exact⟨n,by rw[Z5 (f:=47) rfl rfl];simp only[go_sem,c47,c47L0,ZXg,h1',hn,ZXB],ZQ7 n⟩
def ZSd(ex:Bool)(l:List Int)(hl:l.length<=1000000)(g:Nat)(cap:List AV)(hc:Z4 cap=true)(P:Int->Bool)(hP:∀x,pfn rE g (I x::cap)=some (.bool<|P x)):
 pfn rE 27 [.isl false ex 1<|l.map I,.clo (.func g) [] cap]=some (.bool<|l.any P):=by
 obtain⟨n,h,hn⟩:=ZSc false ex l hl g cap hc P hP;have hz:Z4 [AV.isl false ex 1<|l.map I,.clo (.func g) [] cap]=true:=by
  grind [Z4,clean]
 rw[Z5 (f:=27) rfl rfl];simp[go_sem,c27,h,hn,hz]
structure Off where
 lx:Bool
 Lk:List Int
 cx:Bool
 Cd:List Str
def Off.enc(o:Off):AV:=.agg [.isl false o.lx 1<|o.Lk.map I,.isl false o.cx 1<|o.Cd.map encS]
structure OffS(o:Off):Prop where
 lk:o.Lk.length<=1000
 cd:o.Cd.length<=1000
def ofA(ex:Bool)(l:List Off):AV:=.isl false ex 2<|l.map Off.enc
end Go.AM
namespace Go.AM
open Go
def Z4M(E:Env)(a:E.fn 97=some a97)(b:E.sum 97=none)(v:Str):pfn E 97 [.str v]=some (.str v):=by
 rw[Z5 (f:=97) b a];simp only[go_sem,c97]
def ZGM(E:Env)(c:E.fn 99=some a99)(d:E.sum 99=none)(v:Str)(a b:Int):pfn E 99 [.agg [.str v,I a,I b]]=some (.str v):=by
 rw[Z5 (f:=99) d c];simp only[go_sem,c99]
def ZFO(v:Str):pfn e0 286 [.str v]=some (.bool false):=by
 have a:Z3 v v=true:=by unfold Z3;simp
 rw[Z5 (f:=286) rfl rfl];simp only[go_sem,c286,a,ZXq]
def ZEA(a b:Str):WW a b=decide (a.data.toList<b.data.toList):=by
 unfold WW;rw[Go.Proofs.bytesLess_eq]
def ZFP(a b:Str):pfn e0 185 [.str a,.str b]=some (I<|ZEg a.data.toList b.data.toList):=by
 have h1:=ZFO a;have h2:=ZFO b;unfold ZEg;rw[<-ZEA,<-ZEA];rw[Z5 (f:=185) rfl rfl];cases c:WW a b with
 |true=>simp only[go_sem,c185,h1,h2,c]
 |false=>
  cases d:WW b a with
  |true=>
   have e:Z3 a b=false:=by
    cases h:Z3 a b with
    |false=>rfl
    |true=>
     exfalso;have g:a.data.toList=b.data.toList:=by unfold Z3 at h;simpa using h
     rw[ZEA,g,decide_eq_true_iff]at d;exact List.lt_irrefl _ d
   simp only[go_sem,c185,h1,h2,c,e,ZXv,ZYq]
  |false=>
   have e:Z3 a b=true:=by
    rw[ZEA,decide_eq_false_iff_not]at c d;unfold Z3;simp only[beq_iff_eq];exact List.le_antisymm d c
   simp only[go_sem,c185,h1,h2,c,e,ZXq,ZXY]
def ZEa(k:Nat):AV:=.clo (.func k) [] []
def ZFQ{k:Nat}{a:List AV}(h:ckS k a=true):a=[.iptr false [ZEa k]]:=by
 unfold ckS at h;split at h
 .rw[ZYQ h];rfl
 .cases h
def ZUz(a:List AV)(x y:List UInt8)(h:ckS 97 a=true):∃h',fnV e0 184 ([Qd x,Qd y]++a) []=some (.int .i64<|ZEg x y,h'):=by
 obtain rfl:=ZFQ h;have h1:=Z4M e0 rfl rfl;have h2:=ZFP ⟨x.toArray⟩ ⟨y.toArray⟩;simp only[List.toList_toArray]at h2;unfold Qd ZEa;rw[Q6 (f:=184) rfl rfl];simp only[ZXl,ZXo];exact⟨_,by simp only[go_sem,c184,h1,h2];rfl⟩
def ZE4(s:Str):List Int:=s.data.toList.map λb=>(b.toNat:Int)
def ZEM:∀x y:List UInt8,lexB (x.map λb=>(b.toNat:Int)) (y.map λb=>(b.toNat:Int))=decide (x<y)
 |[],[]=>by simp[lexB]
 |[],_::_=>by simp[lexB]
 |_::_,[]=>by simp[lexB]
 |a::r,b::s=>by
  simp only[ZXn,lexB,ZEM r s];rw[ZZm];simp only[ZZ9,ZXf,decide_eq_true_eq,beq_iff_eq,List.cons_lt_cons_iff,UInt8.lt_iff_toNat_lt,<-UInt8.toNat_inj,Int.ofNat_lt,Int.natCast_inj]
def ZGO(x y:List UInt8):cmpL (x.map λb=>(b.toNat:Int)) (y.map λb=>(b.toNat:Int))=ZEg x y:=by
 unfold cmpL ZEg;rw[ZEM,ZEM]
def ZFR{c:List AV}{x:AV}{k:List Int}(h:ZEm c x=some k):c=[.iptr false [ZEa 99]]/\∃(s:Str)(a b:Int),x=.agg [.str s,I a,I b]/\k=ZE4 s:=by
 unfold ZEm at h;cases d:ckS 99 c with
 |false=>rw[d]at h;cases h
 |true=>
  rw[d,cond_true]at h;refine⟨ZFQ d,?_⟩;unfold ZEf at h;split at h
  .cases h;exact⟨_,_,_,rfl,rfl⟩
  .cases h
def ZUA(c:List AV)(x y:AV)(e d:List Int)(h:ZEm c x=some e)(g:ZEm c y=some d):∃h',fnV e0 187 ([x,y]++c) []=some (.int .i64<|cmpL e d,h'):=by
 obtain⟨rfl,s,a,b,rfl,rfl⟩:=ZFR h;obtain⟨_,t,i,j,rfl,rfl⟩:=ZFR g;have h1:=ZGM e0 rfl rfl;have h2:=ZFP s t;unfold ZE4 ZEa;rw[ZGO,Q6 (f:=187) rfl rfl];simp only[ZXl,ZXo];exact⟨_,by simp only[go_sem,c187,h1,h2];rfl⟩
def ZFS{h:Hp}{b:Nat}{o d:AObj}(a:h[b]?=some d):(setH h b o).length=h.length:=by
 have c:b<h.length:=(ZXu.1 a).1;unfold setH;rw[show Nat.blt b h.length=true by simpa using c,cond_true,ZYG]
def ZE5{n:Nat}{fr:Fr}{h:Hp}(a:h.length=n):Xq n fr h=h:=by
 unfold Xq;rw[ZXz<|by omega]
 cases Zd n (fr.map (·.2))&&X4 n h<;>rfl
def ZUB(args:List AV)(h:Hp)(v:AV)(n:Option<|Nat×AObj)(a:ZE8 (ZE7 97) h args=some (v,n)):fnV e1 96 args h=some (v,ZH h n):=by
 unfold ZE8 at a;split at a
 .rename_i b g off l ex r;split at a
  .rename_i sz es o;cases i:es.length==g&&(off==0&&(l==g&&noP r))with
   |false=>rw[i]at a;cases a
   |true=>
    rw[i,cond_true]at a;simp only[ZXt]at a;obtain⟨es',h1,h2⟩:=a;cases h2;unfold ZE7 at h1;split at h1
    .rename_i k;cases c:Nat.beq k 97&&(sz==1&&(es.all WB&&Nat.ble es.length 1000000))with
     |false=>rw[c]at h1;cases h1
     |true=>
      rw[c]at h1;cases h1;simp only[ZXf,beq_iff_eq]at i c;obtain⟨A,rfl,q,B⟩:=c;obtain rfl:=ZYQ A;obtain⟨rfl,rfl,rfl,_⟩:=i;have j:fnV e1 183 [.sl b es.length 0 es.length ex,.clo (.func 184) [] [.iptr false [.clo (.func 97) [] []]]] h=some (.tup [],setH h b<|.row 1<|Yk es):=by
       rw[V8 (s:=ZEt 184<|ckS 97) rfl];unfold ZEt;simp only[o,q,B,beq_self_eq_true,ZXk,ZXC];rfl
      rw[Q6 (f:=96) rfl rfl];simp only[go_sem,c96,j,ZH,ZE5<|ZFS o]
    .cases h1
  .cases a
 .rename_i bw ex sz r;cases m:noP r with
  |false=>rw[m]at a;cases a
  |true=>
   rw[m,cond_true]at a;split at a
   .rename_i h1;cases a;unfold ZE7 at h1;split at h1
    .rename_i k;have j:∀sz,fnV e1 183 [.isl bw ex sz [],.clo (.func 184) [] [.iptr false [.clo (.func k) [] []]]] h=some (.tup [],h):=λsz=>by
      rw[V8 (s:=ZEt 184<|ckS 97) rfl];rfl
     rw[Q6 (f:=96) rfl rfl];simp only[go_sem,c96,j,ZH,ZE5 (h:=h) rfl]
    .cases h1
   .cases a
 .rename_i b r;split at a
  .rename_i sz e t es w vs _ _ _;cases p:Z4 w&&Z4 vs with
   |false=>rw[p]at a;cases a
   |true=>
    rw[p,cond_true]at a;have d:∀{k:Nat}{x y:List AV}{z:Nat},ZE7 97 (.ptr k 0 0 z::r) sz x=some y->False:=λh=>by
     cases r<;>simp[ZE7]at h
    split at a
    .rename_i u;exact(d u).elim
    .cases a
  .cases a
 .cases a
def ZUC(args:List AV)(h:Hp)(v:AV)(wr:Option<|Nat×AObj)(he:ZE8 (ZEe 99 3 ZEf) h args=some (v,wr)):fnV e1 98 args h=some (v,ZH h wr):=by
 unfold ZE8 at he;split at he
 .rename_i b g off len ex r;split at he
  .rename_i sz es hb;cases hc:es.length==g&&(off==0&&(len==g&&noP r))with
   |false=>rw[hc]at he;cases he
   |true=>
    rw[hc,cond_true]at he;simp only[ZXt]at he;obtain⟨es',h1,h2⟩:=he;cases h2;unfold ZEe at h1;split at h1
    .rename_i k;split at h1
     .rename_i l hl;cases hc2:Nat.beq k 99&&(sz==3&&(Z4 es&&(es.all Zwl&&(es.all (fits 3)&&(ZvJ l&&Nat.ble es.length 1000000)))))with
      |false=>rw[hc2]at h1;cases h1
      |true=>
       rw[hc2]at h1;cases h1;simp only[ZXf,beq_iff_eq]at hc hc2;obtain⟨c1,rfl,c10003,c10004,c10005,c10006,c10007⟩:=hc2;obtain rfl:=ZYQ c1;obtain⟨rfl,rfl,rfl,_⟩:=hc;have hs:fnV e1 186 [.sl b es.length 0 es.length ex,.clo (.func 187) [] [.iptr false [.clo (.func 99) [] []]]] h=some (.tup [],setH h b (.row 3 ((ZvN l).map (·.2)))):=by
        rw[V8 (s:=ZvW 187 3 ZEm) rfl];unfold ZvW;have hk:keysOf (ZEm [.iptr false [.clo (.func 99) [] []]]) es=some l:=hl;cases es with
        |nil=>
         cases hl;simp only[hb];have e1:setH h b (.row 3 [])=h:=RT hb;exact congrArg some<|Prod.ext rfl e1.symm
        |cons a r=>
         simp only[hb,hk,c10003,c10004,c10005,c10006,c10007,beq_self_eq_true,ZXk,ZXC,ZZu,cond_false,ZXv];rfl
       rw[Q6 (f:=98) rfl rfl];simp only[go_sem,c98,hs,ZH,ZE5<|ZFS hb]
     .cases h1
    .cases h1
  .cases he
 .rename_i bw ex sz r;cases hn:noP r with
  |false=>rw[hn]at he;cases he
  |true=>
   rw[hn,cond_true]at he;split at he
   .rename_i h1;cases he;unfold ZEe at h1;split at h1
    .rename_i k;have hs:∀sz,fnV e1 186 [.isl bw ex sz [],.clo (.func 187) [] [.iptr false [.clo (.func k) [] []]]] h=some (.tup [],h):=λsz=>by
      rw[V8 (s:=ZvW 187 3 ZEm) rfl];rfl
     rw[Q6 (f:=98) rfl rfl];simp only[go_sem,c98,hs,ZH,ZE5 (h:=h) rfl]
    .cases h1
   .cases he
 .rename_i b r;split at he
  .rename_i sz e sz2 es ks vs _ _ _;cases hk:Z4 ks&&Z4 vs with
   |false=>rw[hk]at he;cases he
   |true=>
    rw[hk,cond_true]at he;have hnone:∀{k:Nat}{x y:List AV}{z:Nat},ZEe 99 3 ZEf (.ptr k 0 0 z::r) sz x=some y->False:=λh=>by
     cases r<;>simp[ZEe]at h
    split at he
    .rename_i hh;exact(hnone hh).elim
    .cases he
  .cases he
 .cases he
variable [REdz]
def ZD(n a b:Int):Bool:=decide (n>=a)&&decide (n<=b)
def QU(n a b:Int):pfn rE 131 [I n,I a,I b]=some (.bool<|ZD n a b):=by
 rw[Z5 (f:=131) rfl rfl];unfold ZD;cases h:decide (n>=a)<;>simp only[go_sem,c131,h]
def DY(n a b:Int):pfn rE 148 [I n,I a,I b]=some (.bool<|ZD n a b):=by
 rw[Z5 (f:=148) rfl rfl];unfold ZD;cases h:decide (n>=a)<;>simp only[go_sem,c148,h]
def H7(c:Int):Bool:=(decide (c<33)||decide (c>126))||c==34
def Z25(c:Int):pfn rE 324 [.int .i32 c]=some (.bool<|H7 c):=by
 rw[Z5 (f:=324) rfl rfl];unfold H7;cases h1:decide (c<33)<;>cases h2:decide (c>126)<;>simp only[go_sem,c324,h1,h2]
def H8(c:Int):Bool:=((decide (c<48)||decide (c>57))&&(decide (c<97)||decide (c>122)))&&(decide (c<65)||decide (c>90))
def Z26(c:Int):pfn rE 328 [.int .i32 c]=some (.bool<|H8 c):=by
 rw[Z5 (f:=328) rfl rfl];unfold H8;cases h1:decide (c<48)<;>cases h2:decide (c>57)<;>cases d:decide (c<97)<;>cases b:decide (c>122)<;>cases a:decide (c<65)<;>simp only[go_sem,c328,h1,h2,d,b,a]
def Jm(s:Str)(a:Int):Bool:=!Z3 s emp&&(decide ((s.size:Int)<=a)&&!H6 H7 s)
def DZ(s:Str)(a:Int):pfn rE 246 [.str s,I a]=some (.bool<|Jm s a):=by
 have h:=DX H7 324 Z25 s;rw[Z5 (f:=246) rfl rfl];unfold Jm;cases h1:Z3 s emp<;>cases h2:decide ((s.size:Int)<=a)<;>simp only[go_sem,c246,h1,h2,h]
def Uu(s:Str):Bool:=!Z3 s emp&&(decide ((s.size:Int)<=60)&&!H6 H8 s)
def Z27(s:Str):pfn rE 253 [.str s]=some (.bool<|Uu s):=by
 have h:=DX H8 328 Z26 s;rw[Z5 (f:=253) rfl rfl];unfold Uu;cases h1:Z3 s emp<;>cases h2:decide ((s.size:Int)<=60)<;>simp only[go_sem,c253,h1,h2,h]
def ZUD{E:Env}{g:Nat}{args:List AV}{b:Bool}(h:pfn E g args=some (.bool b)):∃h',fnV E g args []=some (.bool b,h'):=by
 unfold pfn at h;cases c:fnV E g args []with
 |none=>rw[c]at h;cases h
 |some r=>
  obtain⟨v,h'⟩:=r;rw[c]at h;have h2:YE h' v=some (.bool b):=h;refine⟨h',?_⟩;unfold YE at h2;cases d:clean v with
  |true=>rw[d,cond_true]at h2;cases h2;rfl
  |false=>
   rw[d,cond_false]at h2;exfalso;unfold freeze at h2;rw[d,cond_false]at h2;split at h2<;>first|cases h2|(revert h2;simp only[Bool.cond_eq_ite];(repeat' split)<;>simp;done)|simp[cond]at h2
def ZSe(fr:Fr)(h:Hp)(hb:Zd 0 (frV fr)=true):Xq 0 fr h=[]:=by
 show(bif Zd 0 (frV fr)&&X4 0 (h.take 0)then h.take 0 else h)=[]
 rw[hb,List.take_zero];rfl
def ZSf(p:Str->Bool)(g:Nat)(a:∀x,pfn rE g [.str x]=some (.bool<|p x))(bw ex:Bool)(l:List Str)(b:l.length<=1000000):
 ∀(k i:Nat),k+i=l.length->∃fr',Zg rE [0,1,7,8] c100L0b [(0,.isl bw ex 1<|l.map encS),(1,.clo (.func g) [] []),(7,I l.length),(8,I i)] [] =
  some (if Zp p (l.drop i) i=-1 then .exit 0 else .ret,fr',[])/\(Zp p (l.drop i) i≠-1->get fr' 4=I (Zp p (l.drop i) i))
 |0,i,hk=>by
  have hi:i=l.length:=by omega
  subst hi;rw[ZYD<|ZXh _];unfold Zp;exact⟨_,Q7 rfl (e:=.exit 0) (by simp only[go_sem,c100L0b,ZG];rfl) (by simp),λh=>absurd rfl h⟩
 |k+1,i,hk=>by
  have hlt:i<l.length:=by omega
  have hx:l[i]?=some l[i]:=ZXj hlt;have hg:=Z6 (f:=encS) hx;have hi':=Zh hlt;have hw:=Zx (n:=i)<|by omega
  rw[ZXP hlt];generalize l[i]=d at*;obtain⟨h',h77⟩:=ZUD<|a d;unfold Zp;unfold encS at*;cases h:p d with
  |true=>
   rw[h]at h77;rw[cond_true];refine⟨_,by rw[if_neg<|by omega];exact Q7 rfl (e:=.ret) (by simp only[go_sem,c100L0b,hg,hi',h77,ZSe];rfl) (by simp),λ_=>?_⟩
   simp only[go_sem]
  |false=>
   rw[h]at h77;rw[cond_false];obtain⟨fr',h1,h2⟩:=ZSf p g a bw ex l b k (i+1)<|by omega
   refine⟨fr',?_,h2⟩;rw[Yt rfl (fr':=[(0,.isl bw ex 1<|l.map λt=>.str t),(1,.clo (.func g) [] []),(4,.bot),(7,I l.length),(8,I ((i+1:Nat):Int))]) (h':=[]) (by
    simp only[go_sem,c100L0b,hg,hi',hw,h77,ZSe])]
   exact h1
def ZUE(p:Str->Bool)(g:Nat)(a:∀x,pfn rE g [.str x]=some (.bool<|p x))(bw ex:Bool)(l:List Str)(b:l.length<=1000000):pfn rE 100 [.isl bw ex 1<|l.map encS,.clo (.func g) [] []]=some (.int .i64<|Zp p l 0):=by
 obtain⟨fr',L,L2⟩:=ZSf p g a bw ex l b l.length 0<|by omega
 rw[ZXS]at L L2;have L':Zg rE [0,1,7,8] c100L0b [(0,.isl bw ex 1<|l.map encS),(1,.clo (.func g) [] []),(7,I l.length),(8,.int .i64 0)] []=some (if Zp p l 0=-1 then .exit 0 else .ret,fr',[]):=L
 rw[Z5 (f:=100) rfl rfl];by_cases c:Zp p l 0=-1
 .rw[if_pos c]at L';simp only[go_sem,c100,c100L0,ZXg,L',c]
 .rw[if_neg c]at L';have h4:get fr' 4=I (Zp p l 0):=L2 c;simp only[go_sem,c100,c100L0,ZXg,L',h4]
def F0(p:Str->Bool)(g:Nat)(a:∀x,pfn rE g [.str x]=some (.bool<|p x))(l:List Str)(bw ex:Bool)(b:l.length<=1000000):pfn rE 320 [.isl bw ex 1<|l.map encS,.clo (.func g) [] []]=some (.bool<|l.any p):=by
 have h1:=ZUE p g a bw ex l b;rw[Z5 (f:=320) rfl rfl,<-Vg];unfold WG;cases bw<;>simp only[go_sem,c320,h1]
def Yy(s:Str):List Str:=(Q4 32 s.data.toList).map λl=>⟨⟨l⟩⟩
def Z28(s:Str)(f:s.size<=1000000):pfn rE 377 [.str s,.str<|B [32]]=some (.isl false false 1<|(Yy s).map encS):=by
 unfold pfn;rw[V8 (s:=Ja) rfl];have e:Ja [.str s,.str<|B [32]] []=some (.sl 0 (Yy s).length 0 (Yy s).length false,[.row 1<|(Yy s).map encS]):=by
  have a:Nat.blt s.size 4294967281=true:=ZXH<|by omega
  have b:(Q4 32 s.data.toList).map Qd=(Yy s).map encS:=by
   unfold Yy;rw[ZYc];rfl
  show(bif Nat.blt s.size 4294967281 then some (AV.sl 0 (Q4 32 s.data.toList).length 0 (Q4 32 s.data.toList).length false,[AObj.row 1<|(Q4 32 s.data.toList).map Qd])else none)=_
  rw[a,b];simp[Yy]
 rw[e];have c:Z4 ((Yy s).map encS)=true:=Zw (λt=>rfl) _
 have d:((Yy s).map encS).take (Yy s).length=(Yy s).map encS:=ZXz<|by simp
 simp only[go_sem,ZM,beq_self_eq_true,d,c]
def F1(c:UInt8):∀l:List UInt8,(Q4 c l).length<=l.length+1
 |[]=>by simp[Q4]
 |x::r=>by
  have:=F1 c r;unfold Q4;cases x==c with
  |true=>simp;omega
  |false=>
   simp only[cond_false];cases h:Q4 c r with
   |nil=>simp
   |cons w ws=>rw[h]at this;simp at this⊢;omega
def H9(w:Str):Bool:=!Jm w 60
def Z29(w:Str):pfn rE 378 [.str w]=some (.bool<|H9 w):=by
 rw[Z5 (f:=378) rfl rfl];unfold H9;simp only[go_sem,c378,DZ]
def Uv(s:Str):Bool:=decide ((s.size:Int)<=60)&&!(Yy s).any H9
def F3(s:Str):pfn rE 317 [.str s]=some (.bool<|Uv s):=by
 rw[Z5 (f:=317) rfl rfl];unfold Uv;cases h1:decide ((s.size:Int)<=60)with
 |false=>simp only[go_sem,c317,h1]
 |true=>
  have b:(Yy s).length<=1000000:=by
   have h2:=F1 32 s.data.toList;have d:s.data.toList.length=s.size:=ZXZ;have c:=of_decide_eq_true h1;unfold Yy;rw[ZXg];omega
  have h:=F0 H9 378 Z29 (Yy s) false false b;have a:=Z28 s (by have:=of_decide_eq_true h1;omega)
  simp only[go_sem,c317,h1,a,h]
def Ha(s:Str):Bool:=!ZZ s
def Z2a(s:Str):pfn rE 321 [.str s]=some (.bool<|Ha s):=by
 rw[Z5 (f:=321) rfl rfl];unfold Ha;simp only[go_sem,c321,Jl]
def Qv(l:List Str):Bool:=XH Z3 l&&!l.any Ha
def Uw(l:List Str)(bw ex:Bool)(a:l.length<=1000000):pfn rE 240 [.isl bw ex 1<|l.map encS]=some (.bool<|Qv l):=by
 have h1:=Z21 l bw ex a;have h2:=F0 Ha 321 Z2a l bw ex a;rw[Z5 (f:=240) rfl rfl];unfold Qv;cases b:XH Z3 l<;>rw[b]at h1<;>cases bw<;>simp only[go_sem,c240,h1,h2]
def K5(a b:Int):Bool:=ZD a 0 63&&(ZD b 0 63&&a != b)
def Z2b(a b:Int):pfn rE 232 [I a,I b]=some (.bool<|K5 a b):=by
 rw[Z5 (f:=232) rfl rfl];unfold K5;cases h1:ZD a 0 63<;>cases h2:ZD b 0 63<;>simp only[go_sem,c232,QU,h1,h2]
def Ux(a:Bool)(x:Ent):Bool:=!gOn x.bg||(a&&!QK x.bg ⟨0,0⟩)
def Z2c(a:Bool)(x:Ent):pfn rE 327 [x.enc,.iptr false [.bool a]]=some (.bool<|Ux a x):=by
 have b:(x.bg.X==0&&x.bg.Y==0)=QK x.bg ⟨0,0⟩:=rfl;rw[Z5 (f:=327) rfl rfl];unfold Ux;cases h1:gOn x.bg<;>cases a<;>simp only[go_sem,c327,Ent.enc,W8,h1,b]
def Vk(l:List Ent)(a:Bool):Bool:=!l.any (Ux a)
def F4(l:List Ent)(ex a:Bool)(b:l.length<=1000000):pfn rE 249 [.isl false ex 7<|l.map Ent.enc,.bool a]=some (.bool<|Vk l a):=by
 have h1:=WF (E:=rE) (f:=274) (sz:=7) (n:=some 7) (enc:=Ent.enc) (p:=Ux a) (g:=327) (cap:=[.iptr false [.bool a]]) rfl rfl rfl l (by omega) (λx _=>x.el) (λx _=>Z2c a x) false ex
 have h2:pfn rE 166 [.isl false ex 7<|l.map Ent.enc,.clo (.func 327) [] [.iptr false [.bool a]]]=some (.bool<|l.any<|Ux a):=by
  rw[Z5 (f:=166) rfl rfl,<-Vg];unfold WG;simp only[go_sem,c166,h1]
 rw[Z5 (f:=249) rfl rfl];unfold Vk;simp only[go_sem,c249,h2]
def Uy(n:Nm):Bool:=ZZ n.Lang&&(ZD n.Script 0 7&&Uv n.Text)
def Xh(n:Nm):Nm:=⟨n.Lang,n.Script,emp⟩
def Uz(l:List Nm):Bool:=l.all Uy&&(ZD l.length 1 8&&XH Xg (l.map Xh))
def YW{α a:Type}(f:α->a){l:List α}{i:Nat}{x:α}(h:l[i]?=some x):(l.take<|i+1).map f=(l.take i).map f++[f x]:=by
 rw[ZYm,h];simp
def take_len{α:Type}{l:List α}{i:Nat}{x:α}(h:l[i]?=some x):(l.take i).length=i:=by
 have:=Z7 h;rw[ZXX];omega
def Z2d(l:List Nm)(ex:Bool)(y:l.length<=1000000):pfn rE 238 [.isl false ex 3<|l.map Nm.enc]=some (.bool<|Uz l):=by
 have m:∀K:List Nm,Z4 (K.map Nm.enc)=true:=λK=>Zw (λt=>rfl) K
 have a:∀n(K:List Nm),Zd n (K.map Nm.enc)=true:=λn K=>ZN _<|m K
 have L:=Jk (E:=rE) (live:=[0,3,6,7,8]) (b:=c238L0b) l (λ_ x=>Uy x)
  (λi=>[(0,.isl false ex 3<|l.map Nm.enc),(3,.sl 0 i 0 i false),(6,.isl false ex 3<|l.map Nm.enc),(7,I l.length),(8,I i)])
  (λi=>[.row 3<|((l.take i).map Xh).map Nm.enc]) 0
  (λfr h=>get fr 0=.isl false ex 3 (l.map Nm.enc)/\get fr 2=.bot/\get fr 3=.sl 0 l.length 0 l.length false/\h=[.row 3<|(l.map Xh).map Nm.enc])
  (λfr h=>get fr 2=.bool false) (λi=>rfl)
  (λi x hx hP=>by
   have e:=Z6 (f:=Nm.enc) hx;have o:=Zh<|Z7 hx;have s:=Zx (n:=i) (by have:=Z7 hx;omega)
   have A:=YW Xh hx;have j:((l.take i).map Xh).length=i:=by rw[ZXg];exact take_len hx
   rw[A,ZXx];have d:ZZ x.Lang=true/\ZD x.Script 0 7=true/\Uv x.Text=true:=by simpa only[Uy,ZXf]using hP
   generalize(l.take i).map Xh=K at j⊢;subst j;have k:=XC (h:=[.row 3<|K.map Nm.enc,.row 3 [.agg [.str x.Lang,I x.Script,.str emp]]]) (fz:=false) (b:=0) (g:=K.length) (sz:=3) (es:=K.map Nm.enc) (bw:=false) (ex:=false) (ys:=[.agg [.str x.Lang,I x.Script,.str emp]]) (bytes:=40) (by simp[rowAt]) rfl (by rfl) (by omega) (by omega) (by have:=Z7 hx;simp;omega)
   refine⟨_,by simp only[go_sem,c238L0b,e,o,s,Nm.enc,Jl,QU,F3,d.1,d.2.1,d.2.2,beq_self_eq_true,k,a];rfl,?_⟩
   simp only[go_sem])
  (λi x hx hP=>by
   have e:=Z6 (f:=Nm.enc) hx;have o:=Zh<|Z7 hx;have j:((l.take i).map Xh).length=i:=by rw[ZXg];exact take_len hx
   generalize(l.take i).map Xh=K at j⊢;subst j;unfold Uy at hP;cases h1:ZZ x.Lang with
   |false=>
    refine⟨_,_,by simp only[go_sem,c238L0b,e,o,Nm.enc,Jl,h1,a];rfl,?_⟩
    simp only[go_sem]
   |true=>
   cases h2:ZD x.Script 0 7 with
   |false=>
    refine⟨_,_,by simp only[go_sem,c238L0b,e,o,Nm.enc,Jl,QU,h1,h2,a];rfl,?_⟩
    simp only[go_sem]
   |true=>
    have r:Uv x.Text=false:=by simpa[h1,h2]using hP
    refine⟨_,_,by simp only[go_sem,c238L0b,e,o,Nm.enc,Jl,QU,F3,h1,h2,r,a];rfl,?_⟩
    simp only[go_sem])
  (⟨_,_,by simp only[go_sem,c238L0b,ZG,ZXG];rfl,by
    refine⟨?_,?_,?_,?_⟩<;>simp only[go_sem]⟩)
 rw[QE]at L;obtain⟨fr',h',h1,h2,r⟩:=L;have c:Zg rE [0,3,6,7,8] c238L0b [(0,.isl false ex 3<|l.map Nm.enc),(3,.sl 0 0 0 0 false),(6,.isl false ex 3<|l.map Nm.enc),(7,I l.length),(8,.int .i64 0)] [.row 3 []]=_:=h1;rw[Z5 (f:=238) rfl rfl];unfold Uz;cases p:l.all Uy with
 |false=>
  rw[p]at c;have e:=r p;simp only[go_sem,c238,c238L0,c,e,ZXB]
 |true=>
  rw[p]at c;obtain⟨u,B,w,rfl⟩:=h2 p;have v:=Z23 (l.map Xh) false false<|by simpa using y
  have z:(l.map Xh).length=l.length:=ZXg ..;have q:List.take l.length ((l.map Xh).map Nm.enc)=(l.map Xh).map Nm.enc:=ZXz<|by simp
  cases s:ZD l.length 1 8<;>simp only[go_sem,c238,c238L0,c,u,B,w,QU,s,m,a,beq_self_eq_true,q,v]
def Yd(e:Ent):Str:=e.Id
def Yl(e:Ent):HN:=e.An
def K6(e:Ent):Bool:=YO e.An
def Xi(l:List Ent)(a:List Str):Bool:=l.all K6&&(Qv (a++l.map Yd)&&XH QL (l.map Yl))
def NE{h:Hp}{aid b g sz bytes:Nat}{es ys:List AV}{bw ex fz:Bool}(a:rowAt h b g=some (sz,es))(e:ys.isEmpty=false)(j:ys.all (fits sz)=true)(i:0<sz)(h1:0<bytes)(h2:(g+ys.length)*bytes<=140737488355328):
 Qt h aid fz sz bytes (.sl b g 0 g false) (.isl bw ex sz ys)=some (.sl b (g+ys.length) 0 (g+ys.length) false,[b],some (b,.row sz<|es++ys)):=by
 unfold rowAt at a;cases d:h[b]? with
 |none=>rw[d]at a;cases a
 |some o=>
  rw[d]at a;cases o with
  |row sz' es'=>
   dsimp only at a;cases c:(es'.length==g)with
   |false=>rw[c]at a;cases a
   |true=>
    rw[c]at a;simp only[cond_true,Option.some.injEq,Prod.mk.injEq]at a;obtain⟨rfl,rfl⟩:=a;have f:es'.length=g:=by simpa using c
    have k:List.take g es'=es':=ZXz<|by omega
    subst f;simp only[Qt,Q2,d,c,cond_true,ZXS,k,Qq,beq_self_eq_true,ZXE,i,h1,h2,and_self,if_true,e,cond_false,j,ZY3,Zs]
  |_=>cases a
def Z2e{h:Hp}{aid sz bytes:Nat}{es ys:List AV}{bw bw2 ex:Bool}(b:ys.isEmpty=false)(a:0<sz)(h1:0<bytes)(h2:(es.length+ys.length)*bytes<=140737488355328):
 Qt h aid false sz bytes (.isl bw true sz es) (.isl bw2 ex sz ys)=some (.sl aid (es++ys).length 0 (es++ys).length false,[],some (aid,.row sz<|es++ys)):=by
 simp only[Qt,Q2,Qq,beq_self_eq_true,ZXE,a,h1,h2,and_self,if_true,b,cond_false,Yp,Zs,ZXr]
def F5(x:AObj):setH [] 0 x=[x]:=(rfl)
def liS(v:AV)(m i:Nat)(n:Nat)(a:AV):Fr:=
 [(1,if i=0 then a else .sl 2 (m+i) 0 (m+i) false),(5,.sl 0 i 0 i false),(8,v),(9,I n),(10,I i)]
def liH(l:List Ent)(a:List Str)(i:Nat):Hp:=
 if i=0 then [.row 4 []]else [.row 4<|((l.take i).map Yl).map HN.enc,.row 7<|(l.take 1).map Ent.enc,.row 1<|(a++(l.take i).map Yd).map encS]
def F6(l:List Ent)(ex:Bool)(a:List Str)(bw:Bool)(hl:l.length<=1000)(hm:a.length<=1000):pfn rE 248 [.isl false ex 7<|l.map Ent.enc,.isl bw true 1<|a.map encS]=some (.bool<|Xi l a):=by
 have P:∀K:List Str,Z4 (K.map encS)=true:=λK=>Zw (λt=>rfl) K
 have O:∀K:List HN,Z4 (K.map HN.enc)=true:=λK=>Zw (λt=>rfl) K
 have F:∀n(K:List Str),Zd n (K.map encS)=true:=λn K=>ZN _<|P K
 have C:∀n(K:List HN),Zd n (K.map HN.enc)=true:=λn K=>ZN _<|O K
 have ab:∀n(K:List Ent),Zd n (K.map Ent.enc)=true:=λn K=>ZN _<|Zw (λt=>rfl) K
 have L:=Jk (E:=rE) (live:=[1,5,8,9,10]) (b:=c248L0b) l (λ_ x=>K6 x)
  (λi=>liS (.isl false ex 7<|l.map Ent.enc) a.length i l.length<|.isl bw true 1<|a.map encS) (liH l a) 0
  (λfr h=>get fr 1=(if l.length=0 then .isl bw true 1 (a.map encS)else .sl 2 (a.length+l.length) 0 (a.length+l.length) false)/\get fr 4=.bot/\get fr 5=.sl 0 l.length 0 l.length false/\h=liH l a l.length)
  (λfr h=>get fr 4=.bool false) (λi=>rfl)
  (λi x hx hP=>by
   have A:=Z6 (f:=Ent.enc) hx;have u:=Zh<|Z7 hx;have af:=Z7 hx;have hw:=Zx (n:=i) (by have:=Z7 hx;omega)
   have hN:=YW Yl hx;have hS:=YW Yd hx;have q:((l.take i).map Yl).length=i:=by rw[ZXg];exact take_len hx
   have B:((l.take i).map Yd).length=i:=by rw[ZXg];exact take_len hx
   have o:YO x.An=true:=hP;have h1:(l.take 1).map Ent.enc=(l.take 1).map Ent.enc:=rfl;rcases i with _|j
   .have D:l.take 1=[x]:=by
     have:=YW id hx;simpa using this
    have e1:liH l a (0+1)=[.row 4 [.agg [I x.An.N,.str x.An.bn,I x.An.Num,I x.An.Den]],.row 7 [.agg [.str x.Id,I x.An.N,.str x.An.bn,I x.An.Num,I x.An.Den,I x.bg.X,I x.bg.Y]],.row 1<|a.map encS++[.str x.Id]]:=by
     simp only[liH,ZXA,D,ZXx];rfl
    rw[e1];have V:=Z2e (h:=[.row 4 [],.row 7 [.agg [.str x.Id,I x.An.N,.str x.An.bn,I x.An.Num,I x.An.Den,I x.bg.X,I x.bg.Y]]]) (aid:=2) (sz:=1) (bytes:=16) (es:=a.map encS) (ys:=[.str x.Id]) (bw:=bw) (bw2:=false) (ex:=false) rfl (by omega) (by omega) (by simp;omega)
    have S:=NE (aid:=3) (h:=[.row 4 [],.row 7 [.agg [.str x.Id,I x.An.N,.str x.An.bn,I x.An.Num,I x.An.Den,I x.bg.X,I x.bg.Y]],.row 1<|a.map encS++[.str x.Id]]) (fz:=false) (b:=0) (g:=0) (sz:=4) (es:=[]) (bw:=false) (ex:=false) (ys:=[.agg [I x.An.N,.str x.An.bn,I x.An.Num,I x.An.Den]]) (bytes:=40) (by simp[rowAt]) rfl (by rfl) (by omega) (by omega) (by simp)
    refine⟨_,by simp only[go_sem,c248L0b,liS,liH,A,u,hw,Ent.enc,Ji,o,beq_self_eq_true,V,S,appW,ZM,ZH,wrB,ZXR,F5];rfl,?_⟩
    simp only[go_sem,liS,ZXA,Nat.one_ne_zero]
   .have D:∃y,l.take 1=[y]:=by
     rcases l with _|⟨y,r⟩
     .simp at hx
     .exact⟨y,by simp⟩
    obtain⟨y,s⟩:=D;have e1:liH l a (j+1+1)=[.row 4<|((l.take<|j+1).map Yl).map HN.enc++[.agg [I x.An.N,.str x.An.bn,I x.An.Num,I x.An.Den]],.row 7 [Ent.enc y],.row 1<|(a++(l.take<|j+1).map Yd).map encS++[.str x.Id]]:=by
     simp only[liH,ZZ1,if_false,hN,hS,s,ZXx];simp only[ZY0];rfl
    have W:liH l a (j+1)=[.row 4<|((l.take<|j+1).map Yl).map HN.enc,.row 7 [Ent.enc y],.row 1<|(a++(l.take<|j+1).map Yd).map encS]:=by
     simp only[liH,ZZ1,if_false,s];rfl
    rw[W,e1];have d:∀n,bel n (Ent.enc y)=true:=λn=>rfl
    generalize Ent.enc y=ey at d⊢;have v:(a++(l.take<|j+1).map Yd).length=a.length+(j+1):=by rw[ZXy,B]
    generalize(l.take<|j+1).map Yl=KN at q⊢;generalize a++(l.take<|j+1).map Yd=KS at v⊢;have V:=NE (aid:=4) (h:=[.row 4<|KN.map HN.enc,.row 7 [ey],.row 1<|KS.map encS,.row 7 [.agg [.str x.Id,I x.An.N,.str x.An.bn,I x.An.Num,I x.An.Den,I x.bg.X,I x.bg.Y]]]) (fz:=false) (b:=2) (g:=a.length+(j+1)) (sz:=1) (es:=KS.map encS) (bw:=false) (ex:=false) (ys:=[.str x.Id]) (bytes:=16) (by simp[rowAt,v]) rfl (by rfl) (by omega) (by omega) (by simp;omega)
    have S:=NE (aid:=4) (h:=[.row 4<|KN.map HN.enc,.row 7 [ey],.row 1<|KS.map encS++[.str x.Id],.row 7 [.agg [.str x.Id,I x.An.N,.str x.An.bn,I x.An.Num,I x.An.Den,I x.bg.X,I x.bg.Y]]]) (fz:=false) (b:=0) (g:=j+1) (sz:=4) (es:=KN.map HN.enc) (bw:=false) (ex:=false) (ys:=[.agg [I x.An.N,.str x.An.bn,I x.An.Num,I x.An.Den]]) (bytes:=40) (by simp[rowAt,q]) rfl (by rfl) (by omega) (by omega) (by simp;omega)
    refine⟨_,by simp only[go_sem,c248L0b,liS,ZZ1,if_false,A,u,hw,Ent.enc,Ji,o,beq_self_eq_true,V,S,appW,ZM,ZH,wrB,F,C,d,ZXR];rfl,?_⟩
    simp only[go_sem,liS,ZZ1,if_false,ZYx])
  (λi x hx hP=>by
   have A:=Z6 (f:=Ent.enc) hx;have u:=Zh<|Z7 hx;have o:YO x.An=false:=hP;rcases i with _|j
   .refine⟨_,_,by simp only[go_sem,c248L0b,liS,liH,A,u,Ent.enc,Ji,o];rfl,?_⟩
    simp only[go_sem]
   .have D:∃y,l.take 1=[y]:=by
     rcases l with _|⟨y,r⟩
     .simp at hx
     .exact⟨y,by simp⟩
    obtain⟨y,s⟩:=D;have W:liH l a (j+1)=[.row 4<|((l.take<|j+1).map Yl).map HN.enc,.row 7 [Ent.enc y],.row 1<|(a++(l.take<|j+1).map Yd).map encS]:=by
     simp only[liH,ZZ1,if_false,s];rfl
    rw[W];have d:∀n,bel n (Ent.enc y)=true:=λn=>rfl
    generalize Ent.enc y=ey at d⊢;generalize(l.take<|j+1).map Yl=KN;generalize a++(l.take<|j+1).map Yd=KS;refine⟨_,_,by simp only[go_sem,c248L0b,liS,ZZ1,if_false,A,u,Ent.enc,Ji,o,beq_self_eq_true,F,C,d];rfl,?_⟩
    simp only[go_sem])
  (by
   refine⟨_,_,by simp only[go_sem,c248L0b,liS,ZG];rfl,?_,?_,?_,?_⟩
   .simp only[go_sem]
   .simp only[go_sem]
   .simp only[go_sem]
   .unfold liH;split<;>simp only[go_sem])
 rw[QE]at L;obtain⟨fr',h',h1,h2,h3⟩:=L;have k:Zg rE [1,5,8,9,10] c248L0b [(1,.isl bw true 1<|a.map encS),(5,.sl 0 0 0 0 false),(8,.isl false ex 7<|l.map Ent.enc),(9,I l.length),(10,.int .i64 0)] [.row 4 []]=_:=h1;rw[Z5 (f:=248) rfl rfl];unfold Xi;have ad:(λx=>K6 x)=K6:=rfl
 cases hc:l.all K6 with
 |false=>
  have p:(l.all λx=>K6 x)=false:=hc
  rw[p]at k;have A:=h3 p;simp only[go_sem,c248,c248L0,k,A,ZXB]
 |true=>
  have p:(l.all λx=>K6 x)=true:=hc
  rw[p]at k;obtain⟨g1,g4,g5,rfl⟩:=h2 p;have m:=λ(b e:Bool)=>Uw (a++l.map Yd) b e<|by simp;omega
  have G:=Z22 (l.map Yl) false false<|by simp;omega
  rcases l with _|⟨y,r⟩
  .have e:a++([]:List Ent).map Yd=a:=by simp
   rw[e]at m⊢;have c:=m bw true;have H:pfn rE 326 [.isl false false 4 []]=some (.bool<|XH QL<|([]:List Ent).map Yl):=G;have aa:get fr' 1=.isl bw true 1 (a.map encS):=g1;have U:get fr' 5=.sl 0 0 0 0 false:=g5;have M:Zg rE [1,5,8,9,10] c248L0b [(1,.isl bw true 1<|a.map encS),(5,.sl 0 0 0 0 false),(8,.isl false ex 7 []),(9,.int .i64 ((0:Nat):Int)),(10,.int .i64 0)] [.row 4 []]=some (.exit 0,fr',[.row 4 []]):=k;cases u:Qv a<;>rw[u]at c<;>cases bw<;>simp only[go_sem,c248,c248L0,M,aa,g4,U,c,H,beq_self_eq_true]
  .generalize J:y::r=l at*;have w:(l.length=0)=False:=by rw[<-J];simp
   obtain⟨z,hz⟩:∃z,l.take 1=[z]:=⟨y,by rw[<-J];rfl⟩
   have T:l.take l.length=l:=ZXG;simp only[w,if_false]at g1;have Q:∀n,Zd n ([z].map Ent.enc)=true:=λn=>ab n _
   have q:(l.map Yl).length=l.length:=ZXg ..;have B:(a++l.map Yd).length=a.length+l.length:=by simp
   have R:List.take l.length ((l.map Yl).map HN.enc)=(l.map Yl).map HN.enc:=ZXz<|by simp
   have ac:List.take (a.length+l.length) ((a++l.map Yd).map encS)=(a++l.map Yd).map encS:=ZXz<|by simp
   have c:=m false false;have ae:(l.length==0)=false:=by rw[beq_eq_false_iff_ne];intro h;rw[w]at h;exact h
   have hH:liH l a l.length=[.row 4<|(l.map Yl).map HN.enc,.row 7<|[z].map Ent.enc,.row 1<|(a++l.map Yd).map encS]:=by
    simp only[liH,w,if_false,T,hz]
   rw[hH]at k;generalize([z].map Ent.enc)=Z at Q k;generalize l.map Yl=KN at*;generalize a++l.map Yd=KS at*;cases u:Qv KS<;>rw[u]at c<;>simp only[go_sem,c248,c248L0,k,g1,g4,g5,c,G,beq_self_eq_true,C,P,O,Q,q,B,R,ac,if_true]
abbrev evA(e:Gt):AV:=.agg [I e.br,I e.Day,I e.A,I e.B,I e.bz,.str e.Id,.str e.bv,.str e.Text,.isl false e.Ids.ex 1<|e.Ids.l.map encS,.isl false e.bm.ex 3<|e.bm.l.map Nm.enc,
 I e.An.N,.str e.An.bn,I e.An.Num,I e.An.Den,I e.bg.X,I e.bg.Y,.isl false e.Path.ex 2<|e.Path.l.map Pt.enc,.isl false e.Lst.ex 7<|e.Lst.l.map Ent.enc]
structure EvS(e:Gt):Prop where
 ids:e.Ids.l.length<=100
 names:e.bm.l.length<=100
 path:e.Path.l.length<=100
 lst:e.Lst.l.length<=10
 id:e.Id.size<=1000
 other:e.bv.size<=1000
 text:e.Text.size<=1000
def F7(fn:Fn):Option (List AV)->Option (List AV)->Option AV
 |some f,some c=>some<|.clo fn f c
 |_,_=>none
def Z2f(fn:Fn)(f c:List AV):F7 fn (some f) (some c)=some (.clo fn f c):=rfl
def Z2g(bw:Bool)(h:Hp)(n:Nat)(fn:Fn)(a c:List AV)(b:(Z4 a&&Z4 c)=false):freeze bw h (n+1) (.clo fn a c)=F7 fn (ZC bw h n a) (ZC bw h n c):=by
 conv=>lhs;unfold freeze
 have:clean (.clo fn a c)=false:=b;rw[this,cond_false];dsimp only;cases ZC bw h n a<;>cases ZC bw h n c<;>rfl
attribute [go_sem] Z2f Z2g
def n0:AV:=.iptr false [.clo (.func 229) [] []]
def Vl(e:Gt):pfn rE 229 [evA e]=some (.bool<|ZZ e.Id):=by
 rw[Z5 (f:=229) rfl rfl];simp only[go_sem,c229,Jl]
def F8(e:Gt):pfn rE 231 [evA e]=some (.bool<|K5 e.A e.B):=by
 rw[Z5 (f:=231) rfl rfl];simp only[go_sem,c231,Z2b]
def Z2h(e:Gt):pfn rE 239 [evA e]=some (.bool<|Qv [e.Id,e.bv]):=by
 have h:pfn rE 240 [.isl false false 1 [.str e.Id,.str e.bv]]=some (.bool<|Qv [e.Id,e.bv]):=Uw [e.Id,e.bv] false false<|by simp
 rw[Z5 (f:=239) rfl rfl];simp only[go_sem,c239,h]
def Z2i(e:Gt)(b:EvS e):pfn rE 233 [evA e,.iptr false [.clo (.func 229) [] []]]=some (.bool<|ZZ e.Id&&(ZD e.A 1 3&&Vh e.Path.l)):=by
 have a:=Dz e.Path.l e.Path.ex (by have:=b.path;omega)
 rw[Z5 (f:=233) rfl rfl];have h1:=Vl e;cases d:ZZ e.Id<;>rw[d]at h1<;>cases c:ZD e.A 1 3<;>simp only[go_sem,c233,h1,QU,c,a]
def Z2j(e:Gt)(b:EvS e):pfn rE 235 [evA e,.iptr false [.clo (.func 229) [] []]]=some (.bool<|ZZ e.Id&&Ul e.Path.l):=by
 have a:=Z1o e.Path.l e.Path.ex (by have:=b.path;omega)
 rw[Z5 (f:=235) rfl rfl];have h1:=Vl e;cases c:ZZ e.Id<;>rw[c]at h1<;>simp only[go_sem,c235,h1,a]
def Z2k(e:Gt)(b:EvS e):pfn rE 237 [evA e,.iptr false [.clo (.func 229) [] []]]=some (.bool<|ZZ e.Id&&Uz e.bm.l):=by
 have a:=Z2d e.bm.l e.bm.ex (by have:=b.names;omega)
 rw[Z5 (f:=237) rfl rfl];have h1:=Vl e;cases c:ZZ e.Id<;>rw[c]at h1<;>simp only[go_sem,c237,h1,a]
def Z2l(e:Gt)(b:EvS e):pfn rE 241 [evA e,.iptr false [.clo (.func 229) [] []]]=some (.bool<|ZZ e.Id&&Vh e.Path.l):=by
 have a:=Dz e.Path.l e.Path.ex (by have:=b.path;omega)
 rw[Z5 (f:=241) rfl rfl];have h1:=Vl e;cases c:ZZ e.Id<;>rw[c]at h1<;>simp only[go_sem,c241,h1,a]
def Z2m(e:Gt):pfn rE 242 [evA e]=some (.bool<|Qv [e.Id,e.bv,e.Text]&&(YO e.An&&gOn e.bg)):=by
 have h:pfn rE 240 [.isl false false 1 [.str e.Id,.str e.bv,.str e.Text]]=some (.bool<|Qv [e.Id,e.bv,e.Text]):=Uw [e.Id,e.bv,e.Text] false false<|by simp
 rw[Z5 (f:=242) rfl rfl];cases b:Qv [e.Id,e.bv,e.Text]<;>rw[b]at h<;>cases a:YO e.An<;>simp only[go_sem,c242,h,Ji,a,W8]
def Z2n(e:Gt):pfn rE 245 [evA e]=some (.bool<|Qv [e.Id,e.bv]&&Jm e.Text 24):=by
 have h:pfn rE 240 [.isl false false 1 [.str e.Id,.str e.bv]]=some (.bool<|Qv [e.Id,e.bv]):=Uw [e.Id,e.bv] false false<|by simp
 rw[Z5 (f:=245) rfl rfl];cases a:Qv [e.Id,e.bv]<;>rw[a]at h<;>simp only[go_sem,c245,h,DZ]
def Z2o(e:Gt)(b:EvS e):pfn rE 247 [evA e,.iptr false [.clo (.func 229) [] []]]=some (.bool<|ZZ e.Id&&(ZD e.Lst.l.length 1 40&&(Xi e.Lst.l []&&Vk e.Lst.l true))):=by
 have c:pfn rE 248 [.isl false e.Lst.ex 7<|e.Lst.l.map Ent.enc,.isl false true 1 []]=some (.bool<|Xi e.Lst.l []):=F6 e.Lst.l e.Lst.ex [] false (by have:=b.lst;omega)<|by simp
 have g:=F4 e.Lst.l e.Lst.ex true (by have:=b.lst;omega)
 rw[Z5 (f:=247) rfl rfl];have h1:=Vl e;cases d:ZZ e.Id<;>rw[d]at h1<;>cases h:ZD e.Lst.l.length 1 40<;>cases a:Xi e.Lst.l []<;>rw[a]at c<;>simp only[go_sem,c247,h1,QU,h,c,g]
def Z2p(e:Gt)(b:EvS e):pfn rE 250 [evA e]=some (.bool<|ZD e.Lst.l.length 2 8&&(Xi e.Lst.l [e.Id]&&Vk e.Lst.l false)):=by
 have c:pfn rE 248 [.isl false e.Lst.ex 7<|e.Lst.l.map Ent.enc,.isl true true 1 [.str e.Id]]=some (.bool<|Xi e.Lst.l [e.Id]):=F6 e.Lst.l e.Lst.ex [e.Id] true (by have:=b.lst;omega)<|by simp
 have d:=F4 e.Lst.l e.Lst.ex false (by have:=b.lst;omega)
 rw[Z5 (f:=250) rfl rfl];cases g:ZD e.Lst.l.length 2 8<;>cases a:Xi e.Lst.l [e.Id]<;>rw[a]at c<;>simp only[go_sem,c250,QU,g,c,d]
def Z2q{h:Hp}{aid b g sz bytes:Nat}{es ys:List AV}{bw ex:Bool}(a:rowAt h b g=some (sz,es))(e:ys.isEmpty=false)(i:0<sz)(h1:0<bytes)(h2:(g+ys.length)*bytes<=140737488355328):
 Qt h aid false sz bytes (.sl b g 0 g true) (.isl bw ex sz ys)=some (.sl aid (es++ys).length 0 (es++ys).length false,[b],some (aid,.row sz<|es++ys)):=by
 unfold rowAt at a;cases d:h[b]? with
 |none=>rw[d]at a;cases a
 |some o=>
  rw[d]at a;cases o with
  |row sz' es'=>
   dsimp only at a;cases c:(es'.length==g)with
   |false=>rw[c]at a;cases a
   |true=>
    rw[c]at a;simp only[cond_true,Option.some.injEq,Prod.mk.injEq]at a;obtain⟨rfl,rfl⟩:=a;have f:es'.length=g:=by simpa using c
    have j:List.take g es'=es':=ZXz<|by omega
    subst f;simp only[Qt,Q2,d,c,cond_true,ZXS,j,Qq,beq_self_eq_true,ZXE,i,h1,h2,and_self,if_true,e,cond_false,Yp,Zs,ZXr]
  |_=>cases a
def Z2r(e:Gt)(k:EvS e):pfn rE 251 [evA e]=some (.bool<|ZD e.Ids.l.length 2 8&&(Qv (e.Id::e.Ids.l)&&(YO e.An&&gOn e.bg))):=by
 have i:∀K:List Str,Z4 (K.map encS)=true:=λK=>Zw (λt=>rfl) K
 have q:∀n(K:List Str),Zd n (K.map encS)=true:=λn K=>ZN _<|i K
 have h:pfn rE 240 [.isl true false 1<|.str e.Id::e.Ids.l.map encS]=some (.bool<|Qv<|e.Id::e.Ids.l):=Uw (e.Id::e.Ids.l) true false (by have:=k.ids;simp;omega)
 rw[Z5 (f:=251) rfl rfl];cases d:ZD e.Ids.l.length 2 8 with
 |false=>simp only[go_sem,c251,QU,d]
 |true=>
  have j:(e.Ids.l.map encS).isEmpty=false:=by
   unfold ZD at d;cases p:e.Ids.l with
   |nil=>rw[p]at d;simp at d
   |cons x r=>rfl
  have o:=Z2q (h:=[.row 1 [.str e.Id]]) (aid:=1) (b:=0) (g:=1) (sz:=1) (bytes:=16) (es:=[.str e.Id]) (bw:=false) (ex:=e.Ids.ex) rfl j (by omega) (by omega) (by have:=k.ids;simp;omega)
  have m:List.take (e.Ids.l.length+1) (.str e.Id::e.Ids.l.map encS)=.str e.Id::e.Ids.l.map encS:=ZXz<|by simp
  have s:List.take (1+e.Ids.l.length) (.str e.Id::e.Ids.l.map encS)=.str e.Id::e.Ids.l.map encS:=ZXz<|by simp;omega
  cases a:Qv (e.Id::e.Ids.l)<;>rw[a]at h<;>cases c:YO e.An<;>simp only[go_sem,c251,QU,d,h,Ji,c,W8,appW,o,ZM,ZH,F5,beq_self_eq_true,m,i]
def Z2s(e:Gt):pfn rE 252 [evA e,.iptr false [.clo (.func 229) [] []]]=some (.bool<|ZZ e.Id&&(ZD e.bz 0 63&&Uu e.Text)):=by
 rw[Z5 (f:=252) rfl rfl];have h1:=Vl e;cases b:ZZ e.Id<;>rw[b]at h1<;>cases a:ZD e.bz 0 63<;>simp only[go_sem,c252,h1,QU,a,Z27]
def kIn(e:Gt)(a:List Int):Bool:=a.any<|λx=>e.br==x
def Zq(e:Gt):Gt:=
 {br:=e.br,Day:=e.Day,
  A:=bif kIn e [13,14]then(bif kIn e [1]then 0 else 0)else(bif kIn e [1]then 0 else e.A),
  B:=bif kIn e [13,14]then 0 else e.B,
  bz:=bif e.br==15 then 0 else e.bz,
  Id:=bif kIn e [13,14]then e.Id else emp,
  bv:=bif kIn e [4,6,7]then emp else e.bv,
  Text:=bif kIn e [6,7,15]then emp else e.Text,
  Ids:=bif e.br==10 then⟨false,[]⟩else e.Ids,
  bm:=bif e.br==3 then⟨false,[]⟩else e.bm,
  An:=bif kIn e [6,10]then⟨0,emp,0,0⟩else e.An,
  bg:=bif kIn e [6,10]then⟨0,0⟩else e.bg,
  Path:=bif kIn e [1,2,5]then⟨false,[]⟩else e.Path,
  Lst:=bif kIn e [8,9]then⟨false,[]⟩else e.Lst}
def Zc(a:List Int)(ex:Bool)(k:Int)(b:a.length<=100):pfn rE 228 [.isl false ex 1<|a.map I,.iptr true [I k]]=some (.bool<|a.any<|λx=>k==x):=by
 have h:=DR a ex k<|by omega
 rw[Z5 (f:=228) rfl rfl];simp[go_sem,c228,h]
theorem Z2t(e:Gt)(a:e.br=1):pfn rE 132 [evA e]=some (evA<|Zq e):=by
 have j:pfn rE 228 [.isl false false 1 [I 13,I 14],.iptr true [I 1]]=some (.bool false):=Zc [13,14] false 1<|by decide
 have m:kIn e [13,14]=false:=by grind [kIn]
 have h1:pfn rE 228 [.isl false false 1 [I 1],.iptr true [I 1]]=some (.bool true):=Zc [1] false 1<|by decide
 have l:kIn e [1]=true:=by grind [kIn]
 have h2:pfn rE 228 [.isl false false 1 [I 1,I 2,I 5],.iptr true [I 1]]=some (.bool true):=Zc [1,2,5] false 1<|by decide
 have q:kIn e [1,2,5]=true:=by grind [kIn]
 have o:pfn rE 228 [.isl false false 1 [I 4,I 6,I 7],.iptr true [I 1]]=some (.bool false):=Zc [4,6,7] false 1<|by decide
 have g:kIn e [4,6,7]=false:=by grind [kIn]
 have h:pfn rE 228 [.isl false false 1 [I 6,I 7,I 15],.iptr true [I 1]]=some (.bool false):=Zc [6,7,15] false 1<|by decide
 have b:kIn e [6,7,15]=false:=by grind [kIn]
 have c:pfn rE 228 [.isl false false 1 [I 6,I 10],.iptr true [I 1]]=some (.bool false):=Zc [6,10] false 1<|by decide
 have p:kIn e [6,10]=false:=by grind [kIn]
 have d:pfn rE 228 [.isl false false 1 [I 8,I 9],.iptr true [I 1]]=some (.bool false):=Zc [8,9] false 1<|by decide
 have k:kIn e [8,9]=false:=by grind [kIn]
 have n:((1:Int)==3)=false:=rfl;have r:((1:Int)==10)=false:=rfl;have i:((1:Int)==15)=false:=rfl;rw[Z5 (f:=132) rfl rfl];unfold Zq;simp only[go_sem,c132,a,j,h1,h2,o,h,c,d,m,l,q,g,b,p,k,n,r,i]
 grind
theorem Z2u(e:Gt)(a:e.br=2):pfn rE 132 [evA e]=some (evA<|Zq e):=by
 have j:pfn rE 228 [.isl false false 1 [I 13,I 14],.iptr true [I 2]]=some (.bool false):=Zc [13,14] false 2<|by decide
 have m:kIn e [13,14]=false:=by grind [kIn]
 have h1:pfn rE 228 [.isl false false 1 [I 1],.iptr true [I 2]]=some (.bool false):=Zc [1] false 2<|by decide
 have l:kIn e [1]=false:=by grind [kIn]
 have h2:pfn rE 228 [.isl false false 1 [I 1,I 2,I 5],.iptr true [I 2]]=some (.bool true):=Zc [1,2,5] false 2<|by decide
 have q:kIn e [1,2,5]=true:=by grind [kIn]
 have o:pfn rE 228 [.isl false false 1 [I 4,I 6,I 7],.iptr true [I 2]]=some (.bool false):=Zc [4,6,7] false 2<|by decide
 have g:kIn e [4,6,7]=false:=by grind [kIn]
 have h:pfn rE 228 [.isl false false 1 [I 6,I 7,I 15],.iptr true [I 2]]=some (.bool false):=Zc [6,7,15] false 2<|by decide
 have b:kIn e [6,7,15]=false:=by grind [kIn]
 have c:pfn rE 228 [.isl false false 1 [I 6,I 10],.iptr true [I 2]]=some (.bool false):=Zc [6,10] false 2<|by decide
 have p:kIn e [6,10]=false:=by grind [kIn]
 have d:pfn rE 228 [.isl false false 1 [I 8,I 9],.iptr true [I 2]]=some (.bool false):=Zc [8,9] false 2<|by decide
 have k:kIn e [8,9]=false:=by grind [kIn]
 have n:((2:Int)==3)=false:=rfl;have r:((2:Int)==10)=false:=rfl;have i:((2:Int)==15)=false:=rfl;rw[Z5 (f:=132) rfl rfl];unfold Zq;simp only[go_sem,c132,a,j,h1,h2,o,h,c,d,m,l,q,g,b,p,k,n,r,i]
 grind
theorem Z2v(e:Gt)(a:e.br=3):pfn rE 132 [evA e]=some (evA<|Zq e):=by
 have j:pfn rE 228 [.isl false false 1 [I 13,I 14],.iptr true [I 3]]=some (.bool false):=Zc [13,14] false 3<|by decide
 have m:kIn e [13,14]=false:=by grind [kIn]
 have h1:pfn rE 228 [.isl false false 1 [I 1],.iptr true [I 3]]=some (.bool false):=Zc [1] false 3<|by decide
 have l:kIn e [1]=false:=by grind [kIn]
 have h2:pfn rE 228 [.isl false false 1 [I 1,I 2,I 5],.iptr true [I 3]]=some (.bool false):=Zc [1,2,5] false 3<|by decide
 have q:kIn e [1,2,5]=false:=by grind [kIn]
 have o:pfn rE 228 [.isl false false 1 [I 4,I 6,I 7],.iptr true [I 3]]=some (.bool false):=Zc [4,6,7] false 3<|by decide
 have g:kIn e [4,6,7]=false:=by grind [kIn]
 have h:pfn rE 228 [.isl false false 1 [I 6,I 7,I 15],.iptr true [I 3]]=some (.bool false):=Zc [6,7,15] false 3<|by decide
 have b:kIn e [6,7,15]=false:=by grind [kIn]
 have c:pfn rE 228 [.isl false false 1 [I 6,I 10],.iptr true [I 3]]=some (.bool false):=Zc [6,10] false 3<|by decide
 have p:kIn e [6,10]=false:=by grind [kIn]
 have d:pfn rE 228 [.isl false false 1 [I 8,I 9],.iptr true [I 3]]=some (.bool false):=Zc [8,9] false 3<|by decide
 have k:kIn e [8,9]=false:=by grind [kIn]
 have n:((3:Int)==3)=true:=rfl;have r:((3:Int)==10)=false:=rfl;have i:((3:Int)==15)=false:=rfl;rw[Z5 (f:=132) rfl rfl];unfold Zq;simp only[go_sem,c132,a,j,h1,h2,o,h,c,d,m,l,q,g,b,p,k,n,r,i]
 grind
theorem Z2w(e:Gt)(a:e.br=4):pfn rE 132 [evA e]=some (evA<|Zq e):=by
 have j:pfn rE 228 [.isl false false 1 [I 13,I 14],.iptr true [I 4]]=some (.bool false):=Zc [13,14] false 4<|by decide
 have m:kIn e [13,14]=false:=by grind [kIn]
 have h1:pfn rE 228 [.isl false false 1 [I 1],.iptr true [I 4]]=some (.bool false):=Zc [1] false 4<|by decide
 have l:kIn e [1]=false:=by grind [kIn]
 have h2:pfn rE 228 [.isl false false 1 [I 1,I 2,I 5],.iptr true [I 4]]=some (.bool false):=Zc [1,2,5] false 4<|by decide
 have q:kIn e [1,2,5]=false:=by grind [kIn]
 have o:pfn rE 228 [.isl false false 1 [I 4,I 6,I 7],.iptr true [I 4]]=some (.bool true):=Zc [4,6,7] false 4<|by decide
 have g:kIn e [4,6,7]=true:=by grind [kIn]
 have h:pfn rE 228 [.isl false false 1 [I 6,I 7,I 15],.iptr true [I 4]]=some (.bool false):=Zc [6,7,15] false 4<|by decide
 have b:kIn e [6,7,15]=false:=by grind [kIn]
 have c:pfn rE 228 [.isl false false 1 [I 6,I 10],.iptr true [I 4]]=some (.bool false):=Zc [6,10] false 4<|by decide
 have p:kIn e [6,10]=false:=by grind [kIn]
 have d:pfn rE 228 [.isl false false 1 [I 8,I 9],.iptr true [I 4]]=some (.bool false):=Zc [8,9] false 4<|by decide
 have k:kIn e [8,9]=false:=by grind [kIn]
 have n:((4:Int)==3)=false:=rfl;have r:((4:Int)==10)=false:=rfl;have i:((4:Int)==15)=false:=rfl;rw[Z5 (f:=132) rfl rfl];unfold Zq;simp only[go_sem,c132,a,j,h1,h2,o,h,c,d,m,l,q,g,b,p,k,n,r,i]
 try rfl
theorem Z2x(e:Gt)(a:e.br=5):pfn rE 132 [evA e]=some (evA<|Zq e):=by
 have j:pfn rE 228 [.isl false false 1 [I 13,I 14],.iptr true [I 5]]=some (.bool false):=Zc [13,14] false 5<|by decide
 have m:kIn e [13,14]=false:=by grind [kIn]
 have h1:pfn rE 228 [.isl false false 1 [I 1],.iptr true [I 5]]=some (.bool false):=Zc [1] false 5<|by decide
 have l:kIn e [1]=false:=by grind [kIn]
 have h2:pfn rE 228 [.isl false false 1 [I 1,I 2,I 5],.iptr true [I 5]]=some (.bool true):=Zc [1,2,5] false 5<|by decide
 have q:kIn e [1,2,5]=true:=by grind [kIn]
 have o:pfn rE 228 [.isl false false 1 [I 4,I 6,I 7],.iptr true [I 5]]=some (.bool false):=Zc [4,6,7] false 5<|by decide
 have g:kIn e [4,6,7]=false:=by grind [kIn]
 have h:pfn rE 228 [.isl false false 1 [I 6,I 7,I 15],.iptr true [I 5]]=some (.bool false):=Zc [6,7,15] false 5<|by decide
 have b:kIn e [6,7,15]=false:=by grind [kIn]
 have c:pfn rE 228 [.isl false false 1 [I 6,I 10],.iptr true [I 5]]=some (.bool false):=Zc [6,10] false 5<|by decide
 have p:kIn e [6,10]=false:=by grind [kIn]
 have d:pfn rE 228 [.isl false false 1 [I 8,I 9],.iptr true [I 5]]=some (.bool false):=Zc [8,9] false 5<|by decide
 have k:kIn e [8,9]=false:=by grind [kIn]
 have n:((5:Int)==3)=false:=rfl;have r:((5:Int)==10)=false:=rfl;have i:((5:Int)==15)=false:=rfl;rw[Z5 (f:=132) rfl rfl];unfold Zq;simp only[go_sem,c132,a,j,h1,h2,o,h,c,d,m,l,q,g,b,p,k,n,r,i]
 grind
theorem Z2y(e:Gt)(a:e.br=6):pfn rE 132 [evA e]=some (evA<|Zq e):=by
 have j:pfn rE 228 [.isl false false 1 [I 13,I 14],.iptr true [I 6]]=some (.bool false):=Zc [13,14] false 6<|by decide
 have m:kIn e [13,14]=false:=by grind [kIn]
 have h1:pfn rE 228 [.isl false false 1 [I 1],.iptr true [I 6]]=some (.bool false):=Zc [1] false 6<|by decide
 have l:kIn e [1]=false:=by grind [kIn]
 have h2:pfn rE 228 [.isl false false 1 [I 1,I 2,I 5],.iptr true [I 6]]=some (.bool false):=Zc [1,2,5] false 6<|by decide
 have q:kIn e [1,2,5]=false:=by grind [kIn]
 have o:pfn rE 228 [.isl false false 1 [I 4,I 6,I 7],.iptr true [I 6]]=some (.bool true):=Zc [4,6,7] false 6<|by decide
 have g:kIn e [4,6,7]=true:=by grind [kIn]
 have h:pfn rE 228 [.isl false false 1 [I 6,I 7,I 15],.iptr true [I 6]]=some (.bool true):=Zc [6,7,15] false 6<|by decide
 have b:kIn e [6,7,15]=true:=by grind [kIn]
 have c:pfn rE 228 [.isl false false 1 [I 6,I 10],.iptr true [I 6]]=some (.bool true):=Zc [6,10] false 6<|by decide
 have p:kIn e [6,10]=true:=by grind [kIn]
 have d:pfn rE 228 [.isl false false 1 [I 8,I 9],.iptr true [I 6]]=some (.bool false):=Zc [8,9] false 6<|by decide
 have k:kIn e [8,9]=false:=by grind [kIn]
 have n:((6:Int)==3)=false:=rfl;have r:((6:Int)==10)=false:=rfl;have i:((6:Int)==15)=false:=rfl;rw[Z5 (f:=132) rfl rfl];unfold Zq;simp only[go_sem,c132,a,j,h1,h2,o,h,c,d,m,l,q,g,b,p,k,n,r,i]
 try rfl
theorem Z2z(e:Gt)(a:e.br=7):pfn rE 132 [evA e]=some (evA<|Zq e):=by
 have j:pfn rE 228 [.isl false false 1 [I 13,I 14],.iptr true [I 7]]=some (.bool false):=Zc [13,14] false 7<|by decide
 have m:kIn e [13,14]=false:=by grind [kIn]
 have h1:pfn rE 228 [.isl false false 1 [I 1],.iptr true [I 7]]=some (.bool false):=Zc [1] false 7<|by decide
 have l:kIn e [1]=false:=by grind [kIn]
 have h2:pfn rE 228 [.isl false false 1 [I 1,I 2,I 5],.iptr true [I 7]]=some (.bool false):=Zc [1,2,5] false 7<|by decide
 have q:kIn e [1,2,5]=false:=by grind [kIn]
 have o:pfn rE 228 [.isl false false 1 [I 4,I 6,I 7],.iptr true [I 7]]=some (.bool true):=Zc [4,6,7] false 7<|by decide
 have g:kIn e [4,6,7]=true:=by grind [kIn]
 have h:pfn rE 228 [.isl false false 1 [I 6,I 7,I 15],.iptr true [I 7]]=some (.bool true):=Zc [6,7,15] false 7<|by decide
 have b:kIn e [6,7,15]=true:=by grind [kIn]
 have c:pfn rE 228 [.isl false false 1 [I 6,I 10],.iptr true [I 7]]=some (.bool false):=Zc [6,10] false 7<|by decide
 have p:kIn e [6,10]=false:=by grind [kIn]
 have d:pfn rE 228 [.isl false false 1 [I 8,I 9],.iptr true [I 7]]=some (.bool false):=Zc [8,9] false 7<|by decide
 have k:kIn e [8,9]=false:=by grind [kIn]
 have n:((7:Int)==3)=false:=rfl;have r:((7:Int)==10)=false:=rfl;have i:((7:Int)==15)=false:=rfl;rw[Z5 (f:=132) rfl rfl];unfold Zq;simp only[go_sem,c132,a,j,h1,h2,o,h,c,d,m,l,q,g,b,p,k,n,r,i]
 try rfl
theorem Z2A(e:Gt)(a:e.br=8):pfn rE 132 [evA e]=some (evA<|Zq e):=by
 have j:pfn rE 228 [.isl false false 1 [I 13,I 14],.iptr true [I 8]]=some (.bool false):=Zc [13,14] false 8<|by decide
 have m:kIn e [13,14]=false:=by grind [kIn]
 have h1:pfn rE 228 [.isl false false 1 [I 1],.iptr true [I 8]]=some (.bool false):=Zc [1] false 8<|by decide
 have l:kIn e [1]=false:=by grind [kIn]
 have h2:pfn rE 228 [.isl false false 1 [I 1,I 2,I 5],.iptr true [I 8]]=some (.bool false):=Zc [1,2,5] false 8<|by decide
 have q:kIn e [1,2,5]=false:=by grind [kIn]
 have o:pfn rE 228 [.isl false false 1 [I 4,I 6,I 7],.iptr true [I 8]]=some (.bool false):=Zc [4,6,7] false 8<|by decide
 have g:kIn e [4,6,7]=false:=by grind [kIn]
 have h:pfn rE 228 [.isl false false 1 [I 6,I 7,I 15],.iptr true [I 8]]=some (.bool false):=Zc [6,7,15] false 8<|by decide
 have b:kIn e [6,7,15]=false:=by grind [kIn]
 have c:pfn rE 228 [.isl false false 1 [I 6,I 10],.iptr true [I 8]]=some (.bool false):=Zc [6,10] false 8<|by decide
 have p:kIn e [6,10]=false:=by grind [kIn]
 have d:pfn rE 228 [.isl false false 1 [I 8,I 9],.iptr true [I 8]]=some (.bool true):=Zc [8,9] false 8<|by decide
 have k:kIn e [8,9]=true:=by grind [kIn]
 have n:((8:Int)==3)=false:=rfl;have r:((8:Int)==10)=false:=rfl;have i:((8:Int)==15)=false:=rfl;rw[Z5 (f:=132) rfl rfl];unfold Zq;simp only[go_sem,c132,a,j,h1,h2,o,h,c,d,m,l,q,g,b,p,k,n,r,i]
 grind
theorem Z2B(e:Gt)(a:e.br=9):pfn rE 132 [evA e]=some (evA<|Zq e):=by
 have j:pfn rE 228 [.isl false false 1 [I 13,I 14],.iptr true [I 9]]=some (.bool false):=Zc [13,14] false 9<|by decide
 have m:kIn e [13,14]=false:=by grind [kIn]
 have h1:pfn rE 228 [.isl false false 1 [I 1],.iptr true [I 9]]=some (.bool false):=Zc [1] false 9<|by decide
 have l:kIn e [1]=false:=by grind [kIn]
 have h2:pfn rE 228 [.isl false false 1 [I 1,I 2,I 5],.iptr true [I 9]]=some (.bool false):=Zc [1,2,5] false 9<|by decide
 have q:kIn e [1,2,5]=false:=by grind [kIn]
 have o:pfn rE 228 [.isl false false 1 [I 4,I 6,I 7],.iptr true [I 9]]=some (.bool false):=Zc [4,6,7] false 9<|by decide
 have g:kIn e [4,6,7]=false:=by grind [kIn]
 have h:pfn rE 228 [.isl false false 1 [I 6,I 7,I 15],.iptr true [I 9]]=some (.bool false):=Zc [6,7,15] false 9<|by decide
 have b:kIn e [6,7,15]=false:=by grind [kIn]
 have c:pfn rE 228 [.isl false false 1 [I 6,I 10],.iptr true [I 9]]=some (.bool false):=Zc [6,10] false 9<|by decide
 have p:kIn e [6,10]=false:=by grind [kIn]
 have d:pfn rE 228 [.isl false false 1 [I 8,I 9],.iptr true [I 9]]=some (.bool true):=Zc [8,9] false 9<|by decide
 have k:kIn e [8,9]=true:=by grind [kIn]
 have n:((9:Int)==3)=false:=rfl;have r:((9:Int)==10)=false:=rfl;have i:((9:Int)==15)=false:=rfl;rw[Z5 (f:=132) rfl rfl];unfold Zq;simp only[go_sem,c132,a,j,h1,h2,o,h,c,d,m,l,q,g,b,p,k,n,r,i]
 grind
theorem Z2C(e:Gt)(a:e.br=10):pfn rE 132 [evA e]=some (evA<|Zq e):=by
 have j:pfn rE 228 [.isl false false 1 [I 13,I 14],.iptr true [I 10]]=some (.bool false):=Zc [13,14] false 10<|by decide
 have m:kIn e [13,14]=false:=by grind [kIn]
 have h1:pfn rE 228 [.isl false false 1 [I 1],.iptr true [I 10]]=some (.bool false):=Zc [1] false 10<|by decide
 have l:kIn e [1]=false:=by grind [kIn]
 have h2:pfn rE 228 [.isl false false 1 [I 1,I 2,I 5],.iptr true [I 10]]=some (.bool false):=Zc [1,2,5] false 10<|by decide
 have q:kIn e [1,2,5]=false:=by grind [kIn]
 have o:pfn rE 228 [.isl false false 1 [I 4,I 6,I 7],.iptr true [I 10]]=some (.bool false):=Zc [4,6,7] false 10<|by decide
 have g:kIn e [4,6,7]=false:=by grind [kIn]
 have h:pfn rE 228 [.isl false false 1 [I 6,I 7,I 15],.iptr true [I 10]]=some (.bool false):=Zc [6,7,15] false 10<|by decide
 have b:kIn e [6,7,15]=false:=by grind [kIn]
 have c:pfn rE 228 [.isl false false 1 [I 6,I 10],.iptr true [I 10]]=some (.bool true):=Zc [6,10] false 10<|by decide
 have p:kIn e [6,10]=true:=by grind [kIn]
 have d:pfn rE 228 [.isl false false 1 [I 8,I 9],.iptr true [I 10]]=some (.bool false):=Zc [8,9] false 10<|by decide
 have k:kIn e [8,9]=false:=by grind [kIn]
 have n:((10:Int)==3)=false:=rfl;have r:((10:Int)==10)=true:=rfl;have i:((10:Int)==15)=false:=rfl;rw[Z5 (f:=132) rfl rfl];unfold Zq;simp only[go_sem,c132,a,j,h1,h2,o,h,c,d,m,l,q,g,b,p,k,n,r,i]
 grind
theorem Z2D(e:Gt)(a:e.br=11):pfn rE 132 [evA e]=some (evA<|Zq e):=by
 have j:pfn rE 228 [.isl false false 1 [I 13,I 14],.iptr true [I 11]]=some (.bool false):=Zc [13,14] false 11<|by decide
 have m:kIn e [13,14]=false:=by grind [kIn]
 have h1:pfn rE 228 [.isl false false 1 [I 1],.iptr true [I 11]]=some (.bool false):=Zc [1] false 11<|by decide
 have l:kIn e [1]=false:=by grind [kIn]
 have h2:pfn rE 228 [.isl false false 1 [I 1,I 2,I 5],.iptr true [I 11]]=some (.bool false):=Zc [1,2,5] false 11<|by decide
 have q:kIn e [1,2,5]=false:=by grind [kIn]
 have o:pfn rE 228 [.isl false false 1 [I 4,I 6,I 7],.iptr true [I 11]]=some (.bool false):=Zc [4,6,7] false 11<|by decide
 have g:kIn e [4,6,7]=false:=by grind [kIn]
 have h:pfn rE 228 [.isl false false 1 [I 6,I 7,I 15],.iptr true [I 11]]=some (.bool false):=Zc [6,7,15] false 11<|by decide
 have b:kIn e [6,7,15]=false:=by grind [kIn]
 have c:pfn rE 228 [.isl false false 1 [I 6,I 10],.iptr true [I 11]]=some (.bool false):=Zc [6,10] false 11<|by decide
 have p:kIn e [6,10]=false:=by grind [kIn]
 have d:pfn rE 228 [.isl false false 1 [I 8,I 9],.iptr true [I 11]]=some (.bool false):=Zc [8,9] false 11<|by decide
 have k:kIn e [8,9]=false:=by grind [kIn]
 have n:((11:Int)==3)=false:=rfl;have r:((11:Int)==10)=false:=rfl;have i:((11:Int)==15)=false:=rfl;rw[Z5 (f:=132) rfl rfl];unfold Zq;simp only[go_sem,c132,a,j,h1,h2,o,h,c,d,m,l,q,g,b,p,k,n,r,i]
 try rfl
theorem Z2E(e:Gt)(a:e.br=12):pfn rE 132 [evA e]=some (evA<|Zq e):=by
 have j:pfn rE 228 [.isl false false 1 [I 13,I 14],.iptr true [I 12]]=some (.bool false):=Zc [13,14] false 12<|by decide
 have m:kIn e [13,14]=false:=by grind [kIn]
 have h1:pfn rE 228 [.isl false false 1 [I 1],.iptr true [I 12]]=some (.bool false):=Zc [1] false 12<|by decide
 have l:kIn e [1]=false:=by grind [kIn]
 have h2:pfn rE 228 [.isl false false 1 [I 1,I 2,I 5],.iptr true [I 12]]=some (.bool false):=Zc [1,2,5] false 12<|by decide
 have q:kIn e [1,2,5]=false:=by grind [kIn]
 have o:pfn rE 228 [.isl false false 1 [I 4,I 6,I 7],.iptr true [I 12]]=some (.bool false):=Zc [4,6,7] false 12<|by decide
 have g:kIn e [4,6,7]=false:=by grind [kIn]
 have h:pfn rE 228 [.isl false false 1 [I 6,I 7,I 15],.iptr true [I 12]]=some (.bool false):=Zc [6,7,15] false 12<|by decide
 have b:kIn e [6,7,15]=false:=by grind [kIn]
 have c:pfn rE 228 [.isl false false 1 [I 6,I 10],.iptr true [I 12]]=some (.bool false):=Zc [6,10] false 12<|by decide
 have p:kIn e [6,10]=false:=by grind [kIn]
 have d:pfn rE 228 [.isl false false 1 [I 8,I 9],.iptr true [I 12]]=some (.bool false):=Zc [8,9] false 12<|by decide
 have k:kIn e [8,9]=false:=by grind [kIn]
 have n:((12:Int)==3)=false:=rfl;have r:((12:Int)==10)=false:=rfl;have i:((12:Int)==15)=false:=rfl;rw[Z5 (f:=132) rfl rfl];unfold Zq;simp only[go_sem,c132,a,j,h1,h2,o,h,c,d,m,l,q,g,b,p,k,n,r,i]
 try rfl
theorem Z2F(e:Gt)(a:e.br=13):pfn rE 132 [evA e]=some (evA<|Zq e):=by
 have j:pfn rE 228 [.isl false false 1 [I 13,I 14],.iptr true [I 13]]=some (.bool true):=Zc [13,14] false 13<|by decide
 have m:kIn e [13,14]=true:=by grind [kIn]
 have h1:pfn rE 228 [.isl false false 1 [I 1],.iptr true [I 13]]=some (.bool false):=Zc [1] false 13<|by decide
 have l:kIn e [1]=false:=by grind [kIn]
 have h2:pfn rE 228 [.isl false false 1 [I 1,I 2,I 5],.iptr true [I 13]]=some (.bool false):=Zc [1,2,5] false 13<|by decide
 have q:kIn e [1,2,5]=false:=by grind [kIn]
 have o:pfn rE 228 [.isl false false 1 [I 4,I 6,I 7],.iptr true [I 13]]=some (.bool false):=Zc [4,6,7] false 13<|by decide
 have g:kIn e [4,6,7]=false:=by grind [kIn]
 have h:pfn rE 228 [.isl false false 1 [I 6,I 7,I 15],.iptr true [I 13]]=some (.bool false):=Zc [6,7,15] false 13<|by decide
 have b:kIn e [6,7,15]=false:=by grind [kIn]
 have c:pfn rE 228 [.isl false false 1 [I 6,I 10],.iptr true [I 13]]=some (.bool false):=Zc [6,10] false 13<|by decide
 have p:kIn e [6,10]=false:=by grind [kIn]
 have d:pfn rE 228 [.isl false false 1 [I 8,I 9],.iptr true [I 13]]=some (.bool false):=Zc [8,9] false 13<|by decide
 have k:kIn e [8,9]=false:=by grind [kIn]
 have n:((13:Int)==3)=false:=rfl;have r:((13:Int)==10)=false:=rfl;have i:((13:Int)==15)=false:=rfl;rw[Z5 (f:=132) rfl rfl];unfold Zq;simp only[go_sem,c132,a,j,h1,h2,o,h,c,d,m,l,q,g,b,p,k,n,r,i]
 try rfl
theorem Z2G(e:Gt)(a:e.br=14):pfn rE 132 [evA e]=some (evA<|Zq e):=by
 have j:pfn rE 228 [.isl false false 1 [I 13,I 14],.iptr true [I 14]]=some (.bool true):=Zc [13,14] false 14<|by decide
 have m:kIn e [13,14]=true:=by grind [kIn]
 have h1:pfn rE 228 [.isl false false 1 [I 1],.iptr true [I 14]]=some (.bool false):=Zc [1] false 14<|by decide
 have l:kIn e [1]=false:=by grind [kIn]
 have h2:pfn rE 228 [.isl false false 1 [I 1,I 2,I 5],.iptr true [I 14]]=some (.bool false):=Zc [1,2,5] false 14<|by decide
 have q:kIn e [1,2,5]=false:=by grind [kIn]
 have o:pfn rE 228 [.isl false false 1 [I 4,I 6,I 7],.iptr true [I 14]]=some (.bool false):=Zc [4,6,7] false 14<|by decide
 have g:kIn e [4,6,7]=false:=by grind [kIn]
 have h:pfn rE 228 [.isl false false 1 [I 6,I 7,I 15],.iptr true [I 14]]=some (.bool false):=Zc [6,7,15] false 14<|by decide
 have b:kIn e [6,7,15]=false:=by grind [kIn]
 have c:pfn rE 228 [.isl false false 1 [I 6,I 10],.iptr true [I 14]]=some (.bool false):=Zc [6,10] false 14<|by decide
 have p:kIn e [6,10]=false:=by grind [kIn]
 have d:pfn rE 228 [.isl false false 1 [I 8,I 9],.iptr true [I 14]]=some (.bool false):=Zc [8,9] false 14<|by decide
 have k:kIn e [8,9]=false:=by grind [kIn]
 have n:((14:Int)==3)=false:=rfl;have r:((14:Int)==10)=false:=rfl;have i:((14:Int)==15)=false:=rfl;rw[Z5 (f:=132) rfl rfl];unfold Zq;simp only[go_sem,c132,a,j,h1,h2,o,h,c,d,m,l,q,g,b,p,k,n,r,i]
 try rfl
theorem Z2H(e:Gt)(a:e.br=15):pfn rE 132 [evA e]=some (evA<|Zq e):=by
 have j:pfn rE 228 [.isl false false 1 [I 13,I 14],.iptr true [I 15]]=some (.bool false):=Zc [13,14] false 15<|by decide
 have m:kIn e [13,14]=false:=by grind [kIn]
 have h1:pfn rE 228 [.isl false false 1 [I 1],.iptr true [I 15]]=some (.bool false):=Zc [1] false 15<|by decide
 have l:kIn e [1]=false:=by grind [kIn]
 have h2:pfn rE 228 [.isl false false 1 [I 1,I 2,I 5],.iptr true [I 15]]=some (.bool false):=Zc [1,2,5] false 15<|by decide
 have q:kIn e [1,2,5]=false:=by grind [kIn]
 have o:pfn rE 228 [.isl false false 1 [I 4,I 6,I 7],.iptr true [I 15]]=some (.bool false):=Zc [4,6,7] false 15<|by decide
 have g:kIn e [4,6,7]=false:=by grind [kIn]
 have h:pfn rE 228 [.isl false false 1 [I 6,I 7,I 15],.iptr true [I 15]]=some (.bool true):=Zc [6,7,15] false 15<|by decide
 have b:kIn e [6,7,15]=true:=by grind [kIn]
 have c:pfn rE 228 [.isl false false 1 [I 6,I 10],.iptr true [I 15]]=some (.bool false):=Zc [6,10] false 15<|by decide
 have p:kIn e [6,10]=false:=by grind [kIn]
 have d:pfn rE 228 [.isl false false 1 [I 8,I 9],.iptr true [I 15]]=some (.bool false):=Zc [8,9] false 15<|by decide
 have k:kIn e [8,9]=false:=by grind [kIn]
 have n:((15:Int)==3)=false:=rfl;have r:((15:Int)==10)=false:=rfl;have i:((15:Int)==15)=true:=rfl;rw[Z5 (f:=132) rfl rfl];unfold Zq;simp only[go_sem,c132,a,j,h1,h2,o,h,c,d,m,l,q,g,b,p,k,n,r,i]
 try rfl
def Z2I(e:Gt)(h:ZD e.br 1 15=true):pfn rE 132 [evA e]=some (evA<|Zq e):=by
 grind [ZD,Z2t,Z2u,Z2v,Z2w,Z2x,Z2y,Z2z,Z2A,Z2B,Z2C,Z2D,Z2E,Z2F,Z2G,Z2H]
def F9(e:Gt):(Zq e).Id.size<=e.Id.size:=by
 unfold Zq;cases kIn e [13,14]with
 |true=>grind
 |false=>exact ZXi _
def Jn:List AV:=[.nilfn,.clo (.func 233) [] [.iptr false [.clo (.func 229) [] []]],.clo (.func 235) [] [.iptr false [.clo (.func 229) [] []]],.clo (.func 237) [] [.iptr false [.clo (.func 229) [] []]],.clo (.func 239) [] [],.clo (.func 241) [] [.iptr false [.clo (.func 229) [] []]],.clo (.func 242) [] [],.clo (.func 245) [] [],.clo (.func 247) [] [.iptr false [.clo (.func 229) [] []]],.clo (.func 250) [] [],.clo (.func 251) [] [],.clo (.func 229) [] [],.clo (.func 229) [] [],.clo (.func 231) [] [],.clo (.func 231) [] [],.clo (.func 252) [] [.iptr false [.clo (.func 229) [] []]]]
def Z2K:clean .nilfn=true:=(rfl)
attribute [go_sem] Z2K
def Z2L(off n:Nat)(v:AV):stE off n v .nilfn=st1 off v.cells:=(rfl)
attribute [go_sem] Z2L
def Z2M(sz:Nat):fits sz .nilfn=(sz==1):=(rfl)
attribute [go_sem] Z2M
def Z2N:pfn rE 133 []=some (.agg Jn):=by
 rw[Z5 (f:=133) rfl rfl];unfold Jn;simp only[go_sem,c133]
def Q8(e:Gt):Bool:=
 bif e.br==1 then ZZ e.Id&&(ZD e.A 1 3&&Vh e.Path.l)else
 bif e.br==2 then ZZ e.Id&&Ul e.Path.l else
 bif e.br==3 then ZZ e.Id&&Uz e.bm.l else
 bif e.br==4 then Qv [e.Id,e.bv]else
 bif e.br==5 then ZZ e.Id&&Vh e.Path.l else
 bif e.br==6 then Qv [e.Id,e.bv,e.Text]&&(YO e.An&&gOn e.bg)else
 bif e.br==7 then Qv [e.Id,e.bv]&&Jm e.Text 24 else
 bif e.br==8 then ZZ e.Id&&(ZD e.Lst.l.length 1 40&&(Xi e.Lst.l []&&Vk e.Lst.l true))else
 bif e.br==9 then ZD e.Lst.l.length 2 8&&(Xi e.Lst.l [e.Id]&&Vk e.Lst.l false)else
 bif e.br==10 then ZD e.Ids.l.length 2 8&&(Qv (e.Id::e.Ids.l)&&(YO e.An&&gOn e.bg))else
 bif e.br==11 then ZZ e.Id else
 bif e.br==12 then ZZ e.Id else
 bif e.br==13 then K5 e.A e.B else
 bif e.br==14 then K5 e.A e.B else
 ZZ e.Id&&(ZD e.bz 0 63&&Uu e.Text)
def NF(x:Gt):Str:=x.Id++x.bv++x.Text
def Fb(x:Gt):Bool:=((((x.A != 0||x.B != 0)||x.bz != 0)||!Z3 (NF x) emp)||!QL x.An ⟨0,emp,0,0⟩)||!QK x.bg ⟨0,0⟩
def NG(x:Gt):Bool:=W (W (W ((x.Ids.l.length:Int)+(x.bm.l.length:Int))+(x.Path.l.length:Int))+(x.Lst.l.length:Int))==0
def Q9(e:Gt):Bool:=ZD e.br 1 15&&(ZD e.Day 0 100000&&(!Fb (Zq e)&&(NG (Zq e)&&Q8 e)))
def Fc(e:Gt):(Zq e).bv.size<=e.bv.size:=by
 unfold Zq;dsimp only;cases kIn e [4,6,7]with
 |true=>exact ZXi _
 |false=>exact ZXh _
def Z2O(e:Gt):(Zq e).Text.size<=e.Text.size:=by
 unfold Zq;dsimp only;cases kIn e [6,7,15]with
 |true=>exact ZXi _
 |false=>exact ZXh _
def Yz(k:Nat)(v:AV)(h:(Jn[k]?)=some v)(c:k<16):aiV none 1 16 (.agg Jn) (I k)=some v:=by
 rw[LQ];have d:(0<=(k:Int)/\(k:Int)<((16:Nat):Int)):=by omega
 rw[if_pos d];have:((k:Int)).toNat*1=k:=by simp
 rw[this];have b:k<Jn.length:=c;rw[ZXP b,N3];rw[ZXj b]at h;exact h
def Z2P(e:Gt)(hs:EvS e)(h:ZD e.br 1 15=true):∃g cap,aiV none 1 16 (.agg Jn) (I e.br)=some (.clo (.func g) [] cap)/\(cap=[]\/cap=[.iptr false [.clo (.func 229) [] []]])/\pfn rE g (evA e::cap)=some (.bool<|Q8 e):=by
 have hk:1<=e.br/\e.br<=15:=by simpa[ZD]using h
 have:e.br=1\/e.br=2\/e.br=3\/e.br=4\/e.br=5\/e.br=6\/e.br=7\/e.br=8\/e.br=9\/e.br=10\/e.br=11\/e.br=12\/e.br=13\/e.br=14\/e.br=15:=by omega
 rcases this with hk|hk|hk|hk|hk|hk|hk|hk|hk|hk|hk|hk|hk|hk|hk
 .refine⟨233,[.iptr false [.clo (.func 229) [] []]],?_,Or.inr rfl,?_⟩
  .rw[hk];exact Yz 1 _ rfl (by decide)
  .have hn:Q8 e=(ZZ e.Id&&(ZD e.A 1 3&&Vh e.Path.l)):=by unfold Q8;rw[hk];rfl
   rw[hn];exact Z2i e hs
 .refine⟨235,[.iptr false [.clo (.func 229) [] []]],?_,Or.inr rfl,?_⟩
  .rw[hk];exact Yz 2 _ rfl (by decide)
  .have hn:Q8 e=(ZZ e.Id&&Ul e.Path.l):=by unfold Q8;rw[hk];rfl
   rw[hn];exact Z2j e hs
 .refine⟨237,[.iptr false [.clo (.func 229) [] []]],?_,Or.inr rfl,?_⟩
  .rw[hk];exact Yz 3 _ rfl (by decide)
  .have hn:Q8 e=(ZZ e.Id&&Uz e.bm.l):=by unfold Q8;rw[hk];rfl
   rw[hn];exact Z2k e hs
 .refine⟨239,[],?_,Or.inl rfl,?_⟩
  .rw[hk];exact Yz 4 _ rfl (by decide)
  .have hn:Q8 e=(Qv [e.Id,e.bv]):=by unfold Q8;rw[hk];rfl
   rw[hn];exact Z2h e
 .refine⟨241,[.iptr false [.clo (.func 229) [] []]],?_,Or.inr rfl,?_⟩
  .rw[hk];exact Yz 5 _ rfl (by decide)
  .have hn:Q8 e=(ZZ e.Id&&Vh e.Path.l):=by unfold Q8;rw[hk];rfl
   rw[hn];exact Z2l e hs
 .refine⟨242,[],?_,Or.inl rfl,?_⟩
  .rw[hk];exact Yz 6 _ rfl (by decide)
  .have hn:Q8 e=(Qv [e.Id,e.bv,e.Text]&&(YO e.An&&gOn e.bg)):=by unfold Q8;rw[hk];rfl
   rw[hn];exact Z2m e
 .refine⟨245,[],?_,Or.inl rfl,?_⟩
  .rw[hk];exact Yz 7 _ rfl (by decide)
  .have hn:Q8 e=(Qv [e.Id,e.bv]&&Jm e.Text 24):=by unfold Q8;rw[hk];rfl
   rw[hn];exact Z2n e
 .refine⟨247,[.iptr false [.clo (.func 229) [] []]],?_,Or.inr rfl,?_⟩
  .rw[hk];exact Yz 8 _ rfl (by decide)
  .have hn:Q8 e=(ZZ e.Id&&(ZD e.Lst.l.length 1 40&&(Xi e.Lst.l []&&Vk e.Lst.l true))):=by unfold Q8;rw[hk];rfl
   rw[hn];exact Z2o e hs
 .refine⟨250,[],?_,Or.inl rfl,?_⟩
  .rw[hk];exact Yz 9 _ rfl (by decide)
  .have hn:Q8 e=(ZD e.Lst.l.length 2 8&&(Xi e.Lst.l [e.Id]&&Vk e.Lst.l false)):=by unfold Q8;rw[hk];rfl
   rw[hn];exact Z2p e hs
 .refine⟨251,[],?_,Or.inl rfl,?_⟩
  .rw[hk];exact Yz 10 _ rfl (by decide)
  .have hn:Q8 e=(ZD e.Ids.l.length 2 8&&(Qv (e.Id::e.Ids.l)&&(YO e.An&&gOn e.bg))):=by unfold Q8;rw[hk];rfl
   rw[hn];exact Z2r e hs
 .refine⟨229,[],?_,Or.inl rfl,?_⟩
  .rw[hk];exact Yz 11 _ rfl (by decide)
  .have hn:Q8 e=(ZZ e.Id):=by unfold Q8;rw[hk];rfl
   rw[hn];exact Vl e
 .refine⟨229,[],?_,Or.inl rfl,?_⟩
  .rw[hk];exact Yz 12 _ rfl (by decide)
  .have hn:Q8 e=(ZZ e.Id):=by unfold Q8;rw[hk];rfl
   rw[hn];exact Vl e
 .refine⟨231,[],?_,Or.inl rfl,?_⟩
  .rw[hk];exact Yz 13 _ rfl (by decide)
  .have hn:Q8 e=(K5 e.A e.B):=by unfold Q8;rw[hk];rfl
   rw[hn];exact F8 e
 .refine⟨231,[],?_,Or.inl rfl,?_⟩
  .rw[hk];exact Yz 14 _ rfl (by decide)
  .have hn:Q8 e=(K5 e.A e.B):=by unfold Q8;rw[hk];rfl
   rw[hn];exact F8 e
 .refine⟨252,[.iptr false [.clo (.func 229) [] []]],?_,Or.inr rfl,?_⟩
  .rw[hk];exact Yz 15 _ rfl (by decide)
  .have hn:Q8 e=(ZZ e.Id&&(ZD e.bz 0 63&&Uu e.Text)):=by unfold Q8;rw[hk];rfl
   rw[hn];exact Z2s e
def NH(e:Gt)(hs:EvS e):pfn rE 68 [evA e]=some (.bool<|Q9 e):=by
 rw[Z5 (f:=68) rfl rfl];unfold Q9;cases c1:ZD e.br 1 15 with
 |false=>simp only[go_sem,c68,QU,c1]
 |true=>
 cases c2:ZD e.Day 0 100000 with
 |false=>simp only[go_sem,c68,QU,c1,c2]
 |true=>
 have hb:=Z2I e c1;obtain⟨g,cap,ha,hcap,hn⟩:=Z2P e hs c1;have hz1:(Zq e).Id.size+(Zq e).bv.size<=4611686018427387904:=by have:=F9 e;have:=Fc e;have:=hs.id;have:=hs.other;omega
 have hz2:(Zq e).Id.size+(Zq e).bv.size+(Zq e).Text.size<=4611686018427387904:=by
  have:=F9 e;have:=Fc e;have:=Z2O e;have:=hs.id;have:=hs.other;have:=hs.text;omega
 have e3:((Zq e).Id++(Zq e).bv)++(Zq e).Text=NF (Zq e):=rfl;have hn4:((Zq e).An.N==0&&(Z3 (Zq e).An.bn emp&&((Zq e).An.Num==0&&(Zq e).An.Den==0)))=QL (Zq e).An ⟨0,emp,0,0⟩:=rfl;have hn5:((Zq e).bg.X==0&&(Zq e).bg.Y==0)=QK (Zq e).bg ⟨0,0⟩:=rfl;have hl6:(W (W (W (((Zq e).Ids.l.length:Int)+((Zq e).bm.l.length:Int))+((Zq e).Path.l.length:Int))+((Zq e).Lst.l.length:Int))==0)=NG (Zq e):=rfl;unfold Fb;generalize Zq e=x at hb hz1 hz2 e3 hn4 hn5 hl6⊢;cases a1:x.A != 0 with
 |true=>simp only[go_sem,c68,QU,c1,c2,hb,a1]
 |false=>
 cases a2:x.B != 0 with
 |true=>simp only[go_sem,c68,QU,c1,c2,hb,a1,a2,ZXY,ZXE]
 |false=>
 cases a3:x.bz != 0 with
 |true=>simp only[go_sem,c68,QU,c1,c2,hb,a1,a2,a3,ZXY,ZXE,ZYS]
 |false=>
 cases a4:Z3 (NF x) emp with
 |false=>simp only[go_sem,c68,QU,c1,c2,hb,a1,a2,a3,hz1,hz2,ByteArray.size_append,if_true,e3,a4,ZXY,ZXE,ZYS]
 |true=>
 cases a5:QL x.An ⟨0,emp,0,0⟩with
 |false=>simp only[go_sem,c68,QU,c1,c2,hb,a1,a2,a3,hz1,hz2,ByteArray.size_append,if_true,e3,a4,hn4,a5,ZXY,ZXE,ZYS]
 |true=>
 cases a6:QK x.bg ⟨0,0⟩with
 |false=>simp only[go_sem,c68,QU,c1,c2,hb,a1,a2,a3,hz1,hz2,ByteArray.size_append,if_true,e3,a4,hn4,a5,hn5,a6,ZXY,ZYS]
 |true=>
 cases a7:NG x with
 |false=>simp only[go_sem,c68,QU,c1,c2,hb,a1,a2,a3,hz1,hz2,ByteArray.size_append,if_true,e3,a4,hn4,a5,hn5,a6,hl6,a7,ZYS]
 |true=>
  rcases hcap with rfl|rfl<;>simp only[go_sem,c68,QU,c1,c2,hb,a1,a2,a3,hz1,hz2,ByteArray.size_append,if_true,e3,a4,hn4,a5,hn5,a6,hl6,a7,ZYS,Z2N,ha,hn]
end Go.AM
