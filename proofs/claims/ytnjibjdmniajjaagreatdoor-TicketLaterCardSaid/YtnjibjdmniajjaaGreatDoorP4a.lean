/- What the functions of the program compute, part 1, for TicketLater. No condition. -/
import Derived.Test.YtnjibjdmniajjaaGreatDoorC4
import Derived.Lib.ItoaNum
import Derived.Lib.RuneCount
set_option linter.unusedVariables false
set_option linter.defProp false
set_option linter.unusedSimpArgs false
set_option linter.unusedSectionVars false
open Nat renaming reduceAdd → qq, reduceSub → qx, reduceMul → qz, reduceLT → qv, reduceLeDiff → qk, reduceBEq → qy
attribute [go_sem_proc] Nat.reduceBEq Nat.reduceAdd Nat.reduceSub Nat.reduceMul Nat.reduceLT Nat.reduceLeDiff reduceIte
namespace Go.AM
open Go
abbrev Iy:=AV.isl false false
def Di(b:Bool):clean (.bool b)=true:=(rfl)
def Dj(k:IntKind)(n:Int):clean (.int k n)=true:=(rfl)
def Ic(s:ByteArray):clean (.str s)=true:=(rfl)
def Ig(cs:List AV):clean (.agg cs)=Z4 cs:=(rfl)
def Ih(cs:List AV):clean (.tup cs)=Z4 cs:=(rfl)
def Ii(bw ex:Bool)(sz:Nat)(es:List AV):clean (.isl bw ex sz es) = !bw:=(rfl)
def Ij(bw:Bool)(es:List AV):clean (.iptr bw es) = !bw:=(rfl)
def Il(fn:Fn)(a c:List AV):clean (.clo fn a c)=(Z4 a&&Z4 c):=(rfl)
def Im(b i off g:Nat):clean (.ptr b i off g)=false:=(rfl)
def Io(b g off a:Nat)(ex:Bool):clean (.sl b g off a ex)=false:=(rfl)
def Ip(b:Nat):clean (.mp b)=false:=(rfl)
def Dk:Z4 []=true:=(rfl)
def N1(a:AV)(r:List AV):Z4 (a::r)=(clean a&&Z4 r):=(rfl)
def Iq(b:Bool):Zy (.bool b)=true:=(rfl)
def Ir(k:IntKind)(n:Int):Zy (.int k n)=true:=(rfl)
def It(s:ByteArray):Zy (.str s)=true:=(rfl)
def Iu(cs:List AV):Zy (.agg cs)=Zi cs:=(rfl)
def Iw(bw ex:Bool)(sz:Nat)(es:List AV):Zy (.isl bw ex sz es)=true:=(rfl)
def Ix(bw:Bool)(es:List AV):Zy (.iptr bw es)=true:=(rfl)
def Iz(fn:Fn)(a c:List AV):Zy (.clo fn a c)=(Zi a&&Zi c):=(rfl)
def IA:Zi []=true:=(rfl)
def IB(a:AV)(r:List AV):Zi (a::r)=(Zy a&&Zi r):=(rfl)
attribute [go_sem] Di Dj Ic Ig Ih Ii Ij Il Im Io Ip Dk N1 Iq Ir It Iu Iw Ix Iz IA IB
def N3(c:AV)(r:List AV):takeC none (c::r)=some c:=rfl
def IC(n:Nat)(cs:List AV):takeC (some n) cs=bif Nat.ble n cs.length then some (.agg<|cs.take n)else none:=rfl
def ID(cs:List AV):(AV.agg cs).cells=cs:=rfl
def IE(b:Bool):(AV.bool b).cells=[.bool b]:=rfl
def IF(k:IntKind)(n:Int):(AV.int k n).cells=[.int k n]:=rfl
def IG(s:ByteArray):(AV.str s).cells=[.str s]:=rfl
def IH(bw ex:Bool)(sz:Nat)(es:List AV):(AV.isl bw ex sz es).cells=[.isl bw ex sz es]:=rfl
def II(b g off a:Nat)(ex:Bool):(AV.sl b g off a ex).cells=[.sl b g off a ex]:=rfl
def IJ(b i off g:Nat):(AV.ptr b i off g).cells=[.ptr b i off g]:=rfl
def IK(bw:Bool)(es:List AV):(AV.iptr bw es).cells=[.iptr bw es]:=rfl
def IL(fn:Fn)(a c:List AV):(AV.clo fn a c).cells=[.clo fn a c]:=rfl
def IM(b:Nat):(AV.mp b).cells=[.mp b]:=rfl
attribute [go_sem] N3 IC ID IE IF IG IH II IJ IK IL IM
attribute [go_sem] eq_self Bool.and_true Bool.true_and Bool.and_false Bool.false_and Bool.not_true Bool.not_false Bool.and_self
def XA{a b:List AV}:Z4 (a++b)=(Z4 a&&Z4 b):=by
 induction a with
 |nil=>simp[Z4]
 |cons x a c=>simp[Z4,c,ZUz]
def Zw{a:Type}{f:a->AV}(h:∀x,clean (f x)=true):∀l:List a,Z4 (l.map f)=true
 |[]=>rfl
 |x::l=>by simp[Z4,h,Zw h l]
def YM{n:Int}(a:-9223372036854775808<=n)(b:n<=9223372036854775807):IntKind.i64.wrap n=n:=by
 simp[IntKind.wrap,IntKind.signed,IntKind.bits];omega
def Zx{n:Nat}(h:n<9223372036854775807):IntKind.i64.wrap ((n:Int)+1)=((n+1:Nat):Int):=by
 rw[YM (by omega)<|by omega];rfl
def Dl{E:Env}{live:List Nat}{b:ACode}{fr a:Fr}{h:Hp}(e:Z2 live fr=Z2 live a):Zb E (.loop live b) fr h=Zb E (.loop live b) a h:=by
 rw[GF,e,<-GF]
variable {E:Env}
def IQ{v:Option AV}{r:Zt}(a:Zl v=some r):r.2.2=none:=by
 unfold Zl at a;cases v with
 |none=>cases a
 |some v=>simp only[ZT3,Option.some.injEq]at a;rw[<-a]
def YV(h:Hp)(r:Zt):Prop:=Ya h r.2.2=true
def IR{h:Hp}{r:Zt}(a:r.2.2=none):YV h r:=by unfold YV;rw[a];rfl
def N4{h:Hp}{v:Option AV}{r:Zt}(a:Zl v=some r):YV h r:=IR<|IQ a
def Vc{h:Hp}{v:AV}{rs:List Nat}{b:Nat}{o:AObj}{r:Zt}(c:b<=h.length)(a:some (v,rs,some (b,o))=some r):YV h r:=by
 cases a;exact ZTn c
def VU{h:Hp}{v:AV}{rs:List Nat}{r:Zt}(a:some (v,rs,none)=some r):YV h r:=by
 cases a;rfl
def ZA0{h:Hp}{r:Zt}(c:∀b o,r.2.2=some (b,o)->b<=h.length):YV h r:=by
 have⟨v,rs,a⟩:=r;cases a with
 |none=>rfl
 |some p=>exact ZTn<|c p.1 p.2 rfl
def N5{h:Hp}{b:Nat}{o:AObj}(a:h[b]?=some o):b<=h.length:=ZTx (ZSA.1 a).1
def N6{h:Hp}{fz:Bool}{sz:Nat}{b:List AV}{rs:List Nat}{r:Zt}(a:Yp h.length fz sz b rs=some r):YV h r:=by
 unfold Yp at a;cases fz with
 |true=>
  cases c:Z4 b with
  |true=>rw[c]at a;exact VU a
  |false=>rw[c]at a;cases a
 |false=>exact Vc (ZSr _) a
def IS{h:Hp}{fz:Bool}{sz bytes:Nat}{s x:AV}{r:Zt}(a:Qt h h.length fz sz bytes s x=some r):YV h r:=by
 unfold Qt at a;split at a
 .split at a
  .rename_i es ys _ _ _;cases b:ys.isEmpty with
   |true=>rw[b]at a;exact VU a
   |false=>
    rw[b,cond_false]at a;split at a
    .exact N6 a
    .exact N6 a
    .exact N6 a
    .split at a
     .rename_i c;simp only[cond]at a;split at a
      .exact Vc (N5 c) a
      .cases a
     .cases a
    .cases a
  .cases a
 .cases a
def IT{h:Hp}{ag:Bool}{kk:List Nat}{b:Nat}{d vs:List AV}{k v:AV}{r:Zt}(c:b<=h.length)(a:Yo ag kk b d vs k v=some r):YV h r:=by
 unfold Yo at a;split at a
 .exact Vc c a
 .exact Vc c a
 .cases a
def IU{h:Hp}{v:Option AV}{rs:List Nat}{r:Zt}(a:v.map (λv=>((v,rs,none):Zt))=some r):YV h r:=by
 cases v with
 |none=>cases a
 |some v=>exact VU a
def IV{h:Hp}{ag d:Bool}{kk rs:List Nat}{z:AV}{c vs:List AV}{k:AV}{r:Zt}(a:QW ag kk d z rs c vs k=some r):YV h r:=by
 unfold QW at a;split at a
 .exact VU a
 .rename_i i _ _;cases b:vs[i]? with
  |none=>rw[b]at a;cases a
  |some v=>rw[b]at a;exact VU a
 .cases a
def IW{h:Hp}{x:AV}{r:Zt}(a:X1 h x=some r):YV h r:=by
 unfold X1 at a
 repeat' (split at a)
 all_goals try simp only[cond]at a
 all_goals (repeat' (split at a))
 all_goals first
  |exact N4 a
  |exact VU a
  |(cases a;done)
def ZA1{h:Hp}{b c:Nat}{x:AV}{r:Zt}(a:ZvH h b c x=some r):YV h r:=by
 unfold ZvH at a
 repeat' (split at a)
 all_goals try simp only[cond]at a
 all_goals (repeat' (split at a))
 all_goals first
  |(exact Vc (N5<|by assumption) a)
  |(cases a;done)
def IX{fr:Fr}{h:Hp}{c:AOp}{r:Zt}(a:Z8 E fr h h.length c=some r):YV h r:=by
 cases c<;>simp only[Z8]at a
 case app=>exact IS a
 case apr sz bytes s x=>
  cases b:Qt h h.length false sz bytes (ev E fr s) (ev E fr x)with
  |none=>rw[b]at a;cases a
  |some d=>
   rw[b]at a;exact ZA0<|Zzd (ZxP (ZSr _) b) a
 case own=>exact Vc (ZSr _) a
 case mkm=>exact Vc (ZSr _) a
 all_goals first
  |exact N4 a
  |(repeat' (split at a)
    all_goals try simp only[cond]at a
    all_goals (repeat' (split at a))
    all_goals first
     |exact N4 a
     |exact VU a
     |exact Vc (ZSr _) a
     |(cases a;done)
     |(exact Vc (N5<|by assumption) a)
     |(exact IT (N5<|by assumption) a)
     |exact IU a
     |exact IV a
     |exact ZA1 a
     |exact IW a)
def Za(E:Env)(a:AOp)(fr:Fr)(h:Hp):DRec:=
 match a with
 | .call _ _ args=>ZO9 h<|evs E fr args
 | .callv _ x args=>(match ev E fr x with| .clo (.func _) first cap=>⟨!Zi (first++evs E fr args++cap),[],none,none⟩|_=>⟨false,[],none,none⟩)
 |a=>QG E (Z2 a.slots fr) h a (match Z8 E (Z2 a.slots fr) h h.length a with|some r=>r.2.2|none=>none)
noncomputable def dk(E:Env)(d:Option Nat)(r:List AOper)(us:List<|List Nat)(b:Bool)(fr:Fr)(a:List DRec)(rec:DRec):Option (Fr×Hp)->Option (Fr×Hp)
 |some ((_,v)::_,h')=>bif b then Zm E r us (ZB fr d v) h' (a++[rec])else none
 |_=>none
def IY(d:Option Nat)(r:List AOper)(us:List<|List Nat)(fr:Fr)(a:List DRec)(rec:DRec)(k:Nat)(v:AV)(fr':Fr)(h':Hp):dk E d r us true fr a rec (some ((k,v)::fr',h'))=Zm E r us (ZB fr d v) h' (a++[rec]):=rfl
def Qb{d:Option Nat}{a:AOp}{r:List AOper}{u:List Nat}{us:List (List Nat)}{fr:Fr}{h:Hp}{b:List DRec}(c:a.isCall=false):
 Zm E (⟨d,a,none⟩::r) (u::us) fr h b=dk E d r us (Zv (Za E a fr h) b u) fr b (Za E a fr h) (Z9 E [⟨some 0,a,none⟩] (Z2 a.slots fr) h):=by
 rw[VS,LG c,V9,GE c];have g:Za E a fr h=QG E (Z2 a.slots fr) h a (match Z8 E (Z2 a.slots fr) h h.length a with|some r=>r.2.2|none=>none):=by
  cases a<;>first|rfl|(simp[AOp.isCall]at c)
 rw[g];cases f:Z8 E (Z2 a.slots fr) h h.length a with
 |none=>rfl
 |some q=>
  simp only[ZM,KZ,GG,dk,okd];have e:=IX f;unfold YV at e;rw[e,ZSW]
def IZ{d:Option Nat}{f:Nat}{a:List Arg}{r:List AOper}{u:List Nat}{us:List (List Nat)}{fr:Fr}{h:Hp}{b:List DRec}:
 Zm E (⟨d,.call true f a,none⟩::r) (u::us) fr h b=dk E d r us (Zv (Za E (.call true f a) fr h) b u) fr b (Za E (.call true f a) fr h) (Z9 E [⟨some 0,.call true f a,none⟩] fr h):=by
 rw[VS,S6,V9,RE,GD];simp only[Za,evs];cases Ql h (a.map<|ev E fr)with
 |none=>rfl
 |some c=>
  simp only[ZM];cases pfn E f c with
  |none=>rfl
  |some v=>
   simp only[ZM,KZ,GG,dk,okd,ZH,Ya,ZSW]
noncomputable def rkw(E:Env)(d:Option Nat)(r:List AOper)(u:List Nat)(us:List<|List Nat)(fr:Fr)(h:Hp)(a:List DRec)(o:Option<|AV×DRec×Option (Nat×AObj)):Option (Fr×Hp):=thn o λp=>okd a u h p.2.1 p.2.2<|Zm E r us (ZB fr d p.1) (ZH h p.2.2)<|a++[p.2.1]
def ZL4{d:Option Nat}{f:Nat}{b:List Arg}{r:List AOper}{u:List Nat}{us:List (List Nat)}{fr:Fr}{h:Hp}{a:List DRec}:
 Zm E (⟨d,.call false f b,none⟩::r) (u::us) fr h a=rkw E d r u us fr h a (rsD (E.rs f) h<|evs E fr b):=by
 rw[VS,ZIH];rfl
def O0{d:Option Nat}{x:Arg}{b:List Arg}{r:List AOper}{u:List Nat}{us:List (List Nat)}{fr:Fr}{h:Hp}{f:List DRec}:
 Zm E (⟨d,.callv true x b,none⟩::r) (u::us) fr h f=dk E d r us (Zv (Za E (.callv true x b) fr h) f u) fr f (Za E (.callv true x b) fr h) (Z9 E [⟨some 0,.callv true x b,none⟩] fr h):=by
 rw[VS,S7,V9,RF];simp only[Za,evs,dcv];generalize ev E fr x=fv;by_cases i:∃g a c,fv=.clo (.func g) a c
 .obtain⟨g,a,c,rfl⟩:=i;simp only;rw[RD,GD];cases Ql h (a++b.map (ev E fr)++c)with
  |none=>rfl
  |some j=>
   simp only[ZM];cases pfn E g j with
   |none=>rfl
   |some v=>simp only[ZM,KZ,GG,dk,okd,ZH,Ya,ZSW]
 .rw[LU (λg a c e=>i ⟨g,a,c,e⟩)<|λ_ _=>rfl]
  split
  .next g a c=>exact absurd ⟨g,a,c,rfl⟩ i
  .rfl
noncomputable def dg(E:Env)(d:Option Nat)(b:AOp)(r:List AOper)(u:List Nat)(us:List<|List Nat)(fr:Fr)(h:Hp)(a:List DRec):Bool->AV->Option (Fr×Hp)
 |true,.bool true=>Zm E (⟨d,b,none⟩::r) (u::us) fr h a
 |false,.bool false=>Zm E (⟨d,b,none⟩::r) (u::us) fr h a
 |true,.bool false=>bif Zv ⟨false,[],none,none⟩ a u then Zm E r us (ZB fr d<|.tup []) h (a++[⟨false,[],none,none⟩])else none
 |false,.bool true=>bif Zv ⟨false,[],none,none⟩ a u then Zm E r us (ZB fr d<|.tup []) h (a++[⟨false,[],none,none⟩])else none
 |_,.tup []=>bif Zv ⟨false,[],none,none⟩ a u then Zm E r us (ZB fr d<|.tup []) h (a++[⟨false,[],none,none⟩])else none
 |_,_=>none
def O1(d:Option Nat)(b:AOp)(r:List AOper)(u:List Nat)(us:List<|List Nat)(fr:Fr)(h:Hp)(a:List DRec):dg E d b r u us fr h a true (.bool true)=Zm E (⟨d,b,none⟩::r) (u::us) fr h a:=rfl
def O2(d:Option Nat)(b:AOp)(r:List AOper)(u:List Nat)(us:List<|List Nat)(fr:Fr)(h:Hp)(a:List DRec):dg E d b r u us fr h a false (.bool false)=Zm E (⟨d,b,none⟩::r) (u::us) fr h a:=rfl
def O3(d:Option Nat)(b:AOp)(r:List AOper)(u:List Nat)(us:List<|List Nat)(fr:Fr)(h:Hp)(a:List DRec):dg E d b r u us fr h a true (.bool false)=bif Zv ⟨false,[],none,none⟩ a u then Zm E r us (ZB fr d<|.tup []) h (a++[⟨false,[],none,none⟩])else none:=rfl
def O4(d:Option Nat)(b:AOp)(r:List AOper)(u:List Nat)(us:List<|List Nat)(fr:Fr)(h:Hp)(a:List DRec):dg E d b r u us fr h a false (.bool true)=bif Zv ⟨false,[],none,none⟩ a u then Zm E r us (ZB fr d<|.tup []) h (a++[⟨false,[],none,none⟩])else none:=rfl
def Dm(d:Option Nat)(c:AOp)(r:List AOper)(u:List Nat)(us:List<|List Nat)(fr:Fr)(h:Hp)(a:List DRec)(b:Bool):dg E d c r u us fr h a b (.tup [])=bif Zv ⟨false,[],none,none⟩ a u then Zm E r us (ZB fr d<|.tup []) h (a++[⟨false,[],none,none⟩])else none:=by cases b<;>rfl
def O5{d:Option Nat}{f:AOp}{t:Nat}{b:Bool}{r:List AOper}{u:List Nat}{us:List (List Nat)}{fr:Fr}{h:Hp}{a:List DRec}:
 Zm E (⟨d,f,some (t,b)⟩::r) (u::us) fr h a=dg E d f r u us fr h a b (get fr t):=by
 rw[VS,S5];generalize get fr t=g;have e:(thn (some ((AV.tup []:AV),(⟨false,[],none,none⟩:DRec),(none:Option<|Nat×AObj))) λp=>okd a u h p.2.1 p.2.2<|Zm E r us (ZB fr d p.1) (ZH h p.2.2)<|a++[p.2.1]) =
  bif Zv ⟨false,[],none,none⟩ a u then Zm E r us (ZB fr d<|.tup []) h (a++[⟨false,[],none,none⟩])else none:=by
  simp only[ZM,okd,Ya,ZSW,ZH]
 cases g with
 |bool c=>
  cases b<;>cases c
  .exact VS.symm
  .exact e
  .exact e
  .exact VS.symm
 |tup vs=>
  cases vs with
  |nil=>rw[Dm];exact e
  |cons v vs=>cases b<;>rfl
 |_=>cases b<;>rfl
noncomputable def dn(E:Env)(a:List AOper):Option (Fr×Hp)->Option (AExit×Fr×Hp)
 |some (fr,h)=>nrm<|Z9 E a fr h
 |none=>none
def O6(a:List AOper)(fr:Fr)(h:Hp):dn E a (some (fr,h))=nrm (Z9 E a fr h):=rfl
def O7{b:List (List Nat)}{a c:List AOper}{fr:Fr}{h:Hp}:Zb E (.draw b a c) fr h=dn E c (Zm E a b fr h []):=by
 rw[Si];cases Zm E a b fr h []<;>rfl
def O8(x:DRec)(a:List DRec):Zv x a []=true:=(rfl)
def okQ(x:DRec):Option DRec->Bool
 |some y=>Qy x y
 |none=>false
def O9(x:DRec)(a:List DRec)(j:Nat)(u:List Nat):Zv x a (j::u)=(okQ x a[j]?&&Zv x a u):=by
 simp only[Zv,okQ];cases a[j]?<;>rfl
def Oa(x y:DRec):okQ x (some y)=Qy x y:=(rfl)
def Ob{d:Option Nat}{x:Arg}{r:List AOper}{u:List Nat}{us:List (List Nat)}{fr:Fr}{h:Hp}{a:List DRec}:
 Zm E (⟨d,.mv x,none⟩::r) (u::us) fr h a=bif Zv ⟨false,[],none,none⟩ a u then Zm E r us (ZB fr d<|ev E fr x) h (a++[⟨false,[],none,none⟩])else none:=by
 rw[VS,LG rfl];have b:ev E (Z2 (AOp.mv x).slots fr) x=ev E fr x:=by
  cases x<;>first|rfl|skip
  case t n=>simp[AOp.slots,Arg.slots,ev,Z2,get]
 simp only[Z8,b,Zl,ZT3,ZM,okd,Ya,ZSW,ZH];rfl
end Go.AM
namespace Go.AM
open Go
variable {E:Env}
def QD{a:AOp}{fr:Fr}{h:Hp}(b:X3 a=true)(d:a.isCall=false):Za E a fr h=⟨false,opT E (Z2 a.slots fr) a,none,none⟩:=by
 have e:Za E a fr h=QG E (Z2 a.slots fr) h a (match Z8 E (Z2 a.slots fr) h h.length a with|some r=>r.2.2|none=>none):=by
  cases a<;>first|rfl|(simp[AOp.isCall]at d)
 have f:(match Z8 E (Z2 a.slots fr) h h.length a with|some r=>r.2.2|none=>none)=none:=by
  cases c:Z8 E (Z2 a.slots fr) h h.length a with
  |none=>rfl
  |some r=>have⟨v,rs,g⟩:=r;exact Lm b c
 rw[e,f];cases a<;>first|rfl|(simp[X3]at b)
def bxr(h:Hp)(b:Bool):DRec:=bif b then⟨false,[],some h.length,none⟩else⟨false,[],none,none⟩
def Oc(h:Hp):bxr h true=⟨false,[],some h.length,none⟩:=rfl
def Od{sz:Nat}{x:Arg}{fr:Fr}{h:Hp}:Za E (.box sz x) fr h=bxr h (fits sz<|ev E (Z2 x.slots fr) x):=by
 simp only[Za,Z8,AOp.slots];cases fits sz (ev E (Z2 x.slots fr) x)<;>rfl
def str(a:AV):Option (AV×Hp)->DRec
 |some _=>⟨false,Zs a,(Zs a).head?,none⟩
 |none=>⟨false,Zs a,none,none⟩
def Oe(b i off g:Nat)(p:AV×Hp):str (.ptr b i off g) (some p)=⟨false,[b],some b,none⟩:=rfl
def Of{n:Nat}{a x:Arg}{fr:Fr}{h:Hp}:Za E (.store n a x) fr h=str (ev E (Z2 (a.slots++x.slots) fr) a) (stV h n (ev E (Z2 (a.slots++x.slots) fr) x)<|ev E (Z2 (a.slots++x.slots) fr) a):=by
 have m:Za E (.store n a x) fr h=QG E (Z2 (a.slots++x.slots) fr) h (.store n a x) (match Z8 E (Z2 (a.slots++x.slots) fr) h h.length (.store n a x)with|some r=>r.2.2|none=>none):=rfl
 rw[m];have e:=LR (E:=E) (d:=none) (n:=n) (a:=a) (x:=x) (r:=[]) (fr:=Z2 (a.slots++x.slots) fr) (h:=h);rw[V9,GE rfl]at e;generalize Z2 (a.slots++x.slots) fr=f at e⊢;have o:∀j,QG E f h (.store n a x) j=⟨false,Zs<|ev E f a,j.map (·.1),none⟩:=λj=>rfl
 rw[o];cases c:Z8 E f h h.length (.store n a x)with
 |none=>
  rw[c]at e;cases k:stV h n (ev E f x) (ev E f a)with
  |none=>rfl
  |some p=>have⟨v,q⟩:=p;rw[k]at e;simp only[LA,LI,KZ,RH]at e;cases e
 |some r=>
  rw[c]at e;cases k:stV h n (ev E f x) (ev E f a)with
  |none=>rw[k]at e;simp only[ZM,KZ,RH,stw,LA]at e;cases e
  |some p=>
   have⟨v,rs,j⟩:=r;simp only[Z8]at c;cases l:ev E f a with
   |ptr b i off g=>
    rw[l]at c;simp only at c;have:j.map (·.1)=some b:=by
     repeat' (split at c)
     all_goals try simp only[cond]at c
     all_goals (repeat' (split at c))
     all_goals first|(cases c;done)|(cases c;rfl)
    simp only[str,Zs,List.head?_cons,this]
   |_=>rw[l]at c;cases c
def wrB:Option Zt->Option Nat
 |some r=>r.2.2.map (·.1)
 |none=>none
def Og{fz:Bool}{sz bytes:Nat}{s x:Arg}{fr:Fr}{h:Hp}:Za E (.app fz sz bytes s x) fr h =
 ⟨false,Zs (ev E (Z2 (s.slots++x.slots) fr) s)++Zs (ev E (Z2 (s.slots++x.slots) fr) x),wrB<|Qt h h.length fz sz bytes (ev E (Z2 (s.slots++x.slots) fr) s)<|ev E (Z2 (s.slots++x.slots) fr) x,none⟩:=by
 simp only[Za,Z8,AOp.slots,QG,Wm,opT];cases Qt h h.length fz sz bytes (ev E (Z2 (s.slots++x.slots) fr) s) (ev E (Z2 (s.slots++x.slots) fr) x)<;>rfl
def ZA2{sz bytes:Nat}{s x:Arg}{fr:Fr}{h:Hp}:Za E (.apr sz bytes s x) fr h =
 ⟨false,Zs (ev E (Z2 (s.slots++x.slots) fr) s)++Zs (ev E (Z2 (s.slots++x.slots) fr) x),wrB<|Zwk h sz bytes (ev E (Z2 (s.slots++x.slots) fr) s)<|ev E (Z2 (s.slots++x.slots) fr) x,none⟩:=by
 simp only[Za,Z8,AOp.slots,QG,Wm,opT,Zwk];generalize Qt h h.length false sz bytes (ev E (Z2 (s.slots++x.slots) fr) s) (ev E (Z2 (s.slots++x.slots) fr) x)=q;cases q with
 |none=>rfl
 |some r=>dsimp only;cases ZvE h r<;>rfl
def ZA3{sz bytes:Nat}{s x:Arg}{d:Option Nat}{r:List AOper}{u:List Nat}{us:List (List Nat)}{fr:Fr}{h:Hp}{a:List DRec}:Zm E (⟨d,(.apr sz bytes s x),none⟩::r) (u::us) fr h a=dk E d r us (Zv (Za E (.apr sz bytes s x) fr h) a u) fr a (Za E (.apr sz bytes s x) fr h) (Z9 E [⟨some 0,(.apr sz bytes s x),none⟩] (Z2 (AOp.slots<|.apr sz bytes s x) fr) h):=Qb rfl
attribute [go_sem] ZA3 ZA2
def Oh{fr:Fr}{h:Hp}:Za E .mkm fr h=⟨false,[],some h.length,none⟩:=rfl
def Oi{p:Bool}{f:Nat}{a:List Arg}{fr:Fr}{h:Hp}:Za E (.call p f a) fr h=ZO9 h (evs E fr a):=rfl
def ZQT(h:Hp)(a:List AV):ZO9 h a=cRc h a (Zi a):=rfl
def ZQU(h:Hp)(a:List AV):cRc h a true=⟨false,[],none,none⟩:=rfl
attribute [go_sem] ZQT ZQU
def cvr(a:List AV):AV->DRec
 | .clo (.func _) first cap=>⟨!Zi (first++a++cap),[],none,none⟩
 |_=>⟨false,[],none,none⟩
def Oj(a:List AV)(g:Nat)(first cap:List AV):cvr a (.clo (.func g) first cap)=⟨!Zi (first++a++cap),[],none,none⟩:=rfl
def Ok{p:Bool}{x:Arg}{a:List Arg}{fr:Fr}{h:Hp}:Za E (.callv p x a) fr h=cvr (evs E fr a) (ev E fr x):=by
 simp only[Za];generalize ev E fr x=v;cases v<;>first|rfl|(rename_i fn _ _;cases fn<;>rfl)
def Ol{ex:Bool}{sz:Nat}{z:AV}{n:Nat}{ps:List (Nat×Arg)}{fr:Fr}{h:Hp}:Za E (.bsl true ex sz z n ps) fr h=⟨false,[],none,none⟩:=(QD rfl rfl).trans rfl
def Om{c a b:Arg}{d:Option Nat}{r:List AOper}{u:List Nat}{us:List (List Nat)}{fr:Fr}{h:Hp}{e:List DRec}:Zm E (⟨d,(.pick c a b),none⟩::r) (u::us) fr h e=dk E d r us (Zv (Za E (.pick c a b) fr h) e u) fr e (Za E (.pick c a b) fr h) (Z9 E [⟨some 0,(.pick c a b),none⟩] (Z2 (AOp.slots<|.pick c a b) fr) h):=Qb rfl
def Oo{c a b:Arg}{fr:Fr}{h:Hp}:Za E (.pick c a b) fr h=⟨false,opT E (Z2 (AOp.slots<|.pick c a b) fr)<|.pick c a b,none,none⟩:=QD rfl rfl
def Oq{sz:Nat}{x:Arg}{d:Option Nat}{r:List AOper}{u:List Nat}{us:List (List Nat)}{fr:Fr}{h:Hp}{a:List DRec}:Zm E (⟨d,(.box sz x),none⟩::r) (u::us) fr h a=dk E d r us (Zv (Za E (.box sz x) fr h) a u) fr a (Za E (.box sz x) fr h) (Z9 E [⟨some 0,(.box sz x),none⟩] (Z2 (AOp.slots<|.box sz x) fr) h):=Qb rfl
def Ot{sz:Nat}{x:Arg}{d:Option Nat}{r:List AOper}{u:List Nat}{us:List (List Nat)}{fr:Fr}{h:Hp}{a:List DRec}:Zm E (⟨d,(.ibox sz x),none⟩::r) (u::us) fr h a=dk E d r us (Zv (Za E (.ibox sz x) fr h) a u) fr a (Za E (.ibox sz x) fr h) (Z9 E [⟨some 0,(.ibox sz x),none⟩] (Z2 (AOp.slots<|.ibox sz x) fr) h):=Qb rfl
def Ou{z:List AV}{ps:List (Nat×Nat×Arg)}{d:Option Nat}{r:List AOper}{u:List Nat}{us:List (List Nat)}{fr:Fr}{h:Hp}{a:List DRec}:Zm E (⟨d,(.build z ps),none⟩::r) (u::us) fr h a=dk E d r us (Zv (Za E (.build z ps) fr h) a u) fr a (Za E (.build z ps) fr h) (Z9 E [⟨some 0,(.build z ps),none⟩] (Z2 (AOp.slots<|.build z ps) fr) h):=Qb rfl
def Ov{z:List AV}{ps:List (Nat×Nat×Arg)}{fr:Fr}{h:Hp}:Za E (.build z ps) fr h=⟨false,opT E (Z2 (AOp.slots<|.build z ps) fr)<|.build z ps,none,none⟩:=QD rfl rfl
def Ow{fz ex:Bool}{sz:Nat}{z:AV}{n:Nat}{ps:List (Nat×Arg)}{d:Option Nat}{r:List AOper}{u:List Nat}{us:List (List Nat)}{fr:Fr}{h:Hp}{a:List DRec}:Zm E (⟨d,(.bsl fz ex sz z n ps),none⟩::r) (u::us) fr h a=dk E d r us (Zv (Za E (.bsl fz ex sz z n ps) fr h) a u) fr a (Za E (.bsl fz ex sz z n ps) fr h) (Z9 E [⟨some 0,(.bsl fz ex sz z n ps),none⟩] (Z2 (AOp.slots<|.bsl fz ex sz z n ps) fr) h):=Qb rfl
def Ox{n:Option Nat}{x:Arg}{d:Option Nat}{r:List AOper}{u:List Nat}{us:List (List Nat)}{fr:Fr}{h:Hp}{a:List DRec}:Zm E (⟨d,(.load n x),none⟩::r) (u::us) fr h a=dk E d r us (Zv (Za E (.load n x) fr h) a u) fr a (Za E (.load n x) fr h) (Z9 E [⟨some 0,(.load n x),none⟩] (Z2 (AOp.slots<|.load n x) fr) h):=Qb rfl
def Oy{n:Option Nat}{x:Arg}{fr:Fr}{h:Hp}:Za E (.load n x) fr h=⟨false,opT E (Z2 (AOp.slots<|.load n x) fr)<|.load n x,none,none⟩:=QD rfl rfl
def Oz{n:Nat}{a x:Arg}{d:Option Nat}{r:List AOper}{u:List Nat}{us:List (List Nat)}{fr:Fr}{h:Hp}{b:List DRec}:Zm E (⟨d,(.store n a x),none⟩::r) (u::us) fr h b=dk E d r us (Zv (Za E (.store n a x) fr h) b u) fr b (Za E (.store n a x) fr h) (Z9 E [⟨some 0,(.store n a x),none⟩] (Z2 (AOp.slots<|.store n a x) fr) h):=Qb rfl
def OA{x:Arg}{d:Option Nat}{r:List AOper}{u:List Nat}{us:List (List Nat)}{fr:Fr}{h:Hp}{a:List DRec}:Zm E (⟨d,(.nilck x),none⟩::r) (u::us) fr h a=dk E d r us (Zv (Za E (.nilck x) fr h) a u) fr a (Za E (.nilck x) fr h) (Z9 E [⟨some 0,(.nilck x),none⟩] (Z2 (AOp.slots<|.nilck x) fr) h):=Qb rfl
def OB{x:Arg}{fr:Fr}{h:Hp}:Za E (.nilck x) fr h=⟨false,opT E (Z2 (AOp.slots<|.nilck x) fr)<|.nilck x,none,none⟩:=QD rfl rfl
def OC{f:BinOp}{x y:Arg}{d:Option Nat}{r:List AOper}{u:List Nat}{us:List (List Nat)}{fr:Fr}{h:Hp}{a:List DRec}:Zm E (⟨d,(.bin f x y),none⟩::r) (u::us) fr h a=dk E d r us (Zv (Za E (.bin f x y) fr h) a u) fr a (Za E (.bin f x y) fr h) (Z9 E [⟨some 0,(.bin f x y),none⟩] (Z2 (AOp.slots<|.bin f x y) fr) h):=Qb rfl
def OD{f:BinOp}{x y:Arg}{fr:Fr}{h:Hp}:Za E (.bin f x y) fr h=⟨false,opT E (Z2 (AOp.slots<|.bin f x y) fr)<|.bin f x y,none,none⟩:=QD rfl rfl
def OG{f:UnOp}{x:Arg}{d:Option Nat}{r:List AOper}{u:List Nat}{us:List (List Nat)}{fr:Fr}{h:Hp}{a:List DRec}:Zm E (⟨d,(.un f x),none⟩::r) (u::us) fr h a=dk E d r us (Zv (Za E (.un f x) fr h) a u) fr a (Za E (.un f x) fr h) (Z9 E [⟨some 0,(.un f x),none⟩] (Z2 (AOp.slots<|.un f x) fr) h):=Qb rfl
def OH{f:UnOp}{x:Arg}{fr:Fr}{h:Hp}:Za E (.un f x) fr h=⟨false,opT E (Z2 (AOp.slots<|.un f x) fr)<|.un f x,none,none⟩:=QD rfl rfl
def OM{off:Nat}{x:Arg}{d:Option Nat}{r:List AOper}{u:List Nat}{us:List (List Nat)}{fr:Fr}{h:Hp}{a:List DRec}:Zm E (⟨d,(.fadr off x),none⟩::r) (u::us) fr h a=dk E d r us (Zv (Za E (.fadr off x) fr h) a u) fr a (Za E (.fadr off x) fr h) (Z9 E [⟨some 0,(.fadr off x),none⟩] (Z2 (AOp.slots<|.fadr off x) fr) h):=Qb rfl
def ON{off:Nat}{x:Arg}{fr:Fr}{h:Hp}:Za E (.fadr off x) fr h=⟨false,opT E (Z2 (AOp.slots<|.fadr off x) fr)<|.fadr off x,none,none⟩:=QD rfl rfl
def OO{sz:Nat}{x i:Arg}{d:Option Nat}{r:List AOper}{u:List Nat}{us:List (List Nat)}{fr:Fr}{h:Hp}{a:List DRec}:Zm E (⟨d,(.iadr sz x i),none⟩::r) (u::us) fr h a=dk E d r us (Zv (Za E (.iadr sz x i) fr h) a u) fr a (Za E (.iadr sz x i) fr h) (Z9 E [⟨some 0,(.iadr sz x i),none⟩] (Z2 (AOp.slots<|.iadr sz x i) fr) h):=Qb rfl
def OP{sz:Nat}{x i:Arg}{fr:Fr}{h:Hp}:Za E (.iadr sz x i) fr h=⟨false,opT E (Z2 (AOp.slots<|.iadr sz x i) fr)<|.iadr sz x i,none,none⟩:=QD rfl rfl
def OQ{sz n:Nat}{x i:Arg}{d:Option Nat}{r:List AOper}{u:List Nat}{us:List (List Nat)}{fr:Fr}{h:Hp}{a:List DRec}:Zm E (⟨d,(.aadr sz n x i),none⟩::r) (u::us) fr h a=dk E d r us (Zv (Za E (.aadr sz n x i) fr h) a u) fr a (Za E (.aadr sz n x i) fr h) (Z9 E [⟨some 0,(.aadr sz n x i),none⟩] (Z2 (AOp.slots<|.aadr sz n x i) fr) h):=Qb rfl
def OR{sz n:Nat}{x i:Arg}{fr:Fr}{h:Hp}:Za E (.aadr sz n x i) fr h=⟨false,opT E (Z2 (AOp.slots<|.aadr sz n x i) fr)<|.aadr sz n x i,none,none⟩:=QD rfl rfl
def OS{x i:Arg}{d:Option Nat}{r:List AOper}{u:List Nat}{us:List (List Nat)}{fr:Fr}{h:Hp}{a:List DRec}:Zm E (⟨d,(.sidx x i),none⟩::r) (u::us) fr h a=dk E d r us (Zv (Za E (.sidx x i) fr h) a u) fr a (Za E (.sidx x i) fr h) (Z9 E [⟨some 0,(.sidx x i),none⟩] (Z2 (AOp.slots<|.sidx x i) fr) h):=Qb rfl
def OT{x i:Arg}{fr:Fr}{h:Hp}:Za E (.sidx x i) fr h=⟨false,opT E (Z2 (AOp.slots<|.sidx x i) fr)<|.sidx x i,none,none⟩:=QD rfl rfl
def OU{n:Option Nat}{sz a:Nat}{x i:Arg}{d:Option Nat}{r:List AOper}{u:List Nat}{us:List (List Nat)}{fr:Fr}{h:Hp}{b:List DRec}:Zm E (⟨d,(.aidx n sz a x i),none⟩::r) (u::us) fr h b=dk E d r us (Zv (Za E (.aidx n sz a x i) fr h) b u) fr b (Za E (.aidx n sz a x i) fr h) (Z9 E [⟨some 0,(.aidx n sz a x i),none⟩] (Z2 (AOp.slots<|.aidx n sz a x i) fr) h):=Qb rfl
def OV{n:Option Nat}{sz a:Nat}{x i:Arg}{fr:Fr}{h:Hp}:Za E (.aidx n sz a x i) fr h=⟨false,opT E (Z2 (AOp.slots<|.aidx n sz a x i) fr)<|.aidx n sz a x i,none,none⟩:=QD rfl rfl
def OW{x:Arg}{i:Nat}{d:Option Nat}{r:List AOper}{u:List Nat}{us:List (List Nat)}{fr:Fr}{h:Hp}{a:List DRec}:Zm E (⟨d,(.ext x i),none⟩::r) (u::us) fr h a=dk E d r us (Zv (Za E (.ext x i) fr h) a u) fr a (Za E (.ext x i) fr h) (Z9 E [⟨some 0,(.ext x i),none⟩] (Z2 (AOp.slots<|.ext x i) fr) h):=Qb rfl
def OX{x:Arg}{i:Nat}{fr:Fr}{h:Hp}:Za E (.ext x i) fr h=⟨false,opT E (Z2 (AOp.slots<|.ext x i) fr)<|.ext x i,none,none⟩:=QD rfl rfl
def OY{fn:Fn}{f c:List Arg}{d:Option Nat}{r:List AOper}{u:List Nat}{us:List (List Nat)}{fr:Fr}{h:Hp}{a:List DRec}:Zm E (⟨d,(.mkf fn f c),none⟩::r) (u::us) fr h a=dk E d r us (Zv (Za E (.mkf fn f c) fr h) a u) fr a (Za E (.mkf fn f c) fr h) (Z9 E [⟨some 0,(.mkf fn f c),none⟩] (Z2 (AOp.slots<|.mkf fn f c) fr) h):=Qb rfl
def OZ{fn:Fn}{f c:List Arg}{fr:Fr}{h:Hp}:Za E (.mkf fn f c) fr h=⟨false,opT E (Z2 (AOp.slots<|.mkf fn f c) fr)<|.mkf fn f c,none,none⟩:=QD rfl rfl
def P0{d:Option Nat}{r:List AOper}{u:List Nat}{us:List (List Nat)}{fr:Fr}{h:Hp}{a:List DRec}:Zm E (⟨d,.mkm,none⟩::r) (u::us) fr h a=dk E d r us (Zv (Za E .mkm fr h) a u) fr a (Za E .mkm fr h) (Z9 E [⟨some 0,.mkm,none⟩] (Z2 (AOp.slots .mkm) fr) h):=Qb rfl
def P1{ag:Bool}{b:List Nat}{m k v:Arg}{d:Option Nat}{r:List AOper}{u:List Nat}{us:List (List Nat)}{fr:Fr}{h:Hp}{a:List DRec}:Zm E (⟨d,(.ins ag b m k v),none⟩::r) (u::us) fr h a=dk E d r us (Zv (Za E (.ins ag b m k v) fr h) a u) fr a (Za E (.ins ag b m k v) fr h) (Z9 E [⟨some 0,(.ins ag b m k v),none⟩] (Z2 (AOp.slots<|.ins ag b m k v) fr) h):=Qb rfl
def P9{k:Nat}{x:Arg}{d:Option Nat}{r:List AOper}{u:List Nat}{us:List (List Nat)}{fr:Fr}{h:Hp}{a:List DRec}:Zm E (⟨d,(.len k x),none⟩::r) (u::us) fr h a=dk E d r us (Zv (Za E (.len k x) fr h) a u) fr a (Za E (.len k x) fr h) (Z9 E [⟨some 0,(.len k x),none⟩] (Z2 (AOp.slots<|.len k x) fr) h):=Qb rfl
def Pa{k:Nat}{x:Arg}{fr:Fr}{h:Hp}:Za E (.len k x) fr h=⟨false,opT E (Z2 (AOp.slots<|.len k x) fr)<|.len k x,none,none⟩:=QD rfl rfl
def Pb{fz:Bool}{sz bytes:Nat}{s x:Arg}{d:Option Nat}{r:List AOper}{u:List Nat}{us:List (List Nat)}{fr:Fr}{h:Hp}{a:List DRec}:Zm E (⟨d,(.app fz sz bytes s x),none⟩::r) (u::us) fr h a=dk E d r us (Zv (Za E (.app fz sz bytes s x) fr h) a u) fr a (Za E (.app fz sz bytes s x) fr h) (Z9 E [⟨some 0,(.app fz sz bytes s x),none⟩] (Z2 (AOp.slots<|.app fz sz bytes s x) fr) h):=Qb rfl
attribute [go_sem] Om Oo Oq Ot Ou Ov Ow Ox Oy Oz OA OB OC OD OG OH OM ON OO OP OQ OR OS OT OU OV OW OX OY OZ P0 P1 P9 Pa Pb Od Of Og Oh Oi Ok Ol Oc Oe Oj Ob IZ O0 O5 O1 O2 O3 O4 Dm IY S8 O7 O6 O8 O9 Oa AOp.slots Arg.slots Xp opT Zs
end Go.AM
namespace Go.AM
open Go
variable {E:Env}
def rlO(h:Hp)(b g off a:Nat)(ex:Bool):Option (Nat×List AV)->Option (AV×Hp)
 |some (sz,es)=>bif Z4 es then some (.isl false ex sz<|(es.drop off).take a,setH h b .gone)else none
 |none=>none
def Pi(h:Hp)(b g off a:Nat)(ex:Bool)(sz:Nat)(es:List AV)(c:Z4 es=true):rlO h b g off a ex (some (sz,es))=some (.isl false ex sz<|(es.drop off).take a,setH h b .gone):=by simp[rlO,c]
def rlV(h:Hp):AV->Option (AV×Hp)
 | .sl b g off len ex=>rlO h b g off len ex<|rowAt h b g
 |v=>bif (Zs v).isEmpty then some (v,h)else none
def Pj(h:Hp)(bw ex:Bool)(sz:Nat)(es:List AV):rlV h (.isl bw ex sz es)=some (.isl bw ex sz es,h):=(rfl)
def Pl(h:Hp)(b g off a:Nat)(ex:Bool):rlV h (.sl b g off a ex)=rlO h b g off a ex (rowAt h b g):=(rfl)
def Pm{d:Option Nat}{x:Arg}{r:List AOper}{fr:Fr}{h:Hp}:Z9 E (⟨d,.rel x,none⟩::r) fr h=stw E r d fr (rlV h<|ev E fr x):=
 X9 rfl (by
  simp only[Z8];generalize ev E fr x=v;cases v<;>first|rfl|skip
  case sl b g off len ex=>
   simp only[rlV,rowAt,rlO];cases h[b]? with
   |none=>rfl
   |some o=>
    cases o<;>first|rfl|skip
    case row sz es=>
     dsimp only;cases c:(es.length==g)
     .rfl
     .cases a:Z4 es<;>simp[a,ZH]<;>rfl)
attribute [go_sem] Pi Pj Pl Pm
mutual
def msz:AV->Nat
 | .agg cs=>1+QJ cs
 | .tup cs=>1+QJ cs
 | .clo _ a c=>1+QJ a+QJ c
 | .ifc _ v=>1+msz v
 |_=>1
def QJ:List AV->Nat
 |[]=>1
 |v::r=>1+msz v+QJ r
end
mutual
def Dn{h:Hp}:∀(n:Nat)(v:AV),Zy v=true->msz v<=n->freeze true h n v=some v
 |0,v,_,hm=>by cases v<;>simp[msz]at hm<;>omega
 |n+1,v,hn,hm=>by
  cases d:clean v with
  |true=>unfold freeze;rw[d];rfl
  |false=>
   unfold freeze;rw[d,cond_false];cases v with
   |agg cs=>
    have:=Jb (h:=h) n cs hn<|by simp[msz]at hm;omega
    simp only[this,ZT3]
   |tup cs=>
    have:=Jb (h:=h) n cs hn<|by simp[msz]at hm;omega
    simp only[this,ZT3]
   |ifc t x=>
    have:=Dn (h:=h) n x hn<|by simp[msz]at hm;omega
    simp only[this,ZT3]
   |clo fn a c=>
    have e:Zi a=true/\Zi c=true:=by simpa[Zy]using hn
    have k:=Jb (h:=h) n a e.1<|by simp[msz]at hm;omega
    have f:=Jb (h:=h) n c e.2<|by simp[msz]at hm;omega
    simp only[k,f]
   |iptr bw cs=>cases bw<;>first|rfl|(simp[clean]at d)
   |isl bw ex sz es=>cases bw<;>first|rfl|(simp[clean]at d)
   |imap bw l vs=>cases bw<;>first|rfl|(simp[clean]at d)
   |ptr b i off g=>simp[Zy]at hn
   |sl b g off j ex=>simp[Zy]at hn
   |mp b=>simp[Zy]at hn
   |it b=>simp[Zy]at hn
   |yld b=>simp[Zy]at hn
   |_=>simp[clean]at d
def Jb{h:Hp}:∀(n:Nat)(v:List AV),Zi v=true->QJ v<=n->ZC true h n v=some v
 |0,v,_,hm=>by cases v<;>simp[QJ]at hm<;>omega
 |n+1,v,hn,hm=>by
  cases b:Z4 v with
  |true=>unfold ZC;rw[b];rfl
  |false=>
   unfold ZC;rw[b,cond_false];cases v with
   |nil=>rfl
   |cons x r=>
    have a:Zy x=true/\Zi r=true:=by simpa[Zi]using hn
    have c:=Dn (h:=h) n x a.1<|by simp[QJ]at hm;omega
    have d:=Jb (h:=h) n r a.2<|by simp[QJ]at hm;omega
    simp only[c,d]
end
def GQ(h:Hp)(l:List AV)(b:Zi l=true)(a:QJ l<=40):Ql h l=some l:=by
 unfold Ql;cases c:Z4 l with
 |true=>rfl
 |false=>exact Jb 40 l b a
def Pn:QJ []=1:=(rfl)
def Po(v:AV)(r:List AV):QJ (v::r)=1+msz v+QJ r:=(rfl)
def Pp(cs:List AV):msz (.agg cs)=1+QJ cs:=(rfl)
def Pr(fn:Fn)(a c:List AV):msz (.clo fn a c)=1+QJ a+QJ c:=(rfl)
def Ps(b:Bool):msz (.bool b)=1:=(rfl)
def Pu(k:IntKind)(n:Int):msz (.int k n)=1:=(rfl)
def Pv(s:ByteArray):msz (.str s)=1:=(rfl)
def Pw(bw ex:Bool)(sz:Nat)(es:List AV):msz (.isl bw ex sz es)=1:=(rfl)
def Px(bw:Bool)(es:List AV):msz (.iptr bw es)=1:=(rfl)
attribute [go_sem] Pn Po Pp Pr Ps Pu Pv Pw Px
attribute [go_sem 1100] GQ
end Go.AM
namespace Go.AM
open Go
variable {E:Env}
def frV(fr:Fr):List AV:=fr.map (·.2)
def Pz(n:Nat):Zd n []=true:=(rfl)
def PA(n:Nat)(v:AV)(r:List AV):Zd n (v::r)=(bel n v&&Zd n r):=(rfl)
def PB(n:Nat):bel n .bot=true:=(rfl)
def PC(n:Nat)(b:Bool):bel n (.bool b)=true:=(rfl)
def PD(n:Nat)(k:IntKind)(i:Int):bel n (.int k i)=true:=(rfl)
def PE(n:Nat)(s:ByteArray):bel n (.str s)=true:=(rfl)
def PF(n:Nat)(bw ex:Bool)(sz:Nat)(es:List AV):bel n (.isl bw ex sz es)=true:=(rfl)
def PG(n:Nat)(bw:Bool)(es:List AV):bel n (.iptr bw es)=true:=(rfl)
def PI(n:Nat)(cs:List AV):bel n (.agg cs)=Zd n cs:=(rfl)
def PN(n:Nat):bel n .nilfn=true:=(rfl)
def PO(n:Nat)(fn:Fn)(a c:List AV):bel n (.clo fn a c)=(Zd n a&&Zd n c):=(rfl)
def PQ(n b i off g:Nat):bel n (.ptr b i off g)=Nat.blt b n:=(rfl)
def PR(n b g off a:Nat)(ex:Bool):bel n (.sl b g off a ex)=Nat.blt b n:=(rfl)
def PS(n b:Nat):bel n (.mp b)=Nat.blt b n:=(rfl)
def PT(n b:Nat):bel n (.it b)=Nat.blt b n:=(rfl)
def PU(n b:Nat):bel n (.yld b)=Nat.blt b n:=(rfl)
def PV(n sz:Nat)(es:List AV):Zj n (.row sz es)=Zd n es:=(rfl)
def PW(n:Nat)(a vs:List AV):Zj n (.map a vs)=(Zd n a&&Zd n vs):=(rfl)
def PX(n:Nat)(s:ByteArray)(p:Nat):Zj n (.iter s p)=true:=(rfl)
def PY(n:Nat):Zj n .gone=true:=(rfl)
def Z00(n:Nat)(c:LoopState)(p:AExit)(fr:Fr)(ps:List Nat)(a b:ACode):Zj n (.loop c p fr ps a b)=Zd n (frV fr):=(rfl)
def Z01(n:Nat):X4 n []=true:=(rfl)
def Z02(n:Nat)(o:AObj)(r:List AObj):X4 n (o::r)=(Zj n o&&X4 n r):=(rfl)
def trimB(n:Nat)(h:Hp)(b:Bool):Hp:=bif b then h.take n else h
def Z03(n:Nat)(h:Hp):trimB n h true=h.take n:=(rfl)
def Z04(n:Nat)(h:Hp):trimB n h false=h:=(rfl)
def Z05:frV []=[]:=(rfl)
def Z06(t:Nat)(v:AV)(r:Fr):frV ((t,v)::r)=v::frV r:=(rfl)
def Z07(n:Nat)(fr:Fr)(o:AObj)(h:Hp):Xq n fr (o::h)=trimB n (o::h) (Zd n (frV fr)&&X4 n ((o::h).take n)):=(rfl)
mutual
def Dp{n:Nat}:∀v:AV,clean v=true->bel n v=true
 | .agg cs,h=>ZN cs h
 | .tup cs,h=>ZN cs h
 | .ifc _ v,h=>Dp v h
 | .clo _ a c,h=>by
  have h':Z4 a=true/\Z4 c=true:=by simpa[clean]using h
  simp only[bel,ZN a h'.1,ZN c h'.2,ZTl]
 | .ptr ..,h| .sl ..,h| .mp _,h| .it _,h| .yld _,h=>by simp[clean]at h
 | .bot,_| .bool _,_| .int ..,_| .str _,_| .nilp,_| .nilsl,_| .nilmap,_| .nilfn,_| .nilif,_| .iptr ..,_| .isl ..,_| .imap ..,_=>rfl
def ZN{n:Nat}:∀l:List AV,Z4 l=true->Zd n l=true
 |[],_=>rfl
 |v::r,h=>by
  have h':clean v=true/\Z4 r=true:=by simpa[Z4]using h
  simp only[Zd,Dp v h'.1,ZN r h'.2,ZTl]
end
attribute [go_sem] Pz PA PB PC PD PE PF PG PI PN PO PQ PR PS PT PU PV PW PX PY Z00 Z01 Z02 Z03 Z04 Z05 Z06 Z07 List.take_succ_cons List.take_zero List.take_nil List.length_cons List.length_nil List.length_map List.map_cons List.map_nil List.nil_append List.cons_append
def scalar_int(k:IntKind)(n:Int):scalar (.int k n)=true:=(rfl)
def Z09(s:ByteArray):scalar (.str s)=true:=(rfl)
def Z0a(bw ex:Bool)(sz:Nat)(es:List AV):scalar (.isl bw ex sz es)=true:=(rfl)
def Z0b(bw:Bool)(es:List AV):scalar (.iptr bw es)=true:=(rfl)
def Z0d(fn:Fn)(a c:List AV):scalar (.clo fn a c)=true:=(rfl)
def Z0f(b g off a:Nat)(ex:Bool):scalar (.sl b g off a ex)=true:=(rfl)
def Z0g(b:Nat):scalar (.mp b)=true:=(rfl)
def Z0j:scalar .nilfn=true:=(rfl)
def Z0k(sz:Nat)(cs:List AV):fits sz (.agg cs)=(cs.length==sz&&cs.all scalar):=(rfl)
def fits_bool(sz:Nat)(b:Bool):fits sz (.bool b)=(sz==1):=(rfl)
def fits_int(sz:Nat)(k:IntKind)(n:Int):fits sz (.int k n)=(sz==1):=(rfl)
def Z0l(sz:Nat)(s:ByteArray):fits sz (.str s)=(sz==1):=(rfl)
def Z0m(sz:Nat)(bw ex:Bool)(z:Nat)(es:List AV):fits sz (.isl bw ex z es)=(sz==1):=(rfl)
def Z0n(sz:Nat)(b g off a:Nat)(ex:Bool):fits sz (.sl b g off a ex)=(sz==1):=(rfl)
def Z0o(sz:Nat)(b i off g:Nat):fits sz (.ptr b i off g)=(sz==1):=(rfl)
def Z0p(sz:Nat)(bw:Bool)(es:List AV):fits sz (.iptr bw es)=(sz==1):=(rfl)
def Z0q(sz:Nat)(b:Nat):fits sz (.mp b)=(sz==1):=(rfl)
def Z0r(sz:Nat)(fn:Fn)(a c:List AV):fits sz (.clo fn a c)=(sz==1):=(rfl)
attribute [go_sem] scalar_int Z09 Z0a Z0b Z0d Z0f Z0g Z0j Z0k fits_bool fits_int Z0l Z0m Z0n Z0o Z0p Z0q Z0r List.all_cons List.all_nil List.drop_succ_cons List.drop_zero List.drop_nil
def Ue(a b:Nat):Nat.ble a b=decide (a<=b):=by rw[ZUJ];simp
def N7(a b:Nat):Nat.blt a b=decide (a<b):=by rw[ZUJ];simp[ZTw]
def Z0s(cs:List AV):fill cs []=some cs:=(rfl)
def Z0t(cs:List AV)(off sz:Nat)(v:AV)(r:List<|Nat×Nat×AV):fill cs ((off,sz,v)::r)=bif fits sz v&&Nat.ble (off+sz) cs.length then fill (cs.take off++v.cells++cs.drop (off+sz)) r else none:=(rfl)
def Z0u(sz:Nat)(cs:List AV):YC sz cs []=some cs:=(rfl)
def Z0v(sz:Nat)(cs:List AV)(i:Nat)(v:AV)(r:List<|Nat×AV):YC sz cs ((i,v)::r)=bif fits sz v&&Nat.blt i cs.length then YC sz (cs.set i v) r else none:=(rfl)
attribute [go_sem] Ue N7 Z0s Z0t Z0u Z0v List.set_cons_zero List.set_cons_succ List.replicate_succ List.replicate_zero
def Z0w(e a:Bool)(c b:List Nat)(d f:Option<|AV×AV):Qy ⟨e,c,none,d⟩ ⟨a,b,none,f⟩=true:=(rfl)
def Z0x(a1 a2:Bool)(r1 r2:List Nat)(b:Nat)(k1 k2:Option<|AV×AV):Qy ⟨a1,r1,some b,k1⟩ ⟨a2,r2,none,k2⟩=(!a2&&!r2.contains b):=by simp[Qy]
def Z0y(a1 a2:Bool)(r1 r2:List Nat)(b:Nat)(k1 k2:Option<|AV×AV):Qy ⟨a1,r1,none,k1⟩ ⟨a2,r2,some b,k2⟩=(!a1&&!r1.contains b):=by simp[Qy]
def Z0z(a1 a2:Bool)(r1 r2:List Nat)(b c:Nat)(k1 k2:Option<|AV×AV):Qy ⟨a1,r1,some b,k1⟩ ⟨a2,r2,some c,k2⟩=((!a2&&!r2.contains b&&(!(c==b)||Kp ⟨a1,r1,some b,k1⟩ ⟨a2,r2,some c,k2⟩))&&(!a1&&!r1.contains c)):=(rfl)
attribute [go_sem] Z0w Z0x Z0y Z0z List.contains_cons List.contains_nil Bool.true_or Bool.or_true Bool.false_or Bool.or_false
noncomputable def Zg(E:Env)(live:List Nat)(b:ACode)(fr:Fr)(h:Hp):Option (AExit×Fr×Hp):=Zb E (.loop live b) fr h
def Z0A{live:List Nat}{b:ACode}{fr:Fr}{h:Hp}:Zb E (.loop live b) fr h=Zg E live b (Z2 live fr) h:=by
 unfold Zg;exact GF
attribute [go_sem] Z0A
def Yt{live:List Nat}{b:ACode}{fr fr':Fr}{h h':Hp}(a:Z2 live fr=fr)(c:Zb E b fr h=some (.normal,fr',h')):Zg E live b fr h=Zg E live b (Z2 live fr') h':=by
 unfold Zg;rw[J2,a,c,LH];exact GF
def Q7{live:List Nat}{b:ACode}{fr fr':Fr}{h h':Hp}{e:AExit}(a:Z2 live fr=fr)(d:Zb E b fr h=some (e,fr',h'))(c:e≠.normal):Zg E live b fr h=some (e,fr',h'):=by
 unfold Zg;rw[J2,a,d];cases e<;>first|exact absurd rfl c|rfl
def Z9Y{live:List Nat}{b:ACode}(n:Nat)(M:Nat->Fr->Hp->Prop)(Q:AExit->Fr->Hp->Prop)
 (m:∀i fr h,M i fr h->Z2 live fr=fr)
 (d:∀i fr h,i<n->M i fr h->(∃fr' h',Zb E b fr h=some (.normal,fr',h')/\M (i+1) (Z2 live fr') h')\/(∃e fr' h',Zb E b fr h=some (e,fr',h')/\e≠.normal/\Q e fr' h'))
 (f:∀fr h,M n fr h->∃e fr' h',Zb E b fr h=some (e,fr',h')/\e≠.normal/\Q e fr' h'):
 ∀k i fr h,k+i=n->M i fr h->∃e fr' h',Zg E live b fr h=some (e,fr',h')/\Q e fr' h':=by
 intro k;induction k with
 |zero=>
  intro i fr h p a;have:i=n:=by omega
  subst this;have⟨e,fr',h',g,c,l⟩:=f fr h a;exact⟨e,fr',h',Q7 (m _ _ _ a) g c,l⟩
 |succ k s=>
  intro i fr h p a;rcases d i fr h (by omega) a with⟨fr',h',g,c⟩|⟨e,fr',h',g,c,l⟩
  .have⟨e,o,j,q,r⟩:=s (i+1) _ h' (by omega) c
   exact⟨e,o,j,(Yt (m _ _ _ a) g).trans q,r⟩
  .exact⟨e,fr',h',Q7 (m _ _ _ a) g c,l⟩
def Zu{a:Type}(P:Nat->a->Bool):Nat->List a->Bool
 |_,[]=>true
 |i,x::r=>P i x&&Zu P (i+1) r
def QE{a:Type}(P:a->Bool):∀(l:List a)(i:Nat),Zu (λ_ x=>P x) i l=l.all P
 |[],_=>rfl
 |x::r,i=>by simp only[Zu,ZTE,QE P r]
def Uf{o:Type}{live:List Nat}{b:ACode}{h:Hp}(l:List o)(P:Nat->o->Bool)(S:Nat->Fr)(d:Nat)(Q:Fr->Prop)
 (p:∀i,Z2 live (S i)=S i)
 (g:∀i x,l[i]?=some x->P i x=true->∃fr',Zb E b (S i) h=some (.normal,fr',h)/\Z2 live fr'=S (i+1))
 (m:∀i x,l[i]?=some x->P i x=false->∃fr',Zb E b (S i) h=some (.ret,fr',h)/\Q fr')
 (j:∃fr',Zb E b (S l.length) h=some (.exit d,fr',h)):
 ∃fr',Zg E live b (S 0) h=some (if Zu P 0 l=true then .exit d else .ret,fr',h)/\(Zu P 0 l=false->Q fr'):=by
 suffices H:∀(c a:List o),l=a++c->∃fr',Zg E live b (S a.length) h=some (if Zu P a.length c=true then .exit d else .ret,fr',h)/\(Zu P a.length c=false->Q fr')from H l [] rfl
 intro c;induction c with
 |nil=>
  intro a k;have⟨fr',e⟩:=j;have:l.length=a.length:=by rw[k];simp
  rw[this]at e;exact⟨fr',by simpa[Zu]using Q7 (p _) e (by simp),λh=>by simp[Zu]at h⟩
 |cons x c u=>
  intro a k;have q:l[a.length]?=some x:=by rw[k];simp
  cases f:P a.length x with
  |true=>
   have⟨t,e,n⟩:=g _ _ q f;have⟨fr',r,s⟩:=u (a++[x])<|by simp[k]
   rw[ZSJ,ZTT]at r s;refine⟨fr',?_,?_⟩
   .rw[Yt (p _) e,n,r];simp only[Zu,f,ZSB]
   .simpa only[Zu,f,ZSB]using s
  |false=>
   have⟨fr',e,n⟩:=m _ _ q f;refine⟨fr',?_,λ_=>n⟩
   rw[Q7 (p _) e<|by simp]
   simp[Zu,f]
end Go.AM
namespace Go.AM
open Go
variable {E:Env}
def ghC(h:Hp)(b off s sz:Nat)(cs:List AV):Option AV->Option Hp
 |some .nilsl=>bif Nat.blt 0 s then some (setH h b (.row sz [.agg<|cs.set off<|.sl h.length 0 0 0 false])++[.row s []])else none
 |_=>none
def ZQV(h:Hp)(b off s sz:Nat)(cs:List AV):ghC h b off (s+1) sz cs (some .nilsl)=some (setH h b (.row sz [.agg<|cs.set off<|.sl h.length 0 0 0 false])++[.row (s+1) []]):=rfl
def ghP(h:Hp)(b off s:Nat):Option (Nat×List AV)->Option Hp
 |some (sz,[.agg cs])=>ghC h b off s sz cs cs[off]?
 |_=>none
def ZQW(h:Hp)(b off s sz:Nat)(cs:List AV):ghP h b off s (some (sz,[.agg cs]))=ghC h b off s sz cs cs[off]?:=rfl
def ghV(off s:Nat)(h:Hp):AV->Option Hp
 | .ptr b 0 0 1=>ghP h b off s<|rowAt h b 1
 |_=>none
def ZQX(off s:Nat)(h:Hp)(b:Nat):ghV off s h (.ptr b 0 0 1)=ghP h b off s (rowAt h b 1):=rfl
def ZQY{d off s:Nat}{fr:Fr}{h:Hp}:ghW d off s fr h=ghV off s h (get fr d):=by
 unfold ghW;generalize get fr d=v;unfold ghV;split
 .rename_i b;simp only[rowAt];cases h[b]? with
  |none=>rfl
  |some o=>
   cases o<;>first|rfl|skip
   case row sz es=>
    match es with
    |[]=>rfl
    |[e]=>cases e<;>rfl
    |e::e2::r=>
     have:((e::e2::r).length==1)=false:=by simp
     simp only[this,cond_false,ghP]
 .rename_i a;split
  .rename_i b;exact(a b rfl).elim
  .rfl
def ghN(fr:Fr):Option Hp->Option (AExit×Fr×Hp)
 |some h=>some (.normal,fr,h)
 |none=>none
def ZQZ(fr:Fr)(h:Hp):ghN fr (some h)=some (.normal,fr,h):=rfl
def ZR0(d off s:Nat)(fr:Fr)(h:Hp):gh d off s (some (.normal,fr,h))=ghN fr (ghV off s h<|get fr d):=by
 rw[ZQG,ZQY];cases ghV off s h (get fr d)<;>rfl
def ZHj(d:Option Nat)(r:List AOper)(u:List Nat)(us:List<|List Nat)(fr:Fr)(h:Hp)(a:List DRec)(p:AV×DRec×Option (Nat×AObj)):
 rkw E d r u us fr h a (some p)=okd a u h p.2.1 p.2.2 (Zm E r us (ZB fr d p.1) (ZH h p.2.2)<|a++[p.2.1]):=rfl
attribute [go_sem] ZQV ZQW ZQX ZR0 ZQZ ZQH ZHj ZL4
end Go.AM
namespace Go.AM
open Go
def ZvF(a:List AV)(x:AV):Option (List Int):=match a,x with
 |[.iptr _ [.isl _ _ 8 vs]],.agg [.int .i64 i,.int .i64 k]=>bif decide (0<=i)&&decide (0<=k)then(match vs[i.toNat]? with
  |some (.agg [.int .i64 au,.int .i64 nu,.int .i64 at',.str _,.isl _ _ 18 es,.int .i64 _,.isl _ _ _ _,.isl _ _ _ _])=>match es[k.toNat]? with
   |some (.agg<|_::.int .i64 day::_)=>some [day,at',au,nu,k]
   |_=>none
  |_=>none)else none
 |_,_=>none
def ZEf:AV->Option (List Int)
 | .agg [.str s,.int .i64 _,.int .i64 _]=>some<|s.data.toList.map λb=>(b.toNat:Int)
 |_=>none
def N8(f:Nat):Option (List AV->Hp->Option (AV×Hp)):=
 bif Nat.blt f 252 then(bif Nat.blt f 192 then(bif Nat.blt f 53 then(bif Nat.beq f 52 then some (Ja)else none)else(bif Nat.blt f 65 then(bif Nat.beq f 53 then some (ZOu)else none)else(bif Nat.beq f 65 then some (ZvW 66 2 ZvF)else none)))else(bif Nat.blt f 246 then(bif Nat.blt f 193 then(bif Nat.beq f 192 then some (U9)else none)else(bif Nat.beq f 193 then some (J6)else none))else(bif Nat.blt f 250 then(bif Nat.beq f 246 then some (J9)else none)else(bif Nat.beq f 250 then some (ZO3 2)else none))))else(bif Nat.blt f 264 then(bif Nat.blt f 258 then(bif Nat.blt f 257 then(bif Nat.beq f 252 then some (ZoZ 338)else none)else(bif Nat.beq f 257 then some (J7)else none))else(bif Nat.blt f 261 then(bif Nat.beq f 258 then some (J8)else none)else(bif Nat.beq f 261 then some (ZO3 6)else none)))else(bif Nat.blt f 272 then(bif Nat.blt f 269 then(bif Nat.beq f 264 then some (ZO3 5)else none)else(bif Nat.beq f 269 then some (ZO3 16)else none))else(bif Nat.blt f 275 then(bif Nat.beq f 272 then some (ZO3 4)else none)else(bif Nat.beq f 275 then some (ZO3 6)else none))))
def ZP8(f:Nat):Option (List AV->Hp->Option (AV×Hp)):=bif Nat.blt f 103 then(bif Nat.beq f 13 then some ZOM else bif Nat.beq f 30 then some ZON else bif Nat.beq f 43 then some (ZEo<|ZE7 44)else bif Nat.beq f 45 then some (ZEo<|ZEe 46 3 ZEf)else N8 f)else bif Nat.beq f 103 then some ZOO else bif Nat.beq f 111 then some ZOt else N8 f
def ZF1(f:Nat):Option (List AV->Nat->List AV->Option (List AV)):=bif Nat.beq f 43 then some (ZE7 44)else bif Nat.beq f 45 then some (ZEe 46 3 ZEf)else none
class REdz where
 hd:Option<|List AV->Hp->Option (AV×Hp)
def ZP9:List Int:=[0,1,56,2,57,49,28,3,61,58,42,50,38,29,17,4,62,47,59,36,45,43,51,22,53,39,33,30,24,18,12,5,63,55,48,27,60,41,37,16,46,35,44,21,52,32,23,11,54,26,40,15,34,20,31,10,25,14,19,9,13,8,7,6]
def glT(g:Nat):AV:=bif Nat.ble g 1 then .iptr false [.ifc 373 .bot]else bif Nat.beq g 2 then .iptr false (Go.Lib.pow10Tab.map<|.int .u64)else bif Nat.beq g 7 then .iptr false (ZP9.map<|.int .u8)else .bot
def ckS(k:Nat):List AV->Bool
 |[.iptr false [.clo (.func f) [] []]]=>Nat.beq f k
 |_=>false
def ZEm(a:List AV)(x:AV):Option (List Int):=bif ckS 46 a then ZEf x else none
def ZFE(f:Nat):Option (List AV->Hp->Option (AV×Hp)):=bif Nat.beq f 97 then some (ZEt 98<|ckS 44)else bif Nat.beq f 100 then some (ZvW 101 3 ZEm)else none
def e1:Env:={fn:=ZGw,gl:=glT,sum:=ZFE}
def rE[REdz]:Env:={fn:=N0,gl:=glT,sum:=λf=>bif Nat.beq f 8 then REdz.hd else ZP8 f,rs:=ZF1}
def XB(sz:Nat)(n:Option Nat):ACode:=
 .keep [0,1,4,7,8]<|.seq (.region [o 9<|.bin .lss (.t 8)<|.t 7])<|
  .seq (.cond (.t 9) (.skip)<|.exit 0)<|
  .seq (.keep [0,1,4,7,8]<|.block 1<|
   .seq (.region [o 10<|.mv<|.t 8,o 5<|.mv<|.t 10])<|
   .seq (.keep [0,1,5,7,8,16]<|.region [o 11<|.mv<|.t 1,o 12<|.mv<|.t 0,o 13<|.mv<|.t 5,o 14<|.iadr sz (.t 12)<|.t 13,o 15<|.load n<|.t 14,o 16<|.callv true (.t 11) [(.t 15)]])<|
   .cond (.t 16) (.seq (.region [o 17<|.mv<|.t 5,o 4<|.mv<|.t 17])<|.ret) (.skip))<|
  .region [o 18<|.bin .add (.t 8)<|.c<|.int .i64 1,o 8<|.mv<|.t 18]
def GR(sz:Nat)(n:Option Nat):ACode:=
 .seq (.region [o 4<|.mv<|.c<|.int .i64 0])<|
 .seq (.seq (.keep [0,1,7,8]<|.region [o 6<|.mv<|.t 0,o 7<|.len 1<|.t 6,o 8<|.mv<|.c<|.int .i64 0])<|
 .keep [4]<|.block 0<|.loop [0,1,7,8]<|XB sz n)<|
 .seq (.region [o 4<|.mv<|.c<|.int .i64<|-1])<|
 .ret
def Zp{a:Type}(p:a->Bool):List a->Int->Int
 |[],_=>-1
 |x::r,i=>bif p x then i else Zp p r<|i+1
def Yu(n:Option Nat)(e:AV):Prop:=clean e=true/\takeC n e.cells=some e
def Vd{a:Type}(sz:Nat)(g:Nat)(cap:List AV)(enc:a->AV)(l:List a)(bw ex:Bool)(i:Nat):Fr:=
 [(0,.isl bw ex sz<|l.map enc),(1,.clo (.func g) [] cap),(7,.int .i64 l.length),(8,.int .i64 i)]
def Z0B{E:Env}{r:Type}{sz:Nat}{n:Option Nat}{enc:r->AV}{p:r->Bool}{g:Nat}{cap:List AV}(j:Z4 cap=true)(l:List r)(B:l.length<=4611686018427387904)(e:∀x∈l,Yu n<|enc x)
 (y:∀x∈l,pfn E g (enc x::cap)=some (.bool<|p x)) (bw ex:Bool):∀(b a:List r),l=a++b->
  ∃fr',Zb E (.loop [0,1,7,8]<|XB sz n) (Vd sz g cap enc l bw ex a.length) []=some (if Zp p b a.length=-1 then .exit 0 else .ret,fr',[])/\(Zp p b a.length≠-1->get fr' 4=.int .i64 (Zp p b a.length)):=by
 intro b;induction b with
 |nil=>
  intro a c;have q:decide ((a.length:Int)<(l.length:Int))=false:=by subst c;simp
  rw[J2];unfold Vd;simp only[go_sem,XB,q,qy,reduceIte,Zp];exact⟨_,rfl,λh=>absurd rfl h⟩
 |cons x b w=>
  intro a c;have s:x∈l:=by rw[c];simp
  have k:a.length<l.length:=by rw[c];simp
  have q:decide ((a.length:Int)<(l.length:Int))=true:=by simpa using k
  have d:ixG (l.map enc) (a.length:Int)=some (enc x):=by rw[c,ZSF,ZSx];have:=RK (a.map enc) (enc x)<|b.map enc;rwa[ZSs]at this
  have i:=(e x s).2;have o:Z4 (enc x::cap)=true:=by simp[Z4,(e x s).1,j]
  have m:=y x s;rw[J2];unfold Vd;have z:IntKind.i64.wrap ((a.length:Int)+1)=((a++[x]).length:Int):=by rw[Zx<|by omega];simp
  have t:((a++[x]).length:Int)=(a.length:Int)+1:=by simp
  cases f:p x with
  |true=>
   have A:((a.length:Int)=-1)=False:=by simp
   simp only[go_sem,XB,q,d,i,o,m,f,qy,reduceIte,Zp,ZSz,ZSv,A];exact⟨_,rfl,λ_=>rfl⟩
  |false=>
   have⟨fr',v,u⟩:=w (a++[x])<|by simp[c]
   rw[t]at v u;simp only[go_sem,XB,q,d,i,o,m,f,z,qy,reduceIte,Zp,ZSz,ZSv];exact⟨fr',(Dl<|by rfl).trans v,u⟩
def WF{E:Env}{f:Nat}{e:Type}{sz:Nat}{n:Option Nat}{enc:e->AV}{p:e->Bool}{g:Nat}{cap:List AV}(i:E.sum f=none)(k:E.fn f=some ⟨[.tmp 4],GR sz n⟩)(a:Z4 cap=true)(l:List e)(m:l.length<=4611686018427387904)
 (b:∀x∈l,Yu n<|enc x) (q:∀x∈l,pfn E g (enc x::cap)=some (.bool<|p x)) (bw ex:Bool):pfn E f [.isl bw ex sz<|l.map enc,.clo (.func g) [] cap]=some (.int .i64<|Zp p l 0):=by
 rw[Z5 i k];obtain⟨fr',o,h⟩:=Z0B (E:=E) a l m b q bw ex l [] rfl;have r:Z2 [0,1,7,8] [(8,AV.int .i64 0),(7,AV.int .i64 l.length),(6,AV.isl bw ex sz<|l.map enc),(4,AV.int .i64 0),(0,AV.isl bw ex sz<|l.map enc),(1,AV.clo (.func g) [] cap)]=Z2 [0,1,7,8] (Vd sz g cap enc l bw ex 0):=by rfl
 have d:Zb E (.loop [0,1,7,8]<|XB sz n) [(0,AV.isl bw ex sz<|l.map enc),(1,AV.clo (.func g) [] cap),(7,AV.int .i64 l.length),(8,AV.int .i64 0)] []=some (if Zp p l 0=-1 then .exit 0 else .ret,fr',[]):=o
 unfold GR;by_cases c:Zp p l 0=-1
 .rw[if_pos c]at d;simp only[go_sem,d,c,qy,Nat.reduceAdd,ZSs]
 .rw[if_neg c]at d;have j:get fr' 4=AV.int .i64 (Zp p l 0):=h c;simp only[go_sem,d,j,qy,Nat.reduceAdd,ZSs]
structure SL(α:Type) where
 bw:Bool:=false
 ex:Bool:=false
 l:List α
 deriving DecidableEq
structure NL(α:Type) where
 ex:Bool:=false
 l:List α
 deriving DecidableEq
abbrev Str:=ByteArray
structure Pt where
 X:Int
 Y:Int
 deriving DecidableEq
structure HN where
 N:Int
 bn:Str
 Num:Int
 Den:Int
 deriving DecidableEq
structure Nm where
 Lang:Str
 Script:Int
 Text:Str
 deriving DecidableEq
structure Ent where
 Id:Str
 An:HN
 bg:Pt
 deriving DecidableEq
structure Gk where
 Id:Str
 br:Int
 bh:Int
 Ring:NL Pt
 bm:NL Nm
 Ld:Int
structure By where
 Id:Str
 bh:Int
 Line:NL Pt
 bm:NL Nm
 Ld:Int
structure Ev where
 Id:Str
 bh:Int
 Ring:NL Pt
 Ld:Int
structure Ga where
 Id:Str
 Ev:Str
 By:Str
 bh:Int
 An:HN
 bg:Pt
 From:Int
 Ld:Int
 After:NL Str
 Why:Int
 bz:Int
 Veil:Str
structure be where
 Id:Str
 Ga:Str
 Text:Str
 From:Int
 Ld:Int
 Why:Int
 deriving DecidableEq
structure bf where
 a:Int
 b:Int
 deriving DecidableEq
structure State where
 Fa:SL Gk
 Gm:SL By
 Bt:SL Ev
 Bc:SL Ga
 Nk:SL be
 Gc:SL bf
 ba:SL bf
structure Gt where
 br:Int
 Day:Int
 A:Int
 B:Int
 bz:Int
 Id:Str
 bv:Str
 Text:Str
 Ids:NL Str
 bm:NL Nm
 An:HN
 bg:Pt
 Path:NL Pt
 Lst:NL Ent
abbrev I(n:Int):AV:=.int .i64 n
def SL.enc{a:Type}(sz:Nat)(f:a->AV)(s:SL a):AV:=.isl s.bw s.ex sz<|s.l.map f
def NL.enc{a:Type}(sz:Nat)(f:a->AV)(s:NL a):AV:=.isl false s.ex sz<|s.l.map f
def Pt.enc(p:Pt):AV:=.agg [.int .i64 p.X,.int .i64 p.Y]
def HN.enc(n:HN):AV:=.agg [.int .i64 n.N,.str n.bn,.int .i64 n.Num,.int .i64 n.Den]
def Nm.enc(n:Nm):AV:=.agg [.str n.Lang,.int .i64 n.Script,.str n.Text]
def Ent.enc(e:Ent):AV:=.agg [.str e.Id,.int .i64 e.An.N,.str e.An.bn,.int .i64 e.An.Num,.int .i64 e.An.Den,.int .i64 e.bg.X,.int .i64 e.bg.Y]
def encS(s:Str):AV:=.str s
def Gk.enc(x:Gk):AV:=.agg [.str x.Id,.int .i64 x.br,.int .i64 x.bh,x.Ring.enc 2 Pt.enc,x.bm.enc 3 Nm.enc,.int .i64 x.Ld]
def By.enc(x:By):AV:=.agg [.str x.Id,.int .i64 x.bh,x.Line.enc 2 Pt.enc,x.bm.enc 3 Nm.enc,.int .i64 x.Ld]
def Ev.enc(x:Ev):AV:=.agg [.str x.Id,.int .i64 x.bh,x.Ring.enc 2 Pt.enc,.int .i64 x.Ld]
def Ga.enc(d:Ga):AV:=.agg [.str d.Id,.str d.Ev,.str d.By,.int .i64 d.bh,.int .i64 d.An.N,.str d.An.bn,.int .i64 d.An.Num,.int .i64 d.An.Den,.int .i64 d.bg.X,.int .i64 d.bg.Y,
 .int .i64 d.From,.int .i64 d.Ld,d.After.enc 1 encS,.int .i64 d.Why,.int .i64 d.bz,.str d.Veil]
def be.enc(u:be):AV:=.agg [.str u.Id,.str u.Ga,.str u.Text,.int .i64 u.From,.int .i64 u.Ld,.int .i64 u.Why]
def bf.enc(p:bf):AV:=.agg [.int .i64 p.a,.int .i64 p.b]
def State.cells(s:State):List AV:=[s.Fa.enc 6 Gk.enc,s.Gm.enc 5 By.enc,s.Bt.enc 4 Ev.enc,s.Bc.enc 16 Ga.enc,s.Nk.enc 6 be.enc,s.Gc.enc 2 bf.enc,s.ba.enc 2 bf.enc]
def State.enc(s:State):AV:=.agg s.cells
def Gt.cells(e:Gt):List AV:=[.int .i64 e.br,.int .i64 e.Day,.int .i64 e.A,.int .i64 e.B,.int .i64 e.bz,.str e.Id,.str e.bv,.str e.Text,e.Ids.enc 1 encS,e.bm.enc 3 Nm.enc,
 .int .i64 e.An.N,.str e.An.bn,.int .i64 e.An.Num,.int .i64 e.An.Den,.int .i64 e.bg.X,.int .i64 e.bg.Y,e.Path.enc 2 Pt.enc,e.Lst.enc 7 Ent.enc]
def Gt.enc(e:Gt):AV:=.agg e.cells
def Pt.el(p:Pt):Yu (some 2) p.enc:=⟨(rfl),(rfl)⟩
def Nm.el(p:Nm):Yu (some 3) p.enc:=⟨(rfl),(rfl)⟩
def Ent.el(p:Ent):Yu (some 7) p.enc:=⟨(rfl),(rfl)⟩
def Z0C(p:Str):Yu none (encS p):=⟨(rfl),(rfl)⟩
def Gk.el(p:Gk):Yu (some 6) p.enc:=⟨(rfl),(rfl)⟩
def By.el(p:By):Yu (some 5) p.enc:=⟨(rfl),(rfl)⟩
def Ev.el(p:Ev):Yu (some 4) p.enc:=⟨(rfl),(rfl)⟩
def Ga.el(p:Ga):Yu (some 16) p.enc:=⟨(rfl),(rfl)⟩
def be.el(p:be):Yu (some 6) p.enc:=⟨(rfl),(rfl)⟩
def bf.el(p:bf):Yu (some 2) p.enc:=⟨(rfl),(rfl)⟩
def Gt.cleans_cells(e:Gt):Z4 e.cells=true:=(rfl)
def NL.msz_enc{a:Type}(sz:Nat)(f:a->AV)(s:NL a):msz (s.enc sz f)=1:=(rfl)
def SL.msz_enc{a:Type}(sz:Nat)(f:a->AV)(s:SL a):msz (s.enc sz f)=1:=(rfl)
def State.msz_enc(s:State):msz s.enc=16:=by simp[State.enc,State.cells,msz,QJ,SL.msz_enc]
def Gt.msz_enc(e:Gt):msz e.enc=38:=by simp[Gt.enc,Gt.cells,msz,QJ,NL.msz_enc]
attribute [go_sem] NL.msz_enc SL.msz_enc State.msz_enc Gt.msz_enc
def Z6{a:Type}{f:a->AV}{l:List a}{i:Nat}{x:a}(h:l[i]?=some x):(l.map f)[i]?=some (f x):=by simp[h]
def Z7{a:Type}{l:List a}{i:Nat}{x:a}(h:l[i]?=some x):i<l.length:=(ZSA.1 h).1
def Zh{i n:Nat}(h:i<n):decide ((i:Int)<(n:Int))=true:=by simpa using h
def ZG(n:Nat):decide ((n:Int)<(n:Int))=false:=by simp
def cellV(h:Hp)(n:Option Nat):AV->Option AV
 | .ptr b i off g=>ldE n i off<|rowAt h b g
 | .iptr _ cs=>takeC n cs
 |_=>none
def Z0D(h:Hp)(n:Option Nat)(b i off g:Nat):cellV h n (.ptr b i off g)=ldE n i off (rowAt h b g):=rfl
def Dq(fr:Fr)(h:Hp)(t:Nat)(n:Option Nat):WX fr h (.cell t n)=cellV h n (get fr t):=by
 simp only[WX,cellV];generalize get fr t=v;cases v<;>first|rfl|skip
 case ptr b i off g=>
  simp only[rowAt,ldE];cases h[b]? with
  |none=>rfl
  |some o=>
   cases o<;>first|rfl|skip
   case row sz es=>dsimp only;cases(es.length==g)<;>first|rfl|(simp only[cond_true];cases es[i]?<;>rfl)
def Z0F(fr:Fr)(h:Hp)(t:Nat)(n:Option Nat):QO fr h [.cell t n]=cellV h n (get fr t):=by
 simp only[QO,YD,Dq];cases cellV h n (get fr t)<;>rfl
attribute [go_sem] Z0D Z0F
abbrev W(n:Int):Int:=IntKind.i64.wrap n
def st1(off:Nat):List AV->Option AV
 |[c]=>bif off==0 then some c else none
 |_=>none
def Z0G(off:Nat)(c:AV):st1 off [c]=bif off==0 then some c else none:=rfl
def Z0H(off n:Nat)(v:AV)(k:IntKind)(m:Int):stE off n v (.int k m)=st1 off v.cells:=rfl
def Z0I(off n:Nat)(v:AV)(b:Bool):stE off n v (.bool b)=st1 off v.cells:=rfl
def Z0J(off n:Nat)(v:AV)(s:ByteArray):stE off n v (.str s)=st1 off v.cells:=rfl
def Z0K(off n:Nat)(v:AV)(bw ex:Bool)(sz:Nat)(es:List AV):stE off n v (.isl bw ex sz es)=st1 off v.cells:=rfl
def Z0L(off n:Nat)(v:AV)(b g o l:Nat)(ex:Bool):stE off n v (.sl b g o l ex)=st1 off v.cells:=rfl
attribute [go_sem] Z0G Z0H Z0I Z0J Z0K Z0L
def Ug:Option AV->Option (List AV)->Option (List AV)
 |some v,some vs=>some<|v::vs
 |_,_=>none
def Z0M(v:AV)(vs:List AV):Ug (some v) (some vs)=some (v::vs):=rfl
def GS:Option (List AV)->Option AV
 |some [v]=>some v
 |some vs=>some<|.tup vs
 |none=>none
def Z0O(v w:AV)(vs:List AV):GS (some<|v::w::vs)=some (.tup<|v::w::vs):=rfl
def Z0P(fr:Fr)(h:Hp)(rs:List ResVar):QO fr h rs=GS (YD fr h rs):=by
 unfold QO GS;rcases YD fr h rs with _|(_|⟨a,_|⟨b,l⟩⟩)<;>rfl
def Z0Q(fr:Fr)(h:Hp):YD fr h []=some []:=rfl
def Z0R(fr:Fr)(h:Hp)(r:ResVar)(rs:List ResVar):YD fr h (r::rs)=Ug (WX fr h r) (YD fr h rs):=by
 simp only[YD,Ug];cases WX fr h r<;>cases YD fr h rs<;>rfl
def Z0S(fr:Fr)(h:Hp)(t:Nat):WX fr h (.tmp t)=some (get fr t):=rfl
attribute [go_sem] Z0M Z0O Z0Q Z0R Z0S Dq
attribute [go_sem 900] Z0P
def Z0T(n:Nat)(a b:List AV):Zd n (a++b)=(Zd n a&&Zd n b):=by
 induction a with
 |nil=>simp[Zd]
 |cons x a c=>simp[Zd,c,ZUz]
attribute [go_sem] Z0T XA
def N9:Option (List AV)->Option AV
 |some vs=>some<|.tup vs
 |none=>none
def Z0V(vs:List AV):N9 (some vs)=some (.tup vs):=rfl
def GT(bw ex:Bool)(sz:Nat):Option (List AV)->Option AV
 |some vs=>some<|.isl bw ex sz vs
 |none=>none
def Z0W(bw ex:Bool)(sz:Nat)(vs:List AV):GT bw ex sz (some vs)=some (.isl bw ex sz vs):=rfl
def GU(bw:Bool):Option (List AV)->Option AV
 |some vs=>some<|.iptr bw vs
 |none=>none
def Z0X(bw:Bool)(vs:List AV):GU bw (some vs)=some (.iptr bw vs):=rfl
def Z0Y{bw:Bool}{h:Hp}{n:Nat}{l:List AV}(a:Z4 l=true):ZC bw h (n+1) l=some l:=by
 unfold ZC;rw[a];rfl
def Z0Z{bw:Bool}{h:Hp}{n:Nat}{v:AV}(a:clean v=true):freeze bw h (n+1) v=some v:=by
 unfold freeze;rw[a];rfl
def Z10(bw:Bool)(h:Hp)(n:Nat)(v:AV)(r:List AV)(a:Z4 (v::r)=false):ZC bw h (n+1) (v::r)=Ug (freeze bw h n v) (ZC bw h n r):=by
 conv=>lhs;unfold ZC
 rw[a,cond_false];simp only[Ug];cases freeze bw h n v<;>cases ZC bw h n r<;>rfl
def Z11(bw:Bool)(h:Hp)(n:Nat)(cs:List AV)(a:Z4 cs=false):freeze bw h (n+1) (.tup cs)=N9 (ZC bw h n cs):=by
 conv=>lhs;unfold freeze
 have:clean (.tup cs)=false:=a;rw[this,cond_false];simp only[N9];cases ZC bw h n cs<;>rfl
def Z12(bw:Bool)(h:Hp)(n:Nat)(cs:List AV)(a:Z4 cs=false):freeze bw h (n+1) (.agg cs)=U7 (ZC bw h n cs):=by
 conv=>lhs;unfold freeze
 have:clean (.agg cs)=false:=a;rw[this,cond_false];simp only[U7];cases ZC bw h n cs<;>rfl
def Na(bw:Bool)(h:Hp)(n off a:Nat)(ex:Bool):Option (Nat×List AV)->Option AV
 |some (sz,es)=>GT bw (bw&&ex) sz<|ZC bw h n<|(es.drop off).take a
 |none=>none
def Z13(bw:Bool)(h:Hp)(n off a:Nat)(ex:Bool)(sz:Nat)(es:List AV):Na bw h n off a ex (some (sz,es))=GT bw (bw&&ex) sz (ZC bw h n<|(es.drop off).take a):=rfl
def Z14(bw:Bool)(h:Hp)(n b g off a:Nat)(ex:Bool):freeze bw h (n+1) (.sl b g off a ex)=Na bw h n off a ex (rowAt h b g):=by
 conv=>lhs;unfold freeze
 simp only[clean,cond_false,rowAt,Na];cases h[b]? with
 |none=>rfl
 |some o=>
  cases o<;>first|rfl|skip
  case row sz es=>
   dsimp only;cases(es.length==g)
   .rfl
   .simp only[cond_true,GT];cases ZC bw h n ((es.drop off).take a)<;>rfl
def GV(bw:Bool)(h:Hp)(n off:Nat):Option AV->Option AV
 |some e=>GU bw<|ZC bw h n<|e.cells.drop off
 |none=>none
def Z15(bw:Bool)(h:Hp)(n off:Nat)(e:AV):GV bw h n off (some e)=GU bw (ZC bw h n<|e.cells.drop off):=rfl
def Nb(bw:Bool)(h:Hp)(n i off:Nat):Option (Nat×List AV)->Option AV
 |some (_,es)=>GV bw h n off es[i]?
 |none=>none
def Z16(bw:Bool)(h:Hp)(n i off sz:Nat)(es:List AV):Nb bw h n i off (some (sz,es))=GV bw h n off es[i]?:=rfl
def Z17(bw:Bool)(h:Hp)(n b i off g:Nat):freeze bw h (n+1) (.ptr b i off g)=Nb bw h n i off (rowAt h b g):=by
 conv=>lhs;unfold freeze
 simp only[clean,cond_false,rowAt,Nb];cases h[b]? with
 |none=>rfl
 |some o=>
  cases o<;>first|rfl|skip
  case row sz es=>
   dsimp only;cases(es.length==g)
   .rfl
   .simp only[cond_true,GV];cases es[i]? with
    |none=>rfl
    |some e=>simp only[GU];cases ZC bw h n (e.cells.drop off)<;>rfl
attribute [go_sem] Z0V Z0W Z0X Z10 Z11 Z12 Z13 Z14 Z15 Z16 Z17
attribute [go_sem 1100] Z0Y Z0Z
def XC{h:Hp}{b g sz bytes:Nat}{es ys:List AV}{bw ex fz:Bool}(a:rowAt h b g=some (sz,es))(i:ys.isEmpty=false)(k:ys.all (fits sz)=true)(m:0<sz)(n:0<bytes)(e:(g+ys.length)*bytes<=140737488355328):
 appW h fz sz bytes (.sl b g 0 g false) (.isl bw ex sz ys)=some (.sl b (g+ys.length) 0 (g+ys.length) false,setH h b<|.row sz<|es++ys):=by
 unfold rowAt at a;cases d:h[b]? with
 |none=>rw[d]at a;cases a
 |some o=>
  rw[d]at a;cases o with
  |row f es'=>
   dsimp only at a;cases c:(es'.length==g)with
   |false=>rw[c]at a;cases a
   |true=>
    rw[c]at a;simp only[cond_true,Option.some.injEq,Prod.mk.injEq]at a;obtain⟨rfl,rfl⟩:=a;have l:es'.length=g:=by simpa using c
    have j:List.take g es'=es':=ZSR<|by omega
    subst l;simp only[appW,Qt,Q2,d,c,cond_true,ZTq,j,Qq,beq_self_eq_true,ZSU,m,n,e,and_self,if_true,i,cond_false,ZM,ZH,k,ZTl]
  |_=>cases a
def Y8{E:Env}{live:List Nat}{b:ACode}(n:Nat)(S:Nat->Fr)(H:Nat->Hp)(d:∀i,Z2 live (S i)=S i)
 (a:∀i,i<n->∃fr',Zb E b (S i) (H i)=some (.normal,fr',H<|i+1)/\Z2 live fr'=S (i+1))
 {e:AExit} {fr:Fr} {h:Hp} (c:Zb E b (S n) (H n)=some (e,fr,h)) (f:e≠.normal):Zg E live b (S 0) (H 0)=some (e,fr,h):=by
 suffices G:∀k i,k+i=n->Zg E live b (S i) (H i)=some (e,fr,h)from G n 0<|by omega
 intro k;induction k with
 |zero=>
  intro i j;have:i=n:=by omega
  subst this;exact Q7 (d _) c f
 |succ k m=>
  intro i j;have⟨fr',l,g⟩:=a i<|by omega
  rw[Yt (d _) l,g];exact m (i+1)<|by omega
def ZDU{E:Env}{p:Type}{live:List Nat}{b:ACode}{h:Hp}(l:List p)(P:p->Bool)(S:Nat->Fr)(d:Nat)(Q:Nat->Fr->Prop)
 (r:∀i,Z2 live (S i)=S i)
 (j:∀i x,l[i]?=some x->P x=false->∃fr',Zb E b (S i) h=some (.normal,fr',h)/\Z2 live fr'=S (i+1))
 (q:∀i x,l[i]?=some x->P x=true->∃fr',Zb E b (S i) h=some (.ret,fr',h)/\Q i fr')
 (k:∃fr',Zb E b (S l.length) h=some (.exit d,fr',h)):
 ∃fr',Zg E live b (S 0) h=some (if Zp P l 0=-1 then .exit d else .ret,fr',h)/\(Zp P l 0≠-1->∃i:Nat,Zp P l 0=(i:Int)/\Q i fr'):=by
 suffices G:∀(c a:List p),l=a++c->∃fr',Zg E live b (S a.length) h=some (if Zp P c a.length=-1 then .exit d else .ret,fr',h)/\(Zp P c a.length≠-1->∃i:Nat,Zp P c a.length=(i:Int)/\Q i fr')from G l [] rfl
 intro c;induction c with
 |nil=>
  intro a m;have⟨fr',f⟩:=k;have:l.length=a.length:=by rw[m];simp
  rw[this]at f;exact⟨fr',by simpa[Zp]using Q7 (r _) f (by simp),λh=>by simp[Zp]at h⟩
 |cons x c v=>
  intro a m;have s:l[a.length]?=some x:=by rw[m];simp
  cases g:P x with
  |false=>
   have⟨u,f,n⟩:=j _ _ s g;have⟨fr',o,t⟩:=v (a++[x])<|by simp[m]
   have e:((a++[x]).length:Int)=(a.length:Int)+1:=by simp
   rw[e]at o t;rw[ZSJ,ZTT]at o;refine⟨fr',?_,?_⟩
   .rw[Yt (r _) f,n,o];simp only[Zp,g,cond_false]
   .simpa only[Zp,g,cond_false]using t
  |true=>
   have⟨fr',f,n⟩:=q _ _ s g;have e:Zp P (x::c) a.length=(a.length:Int):=by simp[Zp,g]
   have w:((a.length:Int)=-1)=False:=by simp
   refine⟨fr',?_,λ_=>⟨a.length,e,n⟩⟩
   rw[Q7 (r _) f (by simp),e]
   simp only[w,if_false]
def QT{E:Env}{p:Type}{live:List Nat}{b:ACode}{h:Hp}(l:List p)(P:Nat->p->Bool)(S:Nat->Fr)(a:Nat)(q Q:Fr->Prop)
 (o:∀i,Z2 live (S i)=S i)
 (c:∀i x,l[i]?=some x->P i x=true->∃fr',Zb E b (S i) h=some (.normal,fr',h)/\Z2 live fr'=S (i+1))
 (j:∀i x,l[i]?=some x->P i x=false->∃fr',Zb E b (S i) h=some (.ret,fr',h)/\Q fr')
 (d:∃fr',Zb E b (S l.length) h=some (.exit a,fr',h)/\q fr'):
 ∃fr',Zg E live b (S 0) h=some (if Zu P 0 l=true then .exit a else .ret,fr',h)/\(Zu P 0 l=true->q fr')/\(Zu P 0 l=false->Q fr'):=by
 have⟨fr',f,m⟩:=Uf (E:=E) (live:=live) (b:=b) (h:=h) l P S a (λfr=>Q fr) o c j (by have⟨fr',f,_⟩:=d;exact⟨fr',f⟩)
 refine⟨fr',f,λe=>?_,m⟩
 have⟨n,s,t⟩:=d
 suffices G:∀k i,k+i=l.length->Zu P i (l.drop i)=true->Zg E live b (S i) h=some (.exit a,n,h)by
  have:=G l.length 0 (by omega)<|by simpa using e
  rw[this,if_pos e]at f;cases f;exact t
 intro k;induction k with
 |zero=>
  intro i r _;have:i=l.length:=by omega
  subst this;exact Q7 (o _) s<|by simp
 |succ k u=>
  intro i r e;have g:i<l.length:=by omega
  rw[ZTD g]at e;simp only[Zu,ZSq]at e;have⟨fr',f,m⟩:=c i l[i] (ZSu g) e.1;rw[Yt (o _) f,m];exact u (i+1) (by omega) e.2
def Jc(a b:Nat):Int.tmod (a:Int) (b:Int)=((a%b:Nat):Int):=rfl
def nat_ne{n:Nat}(h:0<n):((n:Int)=0)=False:=by simp;omega
def Ds{n i x:Nat}(h:(List.range n)[i]?=some x):x=i/\i<n:=by
 have⟨a,b⟩:=ZSA.1 h;simp at a b;exact⟨b.symm,a⟩
def Dt{a n i x:Nat}(h:(List.range' a n)[i]?=some x):x=a+i/\i<n:=by
 have⟨b,c⟩:=ZSA.1 h;simp at b c;exact⟨by omega,b⟩
def Z19(a:AObj)(b:Bool):trimB 1 [a] b=[a]:=by cases b<;>rfl
def Z1a(a c:AObj)(b:Bool):trimB 2 [a,c] b=[a,c]:=by cases b<;>rfl
def Z1b(a d c:AObj)(b:Bool):trimB 3 [a,d,c] b=[a,d,c]:=by cases b<;>rfl
attribute [go_sem] decide_true decide_false Bool.not_true Bool.not_false Bool.true_and Bool.false_and Bool.and_true Bool.and_false List.getElem?_cons_zero List.getElem?_cons_succ List.length_append Option.map_none Option.map_some
variable [REdz]
def gOn(p:Pt):Bool:=decide (min p.X p.Y>=0)&&decide (max p.X p.Y<=32767)
def XD(l:List Pt):Bool:=l.all gOn
def Yv(a b:Pt):Pt:=⟨W<|b.X-a.X,W<|b.Y-a.Y⟩
def Uh(v w:Pt):Int:=W<|W (v.X*w.Y)-W (v.Y*w.X)
def Nc(v w:Pt):Int:=W<|W (v.X*w.X)+W (v.Y*w.Y)
structure Seg where
 a:Pt
 b:Pt
 v:Pt
def XE(a b:Pt):Seg:=⟨a,b,Yv a b⟩
def sgn(n:Int):Int:=bif decide (n>0)then 1 else bif decide (n<0)then -1 else 0
def Ve(s:Seg)(p:Pt):Int:=sgn<|Uh s.v<|Yv s.a p
def Jd(a b c:Pt):Int:=bif XD [a,b,c]then Ve (XE a b) c else 0
def QK(a b:Pt):Bool:=a.X==b.X&&a.Y==b.Y
def W7(p a b:Pt):Bool:=
 bif XD [p,a,b]then
  (bif QK p a then true else bif QK p b then true else bif Ve (XE a b) p==0 then decide (Nc (Yv p a) (Yv p b)<0)else false)
 else false
def VV(s:Seg)(a b:Pt):Bool:=decide (W (Ve s a*Ve s b)<0)
def Ui(a b c d:Pt):Int:=
 bif XD [a,b,c,d]then
  (bif W7 a c d||W7 b c d||W7 c a b||W7 d a b then 1
   else bif VV (XE a b) c d&&VV (XE c d) a b then 2 else 0)
 else 0
def Seg.enc(s:Seg):AV:=.agg [I s.a.X,I s.a.Y,I s.b.X,I s.b.Y,I s.v.X,I s.v.Y]
def W8(p:Pt):pfn rE 235 [.agg [I p.X,I p.Y]]=some (.bool<|gOn p):=by
 rw[Z5 (f:=235) rfl rfl];unfold gOn;cases a:decide (min p.X p.Y>=0)<;>simp only[go_sem,c235,a]
def Nd(a b:Pt):pfn rE 405 [.agg [I a.X,I a.Y],.agg [I b.X,I b.Y]]=some (.agg [I (Yv a b).X,I (Yv a b).Y]):=by
 rw[Z5 (f:=405) rfl rfl];unfold Yv;simp only[go_sem,c405]
def Z1c(a b:Pt):pfn rE 406 [.agg [I a.X,I a.Y],.agg [I b.X,I b.Y]]=some (I<|Uh a b):=by
 rw[Z5 (f:=406) rfl rfl];unfold Uh;simp only[go_sem,c406]
def Z1d(a b:Pt):pfn rE 407 [.agg [I a.X,I a.Y],.agg [I b.X,I b.Y]]=some (I<|Nc a b):=by
 rw[Z5 (f:=407) rfl rfl];unfold Nc;simp only[go_sem,c407]
def Vf(a b:Pt):pfn rE 388 [.agg [I a.X,I a.Y],.agg [I b.X,I b.Y]]=some (.agg [I a.X,I a.Y,I b.X,I b.Y,I (Yv a b).X,I (Yv a b).Y]):=by
 rw[Z5 (f:=388) rfl rfl];simp only[go_sem,c388,Nd]
def Du(s:Seg)(p:Pt):pfn rE 389 [.agg [I s.a.X,I s.a.Y,I s.b.X,I s.b.Y,I s.v.X,I s.v.Y],.agg [I p.X,I p.Y]]=some (I<|Ve s p):=by
 rw[Z5 (f:=389) rfl rfl];unfold Ve sgn;cases c:decide (Uh s.v (Yv s.a p)>0)<;>cases d:decide (Uh s.v (Yv s.a p)<0)<;>simp only[go_sem,c389,Nd,Z1c,c,d]
def Nf(bw ex:Bool)(l:List Pt)(q:l.length<9223372036854775807):pfn rE 387 [.isl bw ex 2<|l.map Pt.enc]=some (.bool<|XD l):=by
 have L:=Uf (E:=rE) (live:=[5,6,7]) (b:=c387L0b) (h:=[]) l (λ_ x=>gOn x) (λi=>[(5,.isl bw ex 2<|l.map Pt.enc),(6,I l.length),(7,I i)]) 0 (λfr=>get fr 2=.bool false) (λi=>rfl)
  (λi x c d=>by
   have j:=Z6 (f:=Pt.enc) c;have g:=Zh<|Z7 c;have p:=Zx (n:=i) (by have:=Z7 c;omega)
   refine⟨_,by simp only[go_sem,c387L0b,j,g,p,d,Pt.enc,W8];rfl,?_⟩
   simp only[go_sem])
  (λi x c d=>by
   have j:=Z6 (f:=Pt.enc) c;have g:=Zh<|Z7 c;refine⟨_,by simp only[go_sem,c387L0b,j,g,d,Pt.enc,W8];rfl,?_⟩
   simp only[go_sem])
  (⟨_,by simp only[go_sem,c387L0b,ZG];rfl⟩)
 rw[Z5 (f:=387) rfl rfl];rw[QE]at L;have⟨fr',o,m⟩:=L;have a:Zg rE [5,6,7] c387L0b [(5,.isl bw ex 2<|l.map Pt.enc),(6,I l.length),(7,.int .i64 0)] []=_:=o;unfold XD;cases k:l.all gOn with
 |true=>rw[k]at a;simp only[go_sem,c387,c387L0,a]
 |false=>
  rw[k]at a;have e:=m k;simp only[go_sem,c387,c387L0,a,e,ZSH]
def Dv(a b c:Pt):pfn rE 387 [.isl false false 2 [.agg [I a.X,I a.Y],.agg [I b.X,I b.Y],.agg [I c.X,I c.Y]]]=some (.bool<|XD [a,b,c]):=Nf false false [a,b,c]<|by simp
def Je(a b c d:Pt):pfn rE 387 [.isl false false 2 [.agg [I a.X,I a.Y],.agg [I b.X,I b.Y],.agg [I c.X,I c.Y],.agg [I d.X,I d.Y]]]=some (.bool<|XD [a,b,c,d]):=Nf false false [a,b,c,d]<|by simp
def Dw(a b p:Pt):pfn rE 389 [.agg [I a.X,I a.Y,I b.X,I b.Y,I (Yv a b).X,I (Yv a b).Y],.agg [I p.X,I p.Y]]=some (I<|Ve (XE a b) p):=Du (XE a b) p
def Ng(a b c:Pt):pfn rE 365 [.agg [I a.X,I a.Y],.agg [I b.X,I b.Y],.agg [I c.X,I c.Y]]=some (I<|Jd a b c):=by
 rw[Z5 (f:=365) rfl rfl];unfold Jd;cases h1:XD [a,b,c]<;>simp only[go_sem,c365,Vf,Dv,Dw,h1]
def Uj(p a b:Pt):pfn rE 390 [.agg [I p.X,I p.Y],.agg [I a.X,I a.Y],.agg [I b.X,I b.Y]]=some (.bool<|W7 p a b):=by
 rw[Z5 (f:=390) rfl rfl];unfold W7;have e1:(p.X==a.X&&p.Y==a.Y)=QK p a:=rfl;have e2:(p.X==b.X&&p.Y==b.Y)=QK p b:=rfl;cases h1:XD [p,a,b]<;>cases h2:QK p a<;>cases h3:QK p b<;>cases h4:Ve (XE a b) p==0<;>simp only[go_sem,c390,Vf,Dv,Dw,Nd,Z1d,e1,e2,h1,h2,h3,h4]
def Z1e(s:Seg)(a b:Pt):pfn rE 391 [.clo (.func 389) [.agg [I s.a.X,I s.a.Y,I s.b.X,I s.b.Y,I s.v.X,I s.v.Y]] [],.agg [I a.X,I a.Y],.agg [I b.X,I b.Y]]=some (.bool<|VV s a b):=by
 rw[Z5 (f:=391) rfl rfl];unfold VV;simp only[go_sem,c391,Du]
def Z1f(a b p q:Pt):pfn rE 391 [.clo (.func 389) [.agg [I a.X,I a.Y,I b.X,I b.Y,I (Yv a b).X,I (Yv a b).Y]] [],.agg [I p.X,I p.Y],.agg [I q.X,I q.Y]]=some (.bool<|VV (XE a b) p q):=Z1e (XE a b) p q
def Dx(a b c d:Pt):pfn rE 366 [.agg [I a.X,I a.Y],.agg [I b.X,I b.Y],.agg [I c.X,I c.Y],.agg [I d.X,I d.Y]]=some (I<|Ui a b c d):=by
 rw[Z5 (f:=366) rfl rfl];unfold Ui;cases h1:XD [a,b,c,d]with
 |false=>simp only[go_sem,c366,Vf,Je,h1]
 |true=>
  cases h2:W7 a c d with
  |true=>simp only[go_sem,c366,Vf,Je,Uj,h1,h2,ZSU]
  |false=>
  cases h3:W7 b c d with
  |true=>simp only[go_sem,c366,Vf,Je,Uj,h1,h2,h3,ZSU,ZT9]
  |false=>
  cases h4:W7 c a b with
  |true=>simp only[go_sem,c366,Vf,Je,Uj,h1,h2,h3,h4,ZSU,ZT9]
  |false=>
  cases h5:W7 d a b with
  |true=>simp only[go_sem,c366,Vf,Je,Uj,h1,h2,h3,h4,h5,ZSU,ZT9]
  |false=>
  cases h6:VV (XE a b) c d<;>cases h7:VV (XE c d) a b<;>simp only[go_sem,c366,Vf,Je,Uj,Z1f,h1,h2,h3,h4,h5,h6,h7,ZUd]
def pAt(l:List Pt)(i:Nat):Pt:=l.getD i ⟨0,0⟩
def Z1g{l:List Pt}{i:Nat}(h:i<l.length):l[i]?=some (pAt l i):=by
 simp[pAt,List.getD,ZSu h]
def YN{l:List Pt}{i:Nat}(h:i<l.length):(l.map Pt.enc)[i]?=some (Pt.enc<|pAt l i):=Z6<|Z1g h
def Jf(p:Pt):Bool:=!gOn p
def Z1h(p:Pt):pfn rE 318 [.agg [I p.X,I p.Y]]=some (.bool<|Jf p):=by
 rw[Z5 (f:=318) rfl rfl];unfold Jf;simp only[go_sem,c318,W8]
def WG{a:Type}(P:a->Bool)(l:List a):Bool:=decide (Zp P l 0>=0)
def Vg{a:Type}(P:a->Bool)(l:List a):WG P l=l.any P:=by
 suffices H:∀(l:List a)(i:Int),0<=i->decide (Zp P l i>=0)=l.any P from H l 0<|by omega
 intro l;induction l with
 |nil=>intro i b;simp[Zp]
 |cons x r c=>
  intro i b;simp only[Zp,List.any_cons];by_cases h:P x=true
  .simp[h,b]
  .simp only[ZTX]at h;simpa[h]using c (i+1)<|by omega
def Z1i(l:List Pt)(ex:Bool)(b:l.length<=1000000):pfn rE 317 [.isl false ex 2<|l.map Pt.enc,.clo (.func 318) [] []]=some (.bool<|l.any Jf):=by
 have a:=WF (E:=rE) (f:=363) (sz:=2) (n:=some 2) (enc:=Pt.enc) (p:=Jf) (g:=318) (cap:=[]) rfl rfl rfl l (by omega) (λx _=>x.el) (λx _=>Z1h x) false ex
 rw[Z5 (f:=317) rfl rfl,<-Vg];unfold WG;simp only[go_sem,c317,a]
def VW(l:List Pt)(n:Int)(i:Nat):Int:=W<|n+W (W ((pAt l i).X*(pAt l<|(i+1)%l.length).Y)-W ((pAt l<|(i+1)%l.length).X*(pAt l i).Y))
def GW(l:List Pt):Int:=(List.range l.length).foldl (VW l) 0
def XF(v:AV):Fr:=[(7,.clo (.func 386) [] [.iptr false [v]]),(6,v),(3,.ptr 0 0 0 1),(2,I 0),(0,v)]
def twH(v:AV)(n:Int):Hp:=[.row 1 [I n],.loop .ready .normal (XF v) [8,9] c319R0a c319R0b]
def Z1j(v:AV)(e:Zd 2 [v]=true)(d:Zd 5 [v]=true)(n:Int)(p a b:Pt):
 U4 rE 1 [.agg [I a.X,I a.Y],.agg [I b.X,I b.Y]] (twH v n++[.row 2 [.agg [I p.X,I p.Y]]]) =
  some (.bool true,twH v (W<|n+W (W (a.X*b.Y)-W (b.X*a.Y)))++[.row 2 [.agg [I p.X,I p.Y]],.row 2 [.agg [I a.X,I a.Y]],.row 2 [.agg [I b.X,I b.Y]]]):=by
 have c:bel 5 v=true:=by simpa[Zd]using d
 have h:=Ss (E:=rE) (b:=1) (a:=[.agg [I a.X,I a.Y],.agg [I b.X,I b.Y]]) (h:=twH v n++[.row 2 [.agg [I p.X,I p.Y]]]) (fr:=XF v) (ps:=[8,9]) (assign:=c319R0a) (body:=c319R0b)
  (g:=(9,.agg [I b.X,I b.Y])::(8,.agg [I a.X,I a.Y])::XF v) rfl rfl (by simp only[go_sem,c319R0a,twH,XF];rfl) (by rfl)
  (by simp only[go_sem,c319R0b,c];rfl) (by rfl)
 exact h
def Z1k{E:Env}{g:Nat}{first cap:List AV}{ps:List Nat}{assign body:ACode}{fr:Fr}{h:Hp}{rs:List ResVar}{c:ACode}(a:E.fn g=some ⟨rs,c⟩):
 rf E (.clo (.func g) first cap) ps assign body fr h=J0 fr h.length (fnd rs<|Zb E c (QP 0<|first++[.yld h.length]++cap)<|h++[.loop .ready .normal fr ps assign body]):=by
 rw[Sq,LD a];rfl
def Z1l(ex:Bool)(es:List AV)(h:Hp):fnV rE 364 [.isl false ex 2 es] h=some (.clo (.func 386) [] [.iptr false [.isl false ex 2 es]],h):=by
 rw[Q6 (f:=364) rfl rfl];simp only[go_sem,c364]
def Z1m(l:List Pt)(ex:Bool)(t:l.length<=1000000):pfn rE 319 [.isl false ex 2<|l.map Pt.enc]=some (I<|GW l):=by
 have L:=Y8 (E:=rE) (live:=[0,1,5,6,7]) (b:=c386L0b) l.length (λi=>[(0,.yld 1),(1,.iptr false [.isl false ex 2<|l.map Pt.enc]),(5,.isl false ex 2<|l.map Pt.enc),(6,I l.length),(7,I i)])
  (λi=>twH (.isl false ex 2<|l.map Pt.enc)<|(List.range i).foldl (VW l) 0) (λi=>rfl)
  (λi k=>by
   have m:0<l.length:=by omega
   have q:=YN k;have g:=YN (l:=l)<|ZTH (i+1) m;have h:=Zh k;have r:=Zx (n:=i)<|by omega
   have s:=nat_ne m;have d:=Z1j (.isl false ex 2<|l.map Pt.enc) rfl rfl ((List.range i).foldl (VW l) 0) (pAt l i) (pAt l i) (pAt l<|(i+1)%l.length);have p:(List.range<|i+1).foldl (VW l) 0=W ((List.range i).foldl (VW l) 0+W (W ((pAt l i).X*(pAt l<|(i+1)%l.length).Y)-W ((pAt l<|(i+1)%l.length).X*(pAt l i).Y))):=by
    rw[List.range_succ,ZUL];rfl
   rw[p];generalize W ((List.range i).foldl (VW l) 0+W (W ((pAt l i).X*(pAt l<|(i+1)%l.length).Y)-W ((pAt l<|(i+1)%l.length).X*(pAt l i).Y)))=n' at d⊢;generalize(List.range i).foldl (VW l) 0=n at d⊢;simp only[twH,ZSv,ZSz]at d⊢;refine⟨_,by simp only[go_sem,c386L0b,S3,q,g,h,r,s,Jc,d,Pt.enc];rfl,?_⟩
   simp only[go_sem])
  (e:=.exit 0) (by simp only[go_sem,twH,c386L0b,ZG];rfl) (by simp)
 have o:Zg rE [0,1,5,6,7] c386L0b [(0,.yld 1),(1,.iptr false [.isl false ex 2<|l.map Pt.enc]),(5,.isl false ex 2<|l.map Pt.enc),(6,I l.length),(7,.int .i64 0)] [.row 1 [.int .i64 0],.loop .ready .normal (XF<|.isl false ex 2<|l.map Pt.enc) [8,9] c319R0a c319R0b]=_:=L;rw[Z5 (f:=319) rfl rfl];have a:rf rE (.clo (.func 386) [] [.iptr false [.isl false ex 2<|l.map Pt.enc]]) [8,9] c319R0a c319R0b (XF<|.isl false ex 2<|l.map Pt.enc) [.row 1 [.int .i64 0]]=some (.normal,XF<|.isl false ex 2<|l.map Pt.enc,[.row 1 [I<|GW l],.loop .exhausted .normal (XF<|.isl false ex 2<|l.map Pt.enc) [8,9] c319R0a c319R0b]):=by
  rw[Z1k (c:=c386) rfl];have j:Zd 2 (frV<|XF<|.isl false ex 2<|l.map Pt.enc)=true:=rfl;simp only[j,go_sem]at o;simp only[go_sem,c386,c386L0,o,j];rfl
 unfold XF at a;simp only[go_sem,c319,Z1l,Sr,a]
def GX(l:List Pt)(i k:Nat):Bool:=!decide (Ui (pAt l i) (pAt l<|(i+1)%l.length) (pAt l k) (pAt l<|(k+1)%l.length)>0)
def Xb(l:List Pt)(i:Nat):Nat:=min l.length<|i+l.length-1
def Jg(l:List Pt)(i:Nat):Bool:=(List.range' (i+2)<|Xb l i-(i+2)).all (GX l i)
def Nh(l:List Pt)(i:Nat):Bool:=Jd (pAt l i) (pAt l<|(i+1)%l.length) (pAt l<|(i+2)%l.length)==0
def Uk(l:List Pt)(i:Nat):Bool:=!Nh l i&&Jg l i
def Ni(l:List Pt):Bool:=(List.range l.length).all (Uk l)
def Dy(l:List Pt)(ex:Bool)(hl:l.length<=1000000)(i:Nat)(hi:i<l.length):
 ∃fr',Zg rE [0,3,4,5,6,7,11,12] c320L0b [(0,.isl false ex 2<|l.map Pt.enc),(3,I l.length),(4,I i),(5,.ptr 0 0 0 1),(6,.ptr 1 0 0 1),(7,I (i+2:Nat)),(11,I l.length),(12,I i)] [.row 2 [.agg [I (pAt l i).X,I (pAt l i).Y]],.row 2 [.agg [I (pAt l<|(i+1)%l.length).X,I (pAt l<|(i+1)%l.length).Y]]] =
  some (if Jg l i=true then .exit 2 else .ret,fr',[.row 2 [.agg [I (pAt l i).X,I (pAt l i).Y]],.row 2 [.agg [I (pAt l<|(i+1)%l.length).X,I (pAt l<|(i+1)%l.length).Y]]])/\(Jg l i=true->(get fr' 2=.bot/\get fr' 0=.isl false ex 2 (l.map Pt.enc)/\get fr' 3=I l.length/\get fr' 11=I l.length/\get fr' 12=I i))/\(Jg l i=false->(get fr' 2=.bool false/\get fr' 0=.isl false ex 2 (l.map Pt.enc)/\get fr' 3=I l.length/\get fr' 11=I l.length/\get fr' 12=I i)):=by
 have h0:0<l.length:=by omega
 have hn:=nat_ne h0;have e1:IntKind.i64.wrap ((i:Int)+(l.length:Int))=((i+l.length:Nat):Int):=by rw[YM (by omega)<|by omega];omega
 have e2:IntKind.i64.wrap (((i+l.length:Nat):Int)-1)=((i+l.length-1:Nat):Int):=by rw[YM (by omega)<|by omega];omega
 have e3:min (l.length:Int) ((i+l.length-1:Nat):Int)=(Xb l i:Int):=by unfold Xb;omega
 have hm:Xb l i<=l.length:=Nat.min_le_left _ _;have L:=QT (E:=rE) (live:=[0,3,4,5,6,7,11,12]) (b:=c320L0b) (h:=[.row 2 [.agg [I (pAt l i).X,I (pAt l i).Y]],.row 2 [.agg [I (pAt l<|(i+1)%l.length).X,I (pAt l<|(i+1)%l.length).Y]]])
  (List.range' (i+2)<|Xb l i-(i+2)) (λ_ k=>GX l i k) (λj=>[(0,.isl false ex 2<|l.map Pt.enc),(3,I l.length),(4,I i),(5,.ptr 0 0 0 1),(6,.ptr 1 0 0 1),(7,I (i+2+j:Nat)),(11,I l.length),(12,I i)]) 2 (λfr=>get fr 2=.bot/\get fr 0=.isl false ex 2 (l.map Pt.enc)/\get fr 3=I l.length/\get fr 11=I l.length/\get fr 12=I i) (λfr=>get fr 2=.bool false/\get fr 0=.isl false ex 2 (l.map Pt.enc)/\get fr 3=I l.length/\get fr 11=I l.length/\get fr 12=I i) (λj=>rfl)
  (λj k hk hP=>by
   obtain⟨rfl,hj⟩:=Dt hk;have hk':i+2+j<Xb l i:=by omega
   have hg:=YN (l:=l) (i:=i+2+j)<|by omega
   have hg2:=YN (l:=l)<|ZTH (i+2+j+1) h0;have hlt:decide (((i+2+j:Nat):Int)<(Xb l i:Int))=true:=decide_eq_true<|by omega
   have hw:=Zx (n:=i+2+j)<|by omega
   have hP':decide (Ui (pAt l i) (pAt l<|(i+1)%l.length) (pAt l<|i+2+j) (pAt l<|(i+2+j+1)%l.length)>0)=false:=by simpa only[GX,ZSP]using hP
   have ea:i+2+(j+1)=i+2+j+1:=by omega
   rw[ea];generalize i+2+j=k at*;refine⟨_,by simp only[go_sem,c320L0b,e1,e2,e3,hlt,hg,hg2,hw,hn,Jc,Pt.enc,Dx,hP'];rfl,?_⟩
   simp only[go_sem])
  (λj k hk hP=>by
   obtain⟨rfl,hj⟩:=Dt hk;have hk':i+2+j<Xb l i:=by omega
   have hg:=YN (l:=l) (i:=i+2+j)<|by omega
   have hg2:=YN (l:=l)<|ZTH (i+2+j+1) h0;have hlt:decide (((i+2+j:Nat):Int)<(Xb l i:Int))=true:=decide_eq_true<|by omega
   have hw:=Zx (n:=i+2+j)<|by omega
   have hP':decide (Ui (pAt l i) (pAt l<|(i+1)%l.length) (pAt l<|i+2+j) (pAt l<|(i+2+j+1)%l.length)>0)=true:=by simpa only[GX,Bool.not_eq_false']using hP
   generalize i+2+j=k at*;refine⟨_,by simp only[go_sem,c320L0b,e1,e2,e3,hlt,hg,hg2,hw,hn,Jc,Pt.enc,Dx,hP'];rfl,?_⟩
   refine⟨?_,?_,?_,?_,?_⟩<;>simp only[go_sem])
  (by
   have hlt:decide (((i+2+(List.range' (i+2)<|Xb l i-(i+2)).length:Nat):Int)<(Xb l i:Int))=false:=by simp;omega
   generalize i+2+(List.range' (i+2)<|Xb l i-(i+2)).length=k at*;exact⟨_,by simp only[go_sem,c320L0b,e1,e2,e3,hlt];rfl,by refine⟨?_,?_,?_,?_,?_⟩<;>simp only[go_sem]⟩)
 rw[QE]at L;exact L
def Z1n(l:List Pt)(ex:Bool)(hl:l.length<=1000000):pfn rE 320 [.isl false ex 2<|l.map Pt.enc]=some (.bool<|Ni l):=by
 have L:=Uf (E:=rE) (live:=[0,3,11,12]) (b:=c320L1b) (h:=[]) (List.range l.length) (λ_ i=>Uk l i) (λi=>[(0,.isl false ex 2<|l.map Pt.enc),(3,I l.length),(11,I l.length),(12,I i)]) 0 (λfr=>get fr 2=.bool false) (λi=>rfl)
  (λi x hx hP=>by
   obtain⟨rfl,hi⟩:=Ds hx;have h0:0<l.length:=by omega
   have hn:=nat_ne h0;have hg:=YN hi;have hg1:=YN (l:=l)<|ZTH (x+1) h0;have hg2:=YN (l:=l)<|ZTH (x+2) h0;have hi':=Zh hi;have hw:=Zx (n:=x)<|by omega
   have hw2:IntKind.i64.wrap ((x:Int)+2)=((x+2:Nat):Int):=by rw[YM (by omega)<|by omega];omega
   have hP':Nh l x=false/\Jg l x=true:=by simpa[Uk]using hP
   have hT:(Jd (pAt l x) (pAt l<|(x+1)%l.length) (pAt l<|(x+2)%l.length)==0)=false:=hP'.1;have⟨fr',h1,h2,_⟩:=Dy l ex hl x hi;rw[if_pos hP'.2]at h1;have⟨g2,g0,g3,g11,g12⟩:=h2 hP'.2;refine⟨_,by simp only[go_sem,c320L1b,c320L0,hg,hg1,hg2,hi',hw,hw2,hn,Jc,Pt.enc,Ng,hT,h1,g0,g2,g3,g11,g12];rfl,?_⟩
   simp only[go_sem])
  (λi x hx hP=>by
   obtain⟨rfl,hi⟩:=Ds hx;have h0:0<l.length:=by omega
   have hn:=nat_ne h0;have hg:=YN hi;have hg1:=YN (l:=l)<|ZTH (x+1) h0;have hg2:=YN (l:=l)<|ZTH (x+2) h0;have hi':=Zh hi;have hw:=Zx (n:=x)<|by omega
   have hw2:IntKind.i64.wrap ((x:Int)+2)=((x+2:Nat):Int):=by rw[YM (by omega)<|by omega];omega
   cases hT':Nh l x with
   |true=>
    have hT:(Jd (pAt l x) (pAt l<|(x+1)%l.length) (pAt l<|(x+2)%l.length)==0)=true:=hT';refine⟨_,by simp only[go_sem,c320L1b,c320L0,hg,hg1,hg2,hi',hw,hw2,hn,Jc,Pt.enc,Ng,hT];rfl,?_⟩
    simp only[go_sem]
   |false=>
    have hT:(Jd (pAt l x) (pAt l<|(x+1)%l.length) (pAt l<|(x+2)%l.length)==0)=false:=hT';have hI:Jg l x=false:=by simpa[Uk,hT']using hP
    have⟨fr',h1,_,h2⟩:=Dy l ex hl x hi;rw[hI]at h1;have⟨g2,g0,g3,g11,g12⟩:=h2 hI;refine⟨_,by simp only[go_sem,c320L1b,c320L0,hg,hg1,hg2,hi',hw,hw2,hn,Jc,Pt.enc,Ng,hT,h1,g0,g2,g3,g11,g12,ZSH];rfl,?_⟩
    simp only[go_sem])
  (⟨_,by simp only[go_sem,c320L1b,ZV7,ZG];rfl⟩)
 rw[QE]at L;have⟨fr',h1,h2⟩:=L;have h1':Zg rE [0,3,11,12] c320L1b [(0,.isl false ex 2<|l.map Pt.enc),(3,I l.length),(11,I l.length),(12,.int .i64 0)] []=_:=h1;rw[Z5 (f:=320) rfl rfl];unfold Ni;cases hc:(List.range l.length).all (Uk l)with
 |true=>rw[hc]at h1';simp only[go_sem,c320,c320L1,h1']
 |false=>rw[hc]at h1';simp only[go_sem,c320,c320L1,h1',h2 hc,ZSH]
def Vh(l:List Pt):Bool:=decide ((l.length:Int)>=3)&&(decide ((l.length:Int)<=40)&&(!l.any Jf&&(decide (GW l>0)&&Ni l)))
def Dz(l:List Pt)(ex:Bool)(e:l.length<=1000000):pfn rE 225 [.isl false ex 2<|l.map Pt.enc]=some (.bool<|Vh l):=by
 have g:=Z1i l ex e;have h:=Z1m l ex e;have i:=Z1n l ex e;rw[Z5 (f:=225) rfl rfl];unfold Vh;cases c:decide ((l.length:Int)>=3)with
 |false=>simp only[go_sem,c225,c]
 |true=>
 cases d:decide ((l.length:Int)<=40)with
 |false=>simp only[go_sem,c225,c,d]
 |true=>
 cases a:l.any Jf with
 |true=>simp only[go_sem,c225,c,d,g,a]
 |false=>
 cases b:decide (GW l>0)with
 |false=>simp only[go_sem,c225,c,d,g,h,a,b]
 |true=>simp only[go_sem,c225,c,d,g,h,i,a,b]
def VX(l:List Pt)(i:Nat)(x:Pt):Bool:=gOn x&&!(decide ((i:Int)>0)&&QK x (pAt l<|i-1))
def Ul(l:List Pt):Bool:=Zu (VX l) 0 l&&(decide ((l.length:Int)>=2)&&decide ((l.length:Int)<=40))
def Z1o(l:List Pt)(ex:Bool)(y:l.length<=1000000):pfn rE 227 [.isl false ex 2<|l.map Pt.enc]=some (.bool<|Ul l):=by
 have L:=QT (E:=rE) (live:=[0,5,6,7]) (b:=c227L0b) (h:=[]) l (VX l) (λi=>[(0,.isl false ex 2<|l.map Pt.enc),(5,.isl false ex 2<|l.map Pt.enc),(6,I l.length),(7,I i)]) 0 (λfr=>get fr 0=.isl false ex 2 (l.map Pt.enc)) (λfr=>get fr 2=.bool false) (λi=>rfl)
  (λi x c d=>by
   have p:=Z6 (f:=Pt.enc) c;have o:=Zh<|Z7 c;have s:=Zx (n:=i) (by have:=Z7 c;omega)
   have a:gOn x=true:=by simp only[VX,ZSq]at d;exact d.1
   rcases i with _|j
   .have g:decide (((0:Nat):Int)>0)=false:=rfl;refine⟨_,by simp only[go_sem,c227L0b,p,o,s,Pt.enc,W8,a,g];rfl,?_⟩
    simp only[go_sem]
   .have g:decide (((j+1:Nat):Int)>0)=true:=decide_eq_true (by omega)
    have r:IntKind.i64.wrap (((j+1:Nat):Int)-1)=((j:Nat):Int):=by rw[YM (by omega) (by have:=Z7 c;omega)];omega
    have m:=YN (l:=l) (i:=j) (by have:=Z7 c;omega)
    have k:(x.X==(pAt l j).X&&x.Y==(pAt l j).Y)=false:=by
     have:VX l (j+1) x=(gOn x&&!(decide (((j+1:Nat):Int)>0)&&QK x (pAt l j))):=rfl;rw[this,a,g]at d;simp only[ZSB,ZSP]at d;exact d
    refine⟨_,by simp only[go_sem,c227L0b,p,m,o,s,r,Pt.enc,W8,a,g,k];rfl,?_⟩
    simp only[go_sem])
  (λi x c d=>by
   have p:=Z6 (f:=Pt.enc) c;have o:=Zh<|Z7 c;cases a:gOn x with
   |false=>
    refine⟨_,by simp only[go_sem,c227L0b,p,o,Pt.enc,W8,a];rfl,?_⟩
    simp only[go_sem]
   |true=>
    rcases i with _|j
    .simp[VX,a]at d
    .have g:decide (((j+1:Nat):Int)>0)=true:=decide_eq_true (by omega)
     have r:IntKind.i64.wrap (((j+1:Nat):Int)-1)=((j:Nat):Int):=by rw[YM (by omega) (by have:=Z7 c;omega)];omega
     have m:=YN (l:=l) (i:=j) (by have:=Z7 c;omega)
     have k:(x.X==(pAt l j).X&&x.Y==(pAt l j).Y)=true:=by
      have:VX l (j+1) x=(gOn x&&!(decide (((j+1:Nat):Int)>0)&&QK x (pAt l j))):=rfl;rw[this,a,g]at d;simp only[ZSB,Bool.not_eq_false']at d;exact d
     refine⟨_,by simp only[go_sem,c227L0b,p,m,o,r,Pt.enc,W8,a,g,k];rfl,?_⟩
     simp only[go_sem])
  (⟨_,by simp only[go_sem,c227L0b,ZG];rfl,by simp only[go_sem]⟩)
 have⟨fr',v,t,u⟩:=L;have e:Zg rE [0,5,6,7] c227L0b [(0,.isl false ex 2<|l.map Pt.enc),(5,.isl false ex 2<|l.map Pt.enc),(6,I l.length),(7,.int .i64 0)] []=_:=v;rw[Z5 (f:=227) rfl rfl];unfold Ul;cases q:Zu (VX l) 0 l with
 |true=>
  rw[q]at e;cases w:decide ((l.length:Int)>=2)<;>simp only[go_sem,c227,c227L0,e,t q,w]
 |false=>rw[q]at e;simp only[go_sem,c227,c227L0,e,u q,ZSH]
def Vi:List bf:=[⟨0,0⟩,⟨1,9⟩,⟨1,8⟩,⟨1,7⟩,⟨1,6⟩,⟨1,5⟩,⟨2,9⟩,⟨1,4⟩,⟨2,7⟩,⟨1,3⟩,⟨3,8⟩,⟨2,5⟩,⟨3,7⟩,⟨4,9⟩,⟨1,2⟩,⟨5,9⟩,⟨4,7⟩,⟨3,5⟩,⟨5,8⟩,⟨2,3⟩,⟨5,7⟩,⟨3,4⟩,⟨7,9⟩,⟨4,5⟩,⟨5,6⟩,⟨6,7⟩,⟨7,8⟩,⟨8,9⟩]
def Jh(l:List bf):List AV:=l.flatMap λp=>[I p.a,I p.b]
def Nj:∀(l:List bf)(i:Nat)(x:bf),l[i]?=some x->∃r,(Jh l).drop (i*2)=I x.a::I x.b::r
 |[],i,x,h=>by simp at h
 |y::r,0,x,h=>by
  simp at h;subst h;exact⟨Jh r,rfl⟩
 |y::r,i+1,x,h=>by
  have⟨t,c⟩:=Nj r i x<|by simpa using h
  refine⟨t,?_⟩;rw[<-c];have:(i+1)*2=i*2+1+1:=by omega
  rw[this];rfl
set_option maxRecDepth 4000 in
def DA:pfn rE 369 []=some (.agg<|Jh Vi):=by
 rw[Z5 (f:=369) rfl rfl];simp only[go_sem,c369,Jh,Vi,ZU1,List.flatMap_nil]
def Nl(a b:Int):Int:=Zp (λp:bf=>p.a==a&&p.b==b) Vi 0
def Z1p(a b:Int):pfn rE 327 [I a,I b]=some (I<|Nl a b):=by
 have L:=ZDU (E:=rE) (live:=[0,1,7,8]) (b:=c327L0b) (h:=[]) Vi (λp:bf=>p.a==a&&p.b==b) (λi=>[(0,I a),(1,I b),(7,.agg<|Jh Vi),(8,I i)]) 0 (λi fr=>get fr 4=I i) (λi=>rfl)
  (λi x e j=>by
   have l:i<28:=Z7 e;have d:decide ((i:Int)<28)=true:=decide_eq_true<|by omega
   have g:(0<=(i:Int)/\(i:Int)<((28:Nat):Int))=True:=by simp;omega
   have u:=Zx (n:=i)<|by omega
   have o:((i:Int)).toNat=i:=rfl;have⟨r,m⟩:=Nj _ i x e;refine⟨_,by simp only[go_sem,c327L0b,d,g,o,m,j,u,if_true];rfl,?_⟩
   simp only[go_sem])
  (λi x e j=>by
   have l:i<28:=Z7 e;have d:decide ((i:Int)<28)=true:=decide_eq_true<|by omega
   have g:(0<=(i:Int)/\(i:Int)<((28:Nat):Int))=True:=by simp;omega
   have o:((i:Int)).toNat=i:=rfl;have⟨r,m⟩:=Nj _ i x e;refine⟨_,by simp only[go_sem,c327L0b,d,g,o,m,j,if_true];rfl,?_⟩
   simp only[go_sem])
  (⟨_,by
    have d:decide ((Vi.length:Int)<28)=false:=rfl;simp only[go_sem,c327L0b,d];rfl⟩)
 have⟨fr',t,q⟩:=L;have c:Zg rE [0,1,7,8] c327L0b [(0,I a),(1,I b),(7,.agg<|Jh Vi),(8,.int .i64 0)] []=_:=t;rw[Z5 (f:=327) rfl rfl];unfold Nl;by_cases k:Zp (λp:bf=>p.a==a&&p.b==b) Vi 0=-1
 .rw[k]at c⊢;simp only[go_sem,c327,c327L0,DA,c]
 .have⟨i,d,s⟩:=q k;rw[if_neg k]at c;simp only[go_sem,c327,c327L0,DA,c,s,d]
def Vj(s:Str)(i:Nat):Int:=((s.data[i]?).map λb=>((b.toNat:Nat):Int)).getD 0
def letterT(s:Str):Bool:=Z3 s emp||((s.size:Int)==1&&(decide (Vj s 0>=97)&&decide (Vj s 0<=122)))
def Z1q(s:Str):pfn rE 326 [.str s]=some (.bool<|letterT s):=by
 rw[Z5 (f:=326) rfl rfl];unfold letterT;cases d:Z3 s emp with
 |true=>simp only[go_sem,c326,d]
 |false=>
 cases b:((s.size:Int)==1)with
 |false=>simp only[go_sem,c326,d,b]
 |true=>
  have h:0<s.data.size:=by
   have:s.size=1:=by simp at b;omega
   show 0<s.size;omega
  have e:s.data[(0:Int).toNat]?=some s.data[0]:=by simp
  have g:Vj s 0=((s.data[0].toNat:Nat):Int):=by
   have c:s.data[0]?=some s.data[0]:=e;unfold Vj;rw[c];rfl
  cases a:decide (Vj s 0>=97)<;>rw[g]at a⊢<;>simp only[go_sem,c326,d,b,e,a,ZT3,Int.le_refl,if_true]
def YO(n:HN):Bool:=decide (n.N>=1)&&(decide (n.N<=9999)&&(letterT n.bn&&decide (Nl n.Num n.Den>=0)))
def Ji(n:HN):pfn rE 234 [.agg [I n.N,.str n.bn,I n.Num,I n.Den]]=some (.bool<|YO n):=by
 rw[Z5 (f:=234) rfl rfl];unfold YO;cases b:decide (n.N>=1)with
 |false=>simp only[go_sem,c234,b]
 |true=>
 cases c:decide (n.N<=9999)with
 |false=>simp only[go_sem,c234,b,c]
 |true=>
 cases a:letterT n.bn<;>simp only[go_sem,c234,b,c,Z1q,Z1p,a]
attribute [go_sem] Z19 Z1a Z1b
@[irreducible] def Qj:List AV:=List.replicate 256<|.int .i64 0
def VY:Qj.length=256:=by unfold Qj;exact ZV0
def GY:Qj.all scalar=true:=by
 unfold Qj;rw[ZSw];intro x a;rw[ZUF a];rfl
def VZ(l:List AV)(b:Nat)(c:Int):List AV:=l.take b++[I c]++l.drop (b+1)
def ZT(c:Int)(a:List UInt8)(l:List AV):List AV:=a.foldl (λl b=>VZ l b.toNat c) l
def Z1r{l:List AV}{b:Nat}(c:Int)(h:b<l.length):(VZ l b c).length=l.length:=by
 simp[VZ];omega
def XG(c:Int):∀(a:List UInt8)(l:List AV),l.length=256->(ZT c a l).length=256
 |[],l,h=>h
 |b::r,l,h=>by
  have d:b.toNat<256:=b.toNat_lt;exact XG c r _<|by rw[Z1r c<|by omega];exact h
def Z1s(s:Str)(c:Int)(a:List AV)(u:a.length=256)(A:s.data.size<1000000):
 fnV rE 189 [.str s,I c,.ptr 1 0 0 1] [.row 256 [.agg Qj],.row 256 [.agg a]]=some (.tup [],[.row 256 [.agg Qj],.row 256 [.agg<|ZT c s.data.toList a]]):=by
 have L:=Y8 (E:=rE) (live:=[0,1,2,5]) (b:=c189L0b) s.size (λi=>[(0,.str s),(1,I c),(2,.ptr 1 0 0 1),(5,I i)]) (λi=>[.row 256 [.agg Qj],.row 256 [.agg<|ZT c (s.data.toList.take i) a]]) (λi=>rfl)
  (λi p=>by
   have g:i<s.data.size:=p;have h:=Zh p;have t:=Zx (n:=i)<|by omega
   have q:s.data[i]?=some s.data[i]:=by simp[g]
   have w:((i:Int)).toNat=i:=rfl;have y:s.data.toList.take (i+1)=s.data.toList.take i++[s.data[i]]:=by
    rw[ZTA];congr 1;simp[g]
   have r:ZT c (s.data.toList.take<|i+1) a=VZ (ZT c (s.data.toList.take i) a) s.data[i].toNat c:=by
    rw[y];simp[ZT]
   rw[r];have v:=XG c (s.data.toList.take i) a u;generalize ZT c (s.data.toList.take i) a=l at v⊢;generalize s.data[i]=b at q⊢;have z:b.toNat<256:=b.toNat_lt;have m:(0<=((b.toNat:Nat):Int)/\((b.toNat:Nat):Int)<((256:Nat):Int))=True:=by simp;omega
   have j:(((b.toNat:Nat):Int)).toNat=b.toNat:=rfl;have k:decide (b.toNat+1<=l.length)=true:=decide_eq_true<|by omega
   have d:(0<=(i:Int))=True:=by simp
   refine⟨_,by simp only[go_sem,c189L0b,h,d,t,w,q,m,j,k,if_true,ZT3,ZSE,ZTg];rfl,?_⟩
   simp only[go_sem])
  (e:=.exit 0) (by simp only[go_sem,c189L0b,ZG];rfl) (by simp)
 have o:Zg rE [0,1,2,5] c189L0b [(0,.str s),(1,I c),(2,.ptr 1 0 0 1),(5,.int .i64 0)] [.row 256 [.agg Qj],.row 256 [.agg a]]=_:=L;rw[Q6 (f:=189) rfl rfl];have x:s.data.toList.take s.size=s.data.toList:=by
  apply ZSR;exact Nat.le_of_eq<|ZTb
 rw[x]at o;simp only[go_sem,c189,c189L0,o]
def WH(l:List UInt8)(c:Int)(a:List AV)(d:l.length<100)(b:a.length=256):
 fnV rE 189 [.str<|B l,I c,.ptr 1 0 0 1] [.row 256 [.agg Qj],.row 256 [.agg a]]=some (.tup [],[.row 256 [.agg Qj],.row 256 [.agg<|ZT c l a]]):=
 Z1s (B l) c a b (Nat.lt_trans d<|by decide)
def Um:List UInt8:=[97,98,99,100,101,102,103,104,105,106,107,108,109,110,111,112,113,114,115,116,117,118,119,120,121,122,65,66,67,68,69,70,71,72,73,74,75,76,77,78,79,80,81,82,83,84,85,86,87,88,89,90]
def Qe:List AV:=ZT 9 [59,44,46,58,40,41,91,93,123,125,61,43,45]<|ZT 8 [60,62]<|ZT 7 [33]<|ZT 6 [34]<|ZT 2 [35]<|ZT 1 [32,9,10]<|ZT 5 [95]<|ZT 4 [48,49,50,51,52,53,54,55,56,57]<|ZT 3 Um Qj
def DB:ACode:=
 .seq (.region [o 3<|.mkf (.func 189) [] [(.t 1)],
  o 2 (.mv<|.t 3)])<|
.seq (.region [o 4<|.mv<|.t 2,
 o 5 (.callv false (.t 4) [(.c<|.str<|B Um),(.c<|.int .i64 3)])])<|
.seq (.region [o 6<|.mv<|.t 2,
 o 7 (.callv false (.t 6) [(.c<|.str<|B [48,49,50,51,52,53,54,55,56,57]),(.c<|.int .i64 4)])])<|
.seq (.region [o 8<|.mv<|.t 2,
 o 9 (.callv false (.t 8) [(.c<|.str<|B [95]),(.c<|.int .i64 5)])])<|
.seq (.region [o 10<|.mv<|.t 2,
 o 11 (.callv false (.t 10) [(.c<|.str<|B [32,9,10]),(.c<|.int .i64 1)])])<|
.seq (.region [o 12<|.mv<|.t 2,
 o 13 (.callv false (.t 12) [(.c<|.str<|B [35]),(.c<|.int .i64 2)])])<|
.seq (.region [o 14<|.mv<|.t 2,
 o 15 (.callv false (.t 14) [(.c<|.str<|B [34]),(.c<|.int .i64 6)])])<|
.seq (.region [o 16<|.mv<|.t 2,
 o 17 (.callv false (.t 16) [(.c<|.str<|B [33]),(.c<|.int .i64 7)])])<|
.seq (.region [o 18<|.mv<|.t 2,
 o 19 (.callv false (.t 18) [(.c<|.str<|B [60,62]),(.c<|.int .i64 8)])])<|
.seq (.region [o 20<|.mv<|.t 2,
 o 21 (.callv false (.t 20) [(.c<|.str<|B [59,44,46,58,40,41,91,93,123,125,61,43,45]),(.c<|.int .i64 9)])])<|
.seq (.region [o 22<|.load (some 256)<|.t 1,
 ⟨none,.store 256 (.t 0)<|.t 22,none⟩])<|
.ret
def GZ:ACode:=.seq (.region [o 0<|.box 256<|.c<|.agg Qj])<|.seq (.region [o 1<|.box 256<|.c<|.agg Qj]) DB
def c108_eq:c108=GZ:=by
 unfold GZ Qj;kernel_rfl
def W9(c:Int):∀(d:List UInt8)(l:List AV),l.all scalar=true->(ZT c d l).all scalar=true
 |[],l,h=>h
 |b::r,l,h=>by
  refine W9 c r _ ?_;simp only[VZ,List.all_append,ZTE,List.all_nil,scalar_int,ZSW,ZSq];rw[ZSw]at h⊢;exact⟨λx a=>h x<|ZTQ a,ZSw.2 λx a=>h x<|ZUh a⟩
def cl0:List AV:=ZT 3 Um Qj
def Nn:cl0.length=256:=XG _ _ _ VY
def DC:cl0.all scalar=true:=W9 _ _ _ GY
def Z1t:ZT 3 Um Qj=cl0:=rfl
def cl1:List AV:=ZT 4 [48,49,50,51,52,53,54,55,56,57] cl0
def Np:cl1.length=256:=XG _ _ _ Nn
def DD:cl1.all scalar=true:=W9 _ _ _ DC
def Z1u:ZT 4 [48,49,50,51,52,53,54,55,56,57] cl0=cl1:=rfl
def cl2:List AV:=ZT 5 [95] cl1
def Nq:cl2.length=256:=XG _ _ _ Np
def DE:cl2.all scalar=true:=W9 _ _ _ DD
def Z1v:ZT 5 [95] cl1=cl2:=rfl
def cl3:List AV:=ZT 1 [32,9,10] cl2
def Nr:cl3.length=256:=XG _ _ _ Nq
def DF:cl3.all scalar=true:=W9 _ _ _ DE
def Z1w:ZT 1 [32,9,10] cl2=cl3:=rfl
def cl4:List AV:=ZT 2 [35] cl3
def Ns:cl4.length=256:=XG _ _ _ Nr
def DG:cl4.all scalar=true:=W9 _ _ _ DF
def Z1x:ZT 2 [35] cl3=cl4:=rfl
def cl5:List AV:=ZT 6 [34] cl4
def Nt:cl5.length=256:=XG _ _ _ Ns
def DH:cl5.all scalar=true:=W9 _ _ _ DG
def Z1y:ZT 6 [34] cl4=cl5:=rfl
def cl6:List AV:=ZT 7 [33] cl5
def Nu:cl6.length=256:=XG _ _ _ Nt
def DI:cl6.all scalar=true:=W9 _ _ _ DH
def Z1z:ZT 7 [33] cl5=cl6:=rfl
def cl7:List AV:=ZT 8 [60,62] cl6
def Nv:cl7.length=256:=XG _ _ _ Nu
def DJ:cl7.all scalar=true:=W9 _ _ _ DI
def Z1A:ZT 8 [60,62] cl6=cl7:=rfl
def cl8:List AV:=ZT 9 [59,44,46,58,40,41,91,93,123,125,61,43,45] cl7
def Nw:cl8.length=256:=XG _ _ _ Nv
def DK:cl8.all scalar=true:=W9 _ _ _ DJ
def Z1B:ZT 9 [59,44,46,58,40,41,91,93,123,125,61,43,45] cl7=cl8:=rfl
def Z1C:Qe=cl8:=rfl
def Ny:Qe.length=256:=Nw
def DL:Qe.all scalar=true:=DK
def Z1D{l:List AV}(h:l.length=256):List.take 256 l=l:=ZSR<|by omega
def DM{l:List AV}(h:l.length=256):List.drop 256 l=[]:=List.drop_of_length_le<|by omega
def Wa(c:Int):∀(e:List UInt8)(l:List AV),Z4 l=true->Z4 (ZT c e l)=true
 |[],l,h=>h
 |b::r,l,h=>by
  refine Wa c r _ ?_;have d:Z4 (l.take b.toNat)=true/\Z4 (l.drop b.toNat)=true:=by
   rw[<-ZSq,<-XA,ZTt];exact h
  have f:Z4 (l.drop<|b.toNat+1)=true:=by
   cases a:l.drop b.toNat with
   |nil=>have:l.drop (b.toNat+1)=[]:=by rw[<-ZTF,a];rfl
         rw[this];rfl
   |cons x t=>have:l.drop (b.toNat+1)=t:=by rw[<-ZTF,a];rfl
              rw[this];have:=d.2;rw[a]at this;simp[Z4]at this;exact this.2
  simp only[VZ,XA,d.1,f,N1,Dk,Dj,ZTl]
def DN:Z4 Qj=true:=by unfold Qj;kernel_rfl
def Un:Z4 Qe=true:=by
 unfold Qe;exact Wa _ _ _<|Wa _ _ _<|Wa _ _ _<|Wa _ _ _<|Wa _ _ _<|Wa _ _ _<|Wa _ _ _<|Wa _ _ _<|Wa _ _ _ DN
def DO:pfn rE 108 []=some (.agg Qe):=by
 have g:List.take 256 cl8=cl8:=Z1D Nw;have a:List.drop 256 Qj=[]:=DM VY;have i:Z4 cl8=true:=Un;have m:=WH Um 3 Qj (by decide) VY
 have b:=WH [48,49,50,51,52,53,54,55,56,57] 4 cl0 (by decide) Nn
 have d:=WH [95] 5 cl1 (by decide) Np
 have j:=WH [32,9,10] 1 cl2 (by decide) Nq
 have h:=WH [35] 2 cl3 (by decide) Nr
 have k:=WH [34] 6 cl4 (by decide) Ns
 have e:=WH [33] 7 cl5 (by decide) Nt
 have n:=WH [60,62] 8 cl6 (by decide) Nu
 have l:=WH [59,44,46,58,40,41,91,93,123,125,61,43,45] 9 cl7 (by decide) Nv
 rw[Z5 (f:=108) (c:=GZ) rfl (by rw[<-c108_eq];rfl),Z1C]
 simp only[go_sem,GZ,DB,VY,GY,RL,m,b,d,j,h,k,e,n,l,Nw,DK,Z1t,Z1u,Z1v,Z1w,Z1x,Z1y,Z1z,Z1A,Z1B,g,a,i,ZSC]
def isI(v:AV):Bool:=match v with| .int .i64 _=>true|_=>false
def Z1E{v:AV}(h:isI v=true):∃n,v=I n:=by
 cases v with
 |int k n=>cases k<;>first|exact⟨n,rfl⟩|simp[isI]at h
 |_=>simp[isI]at h
def Wb(c:Int):∀(d:List UInt8)(l:List AV),l.all isI=true->(ZT c d l).all isI=true
 |[],l,h=>h
 |b::r,l,h=>by
  refine Wb c r _ ?_;simp only[VZ,List.all_append,ZTE,List.all_nil,ZSW,ZSq];rw[ZSw]at h;exact⟨⟨ZSw.2 λx a=>h x<|ZTQ a,rfl⟩,ZSw.2 λx a=>h x<|ZUh a⟩
def Z1F:Qe.all isI=true:=by
 have b:Qj.all isI=true:=by
  unfold Qj;rw[ZSw];intro x a;rw[ZUF a];rfl
 unfold Qe;exact Wb _ _ _<|Wb _ _ _<|Wb _ _ _<|Wb _ _ _<|Wb _ _ _<|Wb _ _ _<|Wb _ _ _<|Wb _ _ _<|Wb _ _ _ b
def intOf(v:AV):Int:=match v with| .int _ n=>n|_=>0
def K1(k:Nat):Int:=intOf<|Qe.getD k .bot
def Z1G{k:Nat}(h:k<256):Qe.drop k=I (K1 k)::Qe.drop (k+1):=by
 have a:k<Qe.length:=by rw[Ny];exact h
 rw[ZTD a];have c:=ZSw.1 Z1F _<|ZUq a;have⟨n,b⟩:=Z1E c;have:K1 k=n:=by
  unfold K1;rw[List.getD,ZSu a,b];rfl
 rw[this,b]
def Xc(s:Str)(i:Nat):Nat:=(s.data.getD i 0).toNat
def atT(s:Str)(i:Nat):Int:=bif decide ((i:Int)>=(s.size:Int))then 0 else K1<|Xc s i
def DP(s:Str)(i:Nat):Xc s i<256:=UInt8.toNat_lt _
def DQ{s:Str}{i:Nat}(h:i<s.size):s.data[i]?=some (s.data.getD i 0):=by
 have h':i<s.data.size:=h;have e:s.data[i]?=some s.data[i]:=ZTh h';rw[ZTf,e];rfl
def H0(s:Str)(i:Nat):pfn rE 191 [.iptr true<|.str s::Qe,I i]=some (I<|atT s i):=by
 rw[Z5 (f:=191) rfl rfl];unfold atT;cases hc:decide ((i:Int)>=(s.size:Int))with
 |true=>simp only[go_sem,c191,hc]
 |false=>
  have hi:i<s.size:=by have:=of_decide_eq_false hc;omega
  have hg:=DQ hi;have h0:(0<=(i:Int))=True:=by simp
  have hn:((i:Int)).toNat=i:=rfl;have hb:=DP s i;have hd:=Z1G hb;have hb':(0<=((Xc s i:Nat):Int)/\((Xc s i:Nat):Int)<((256:Nat):Int))=True:=by simp;omega
  have hbn:(((Xc s i:Nat):Int)).toNat=Xc s i:=rfl;have e:(s.data.getD i 0).toNat=Xc s i:=rfl;simp only[go_sem,c191,hc,h0,hn,hg,if_true,ZT3,e,hb',hbn,ZTg,hd]
def Jj(n:Option Nat)(sz:Nat)(q:AOp):ACode:=
 .keep [0,1,4,7,8]<|.seq (.region [o 9<|.bin .lss (.t 8)<|.t 7])<|
  .seq (.cond (.t 9) (.skip)<|.exit 0)<|
  .seq (.keep [0,1,4,7,8]<|.block 1<|
   .seq (.region [o 10<|.mv<|.t 8,o 5<|.mv<|.t 10])<|
   .seq (.keep [0,1,5,7,8,16]<|.region [o 11<|.mv<|.t 1,o 12<|.mv<|.t 0,o 13<|.mv<|.t 5,o 14<|.iadr sz (.t 12)<|.t 13,o 15<|.load n<|.t 14,o 16 q])<|
   .cond (.t 16) (.seq (.region [o 17<|.mv<|.t 5,o 4<|.mv<|.t 17])<|.ret) (.skip))<|
  .region [o 18<|.bin .add (.t 8)<|.c<|.int .i64 1,o 8<|.mv<|.t 18]
def ixC(n:Option Nat)(sz:Nat)(q:AOp):ACode:=
 .seq (.region [o 4<|.mv<|.c<|.int .i64 0])<|
 .seq (.seq (.keep [0,1,7,8]<|.region [o 6<|.mv<|.t 0,o 7<|.len 1<|.t 6,o 8<|.mv<|.c<|.int .i64 0])<|
 .keep [4]<|.block 0<|.loop [0,1,7,8]<|Jj n sz q)<|
 .seq (.region [o 4<|.mv<|.c<|.int .i64<|-1])<|
 .ret
def Nz{r:Type}{f:Nat}{enc:r->AV}{p:r->Bool}{v:AV}(z:rE.sum f=none)(A:rE.fn f=some ⟨[.tmp 4],ixC none 1<|.bin .eql (.t 11)<|.t 15⟩)(l:List r)(B:l.length<=4611686018427387904)
 (e:∀x∈l,(enc x).cells=[enc x]) (C:clean v=true) (s:∀x∈l,YZ .eql v (enc x)=some (.bool<|p x)) (bw ex:Bool):pfn rE f [.isl bw ex 1<|l.map enc,v]=some (I<|Zp p l 0):=by
 have L:=ZDU (E:=rE) (live:=[0,1,7,8]) (b:=Jj none 1<|.bin .eql (.t 11)<|.t 15) (h:=[]) l p (λi=>[(0,.isl bw ex 1<|l.map enc),(1,v),(7,I l.length),(8,I i)]) 0 (λi fr=>get fr 4=I i) (λi=>rfl)
  (λi x d q=>by
   have o:=Z6 (f:=enc) d;have j:=Zh<|Z7 d;have w:=Zx (n:=i) (by have:=Z7 d;omega)
   have g:=ZSy d;have m:=e x g;have a:=s x g;rw[q]at a;simp only[go_sem]at a;refine⟨_,by simp only[go_sem,Jj,o,j,w,m,a];rfl,?_⟩
   simp only[go_sem])
  (λi x d q=>by
   have o:=Z6 (f:=enc) d;have j:=Zh<|Z7 d;have g:=ZSy d;have m:=e x g;have a:=s x g;rw[q]at a;simp only[go_sem]at a;refine⟨_,by simp only[go_sem,Jj,o,j,m,a];rfl,?_⟩
   simp only[go_sem])
  (⟨_,by simp only[go_sem,Jj,ZG];rfl⟩)
 have⟨fr',y,u⟩:=L;have c:Zg rE [0,1,7,8] (Jj none 1<|.bin .eql (.t 11)<|.t 15) [(0,.isl bw ex 1<|l.map enc),(1,v),(7,I l.length),(8,.int .i64 0)] []=_:=y;rw[Z5 (f:=f) z A];by_cases k:Zp p l 0=-1
 .rw[k]at c⊢;simp only[go_sem,ixC,c]
 .have⟨i,j,a⟩:=u k;rw[if_neg k]at c;simp only[go_sem,ixC,c,a,j]
def DR(l:List Int)(ex:Bool)(v:Int)(a:l.length<=1000000):pfn rE 135 [.isl false ex 1<|l.map I,I v]=some (.bool<|l.any<|λx=>v==x):=by
 have h:=Nz (f:=254) (enc:=I) (p:=λx=>v==x) (v:=I v) rfl rfl l (by omega) (λx _=>rfl) rfl (λx _=>rfl) false ex
 rw[Z5 (f:=135) rfl rfl,<-Vg];unfold WG;simp only[go_sem,c135,h]
def Xd(s:Str)(cs:List Int):Nat->Nat->Nat
 |0,i=>i
 |k+1,i=>bif decide ((i:Int)<(s.size:Int))&&cs.any (λx=>atT s i==x)then Xd s cs k (i+1)else i
def ZI(s:Str)(cs:List Int)(i:Nat):Nat:=Xd s cs (s.size-i) i
def NA(s:Str)(cs:List Int):∀k i,i<=Xd s cs k i/\Xd s cs k i<=i+k
 |0,i=>by simp[Xd]
 |k+1,i=>by
  unfold Xd;cases decide ((i:Int)<(s.size:Int))&&cs.any (λx=>atT s i==x)with
  |true=>have:=NA s cs k<|i+1;simp only[cond_true];omega
  |false=>simp
def K2(s:Str)(cs:List Int)(i:Nat):i<=ZI s cs i:=(NA s cs _ i).1
def K3(s:Str)(cs:List Int){i:Nat}(h:i<=s.size):ZI s cs i<=s.size:=by
 have:=(NA s cs (s.size-i) i).2;unfold ZI;omega
def NB(s:Str)(cs:List Int){i:Nat}(h:i<s.size):ZI s cs i=bif cs.any (λx=>atT s i==x)then ZI s cs (i+1)else i:=by
 unfold ZI;have e:s.size-i=(s.size-(i+1))+1:=by omega
 rw[e,Xd];have:decide ((i:Int)<(s.size:Int))=true:=Zh h;rw[this,ZSB]
def H1(s:Str)(cs:List Int)(i:Nat)(hs:s.size<=1000000)(hi:i<=s.size)(hc:cs.length<=1000):pfn rE 190 [.iptr true<|.str s::Qe,I i,Iy 1<|cs.map I]=some (I<|ZI s cs i):=by
 have L:∀k i,s.size-i=k->i<=s.size->Zg rE [0,1,2] c190L0b [(0,.iptr true<|.str s::Qe),(1,I i),(2,Iy 1<|cs.map I)] []=some (.exit 0,[(0,.iptr true<|.str s::Qe),(1,I (Xd s cs k i:Nat)),(2,Iy 1<|cs.map I)],[]):=by
  intro k;induction k with
  |zero=>
   intro i hk hi;have:i=s.size:=by omega
   subst this;exact Q7 rfl (by simp only[go_sem,c190L0b,ZG];rfl) (by simp)
  |succ k ih=>
   intro i hk hi;have hlt:decide ((i:Int)<(s.size:Int))=true:=Zh<|by omega
   have ha:=H0 s i;have hh:=DR cs false (atT s i)<|by omega
   have hw:=Zx (n:=i)<|by omega
   unfold Xd;rw[hlt,ZSB];cases hb:cs.any (λx=>atT s i==x)with
   |true=>
    rw[hb]at hh;rw[cond_true,<-ih (i+1) (by omega) (by omega)]
    refine(Yt rfl (by simp only[go_sem,c190L0b,hlt,ha,hh,hw];rfl)).trans ?_
    simp only[go_sem]
   |false=>
    rw[hb]at hh;rw[cond_false];exact Q7 rfl (by simp only[go_sem,c190L0b,hlt,ha,hh]) (by simp)
 have L':=L _ i rfl hi;rw[Z5 (f:=190) rfl rfl];unfold ZI;simp only[go_sem,c190,c190L0,L']
def nlB(c:UInt8):Bool:=((c.toNat:Nat):Int)==10
def Wd(s:Str)(i:Nat):Int:=Yc nlB (s.extract i s.size).data.toList 0
def K4(s:Str):Nat->Nat->Nat
 |0,i=>i
 |k+1,i=>bif atT s i==2 then(bif decide (Wd s i<0)then s.size else K4 s k<|ZI s [1]<|i+(Wd s i).toNat)else i
def YP(s:Str)(i:Nat):Nat:=K4 s (s.size+1)<|ZI s [1] i
def H2(p:UInt8->Bool):∀(l:List UInt8)(k:Nat),Yc p l k=-1\/∃j:Nat,Yc p l k=((k+j:Nat):Int)/\j<l.length/\∃c,l[j]?=some c/\p c=true
 |[],k=>Or.inl rfl
 |c::r,k=>by
  unfold Yc;cases a:p c with
  |true=>right;exact⟨0,by simp,by simp,c,by simp,a⟩
  |false=>
   rw[cond_false];have e:(k:Int)+1=((k+1:Nat):Int):=by omega
   rw[e];rcases H2 p r (k+1)with h|⟨j,h1,h2,c2,h3,h4⟩
   .exact Or.inl h
   .right;refine⟨j+1,?_,by simp;omega,c2,by simpa using h3,h4⟩
    rw[h1];omega
def ext_list(s:Str)(i j:Nat):(s.extract i j).data.toList=(s.data.toList.drop i).take (j-i):=by
 rw[ByteArray.data_extract,Array.toList_extract,List.extract_eq_take_drop]
def Z1H(s:Str)(i:Nat):Wd s i=-1\/∃j:Nat,Wd s i=(j:Int)/\i+j<s.size/\Xc s (i+j)=10:=by
 unfold Wd;rcases H2 nlB (s.extract i s.size).data.toList 0 with h|⟨j,h1,h2,c,h3,h4⟩
 .exact Or.inl h
 .right;rw[ext_list]at h2 h3;have b:s.data.toList.length=s.size:=ZTb;refine⟨j,by exact h1.trans (by simp),?_,?_⟩
  .simp at h2;have:s.data.size=s.size:=rfl;omega
  .have a:s.data.toList[i+j]?=some c:=by
    rw[ZV9,ZU9]at h3;split at h3
    .exact h3
    .cases h3
   have d:s.data[i+j]?=some c:=by simpa using a
   have:Xc s (i+j)=c.toNat:=by unfold Xc;rw[ZTf,d];rfl
   rw[this];have:((c.toNat:Nat):Int)=10:=by simpa[nlB]using h4
   omega
def Z1I:K1 10=1:=by unfold K1 Qe Qj;kernel_rfl
def Z1J{s:Str}{i:Nat}(h:i<s.size)(a:Xc s i=10):atT s i=1:=by
 unfold atT;have:decide ((i:Int)>=(s.size:Int))=false:=decide_eq_false<|by omega
 rw[this,cond_false,a,Z1I]
def DS{i n:Nat}(h:i<=n):bounds (some<|I i) none none n=some (i,n,none):=by
 simp[bounds,Vz,Wl,VA,numOf,VB,Ue,h]
def DT{i n:Nat}(h:i<=n):bounds none (some<|I i) none n=some (0,i,none):=by
 simp[bounds,Vz,Wl,VA,numOf,VB,Ue,h]
def Uo{i j n:Nat}(h:i<=j)(a:j<=n):bounds (some<|I i) (some<|I j) none n=some (i,j,none):=by
 simp[bounds,Vz,Wl,VA,numOf,VB,Ue,h,a]
def Z1K(s:Str):pfn rE 192 [.str s,.int .u8 10]=some (I<|Yc (λx=>(x.toNat:Int)==10) s.data.toList 0):=by
 unfold pfn;rw[V8 (s:=U9) rfl];rfl
def DU(s:Str)(i:Nat)(hs:s.size<=1000000)(hi:i<=s.size):pfn rE 109 [.iptr true<|.str s::Qe,I i]=some (I<|YP s i)/\YP s i<=s.size/\i<=YP s i:=by
 have L:∀k i,s.size+1-i<=k->i<=s.size->∃e fr',Zg rE [0,1] c109L0b [(0,.iptr true<|.str s::Qe),(1,I i)] []=some (e,fr',[])/\((e=.exit 0/\get fr' 1=I (K4 s k i))\/(e=.ret/\get fr' 4=I (K4 s k i)))/\K4 s k i<=s.size/\i<=K4 s k i:=by
  intro k;induction k with
  |zero=>intro i hk hi;omega
  |succ k ih=>
   intro i hk hi;have ha:=H0 s i;unfold K4;cases h2:atT s i==2 with
   |false=>
    rw[cond_false];refine⟨_,_,Q7 rfl (by simp only[go_sem,c109L0b,ha,h2];rfl) (by simp),Or.inl ⟨rfl,?_⟩,hi,ZSr _⟩
    simp only[go_sem]
   |true=>
    have hlt:i<s.size:=by
     cases hd:decide ((i:Int)>=(s.size:Int))with
     |false=>have:=of_decide_eq_false hd;omega
     |true=>unfold atT at h2;rw[hd]at h2;simp at h2
    have hbd:=DS (i:=i) (n:=s.size) hi;have hib:=Z1K<|s.extract i s.size;have hib':pfn rE 192 [.str<|s.extract i s.size,.int .u8 10]=some (I<|Wd s i):=hib;rw[cond_true];rcases Z1H s i with hn|⟨j,hn,hj,hb⟩
    .have hneg:decide (Wd s i<0)=true:=by rw[hn];rfl
     rw[hneg,cond_true];refine⟨_,_,Q7 rfl (by simp only[go_sem,c109L0b,ha,h2,hbd,hib',hneg];rfl) (by simp),Or.inr ⟨rfl,?_⟩,ZSr _,hi⟩
     simp only[go_sem]
    .have hneg:decide (Wd s i<0)=false:=by rw[hn];exact decide_eq_false (by omega)
     rw[hneg,cond_false];have e1:(Wd s i).toNat=j:=by rw[hn];rfl
     rw[e1];have hw:IntKind.i64.wrap ((i:Int)+Wd s i)=((i+j:Nat):Int):=by rw[hn,YM (by omega)<|by omega];omega
     have hwh:pfn rE 190 [.iptr true<|.str s::Qe,I (i+j:Nat),Iy 1 [I 1]]=some (I<|ZI s [1]<|i+j):=H1 s [1] (i+j) hs (by omega)<|by simp
     have hge:i+j+1<=ZI s [1] (i+j):=by
      rw[NB s [1] hj];have:([1]:List Int).any (λx=>atT s (i+j)==x)=true:=by simp[Z1J hj hb]
      rw[this,cond_true];exact K2 s [1]<|i+j+1
     have hle:=K3 s [1] (i:=i+j)<|by omega
     generalize hwt:ZI s [1] (i+j)=w at hwh hge hle⊢;have⟨e,fr',h3,h4,h5,h6⟩:=ih w (by omega) hle
     refine⟨e,fr',?_,h4,h5,by omega⟩
     rw[<-h3];refine(Yt rfl (by simp only[go_sem,c109L0b,ha,h2,hbd,hib',hneg,hw,hwh];rfl)).trans ?_
     simp only[go_sem]
 have hwh:pfn rE 190 [.iptr true<|.str s::Qe,I i,Iy 1 [I 1]]=some (I<|ZI s [1] i):=H1 s [1] i hs hi<|by simp
 have hge:=K2 s [1] i;have hle:=K3 s [1] hi;have⟨e,fr',h1,h2,h3,h4⟩:=L (s.size+1) (ZI s [1] i) (by omega) hle
 refine⟨?_,h3,by unfold YP;omega⟩
 rw[Z5 (f:=109) rfl rfl];unfold YP;rcases h2 with⟨rfl,h2⟩|⟨rfl,h2⟩<;>simp only[go_sem,c109,c109L0,hwh,h1,h2]
def Xe(s p:Str):Bool:=decide ((s.size:Int)>=(p.size:Int))&&Z3 (s.extract 0 p.size) p
def Z1L(s p:Str):pfn rE 116 [.str s,.str p]=some (.bool<|Xe s p):=by
 have h:pfn rE 207 [.str s,.str p]=some (.bool<|Xe s p):=by
  rw[Z5 (f:=207) rfl rfl];unfold Xe;cases a:decide ((s.size:Int)>=(p.size:Int))with
  |false=>simp only[go_sem,c207,a]
  |true=>
   have b:=DT (i:=p.size) (n:=s.size) (by have:=of_decide_eq_true a;omega)
   simp only[go_sem,c207,a,b]
 rw[Z5 (f:=116) rfl rfl];simp only[go_sem,c116,h]
def qnB(c:UInt8):Bool:=[34,10].any (·==c)
def Z1M(s:Str)(a:s.size<4294967281):pfn rE 193 [.str s,.str<|B [34,10]]=some (I<|Yc qnB s.data.toList 0):=by
 have e:J6 [.str s,.str<|B [34,10]] []=some (.int .i64<|Yc qnB s.data.toList 0,[]):=by
  have b:Nat.blt s.size 4294967281=true:=ZTn a;show(bif (Nat.blt s.size 4294967281&&_)then some _ else none)=_
  rw[b];rfl
 unfold pfn;rw[V8 (s:=J6) rfl,e];rfl
def NC(s:Str):Int:=J4 s.data.toList 0
def H3(s:Str):Bool:=s.data.toList.all W6&&(!s.data.toList.isEmpty&&Nat.ble s.size 18)
def Z1N(s:Str)(h:H3 s=true):pfn rE 53 [.str s]=some (.tup [I<|NC s,.nilif]):=by
 have e:ZOu [.str s] []=some (.tup [I<|NC s,.nilif],[]):=by
  unfold H3 at h;show(bif (s.data.toList.all W6&&(!s.data.toList.isEmpty&&Nat.ble s.size 18))then some _ else _)=_
  rw[h];rfl
 unfold pfn;rw[V8 (s:=ZOu) rfl,e];rfl
def Z1O:∀k:Fin 256,K1 k.val=4->48<=k.val/\k.val<=57:=by decide +kernel
def Z1P{s:Str}{i:Nat}(h:atT s i=4):i<s.size/\W6 (s.data.getD i 0)=true:=by
 unfold atT at h;cases c:decide ((i:Int)>=(s.size:Int))with
 |true=>rw[c]at h;cases h
 |false=>
  rw[c,cond_false]at h;have d:=of_decide_eq_false c;have⟨b,a⟩:=Z1O ⟨Xc s i,DP s i⟩ h;refine⟨by omega,?_⟩
  unfold W6;rw[ZSq];exact⟨decide_eq_true b,decide_eq_true a⟩
def DV(s:Str):∀k i j,i<=j->j<Xd s [4] k i->atT s j=4
 |0,i,j,h1,h2=>by rw[Xd]at h2;omega
 |k+1,i,j,h1,h2=>by
  rw[Xd]at h2;cases c:decide ((i:Int)<(s.size:Int))&&[4].any (λx=>atT s i==x)with
  |false=>rw[c,cond_false]at h2;omega
  |true=>
   rw[c,cond_true]at h2;by_cases e:i=j
   .subst e;rw[ZSq]at c;simpa using c.2
   .exact DV s k (i+1) j (by omega) h2
def Z1Q(s:Str)(i:Nat)(q:i<s.size)(z:s.size<=1000000)(v:(atT s i==4)=true)(d:decide (W ((ZI s [4] i:Int)-(i:Int))>13)=false):H3 (s.extract i<|ZI s [4] i)=true:=by
 have t:=K2 s [4] i;have n:=K3 s [4] (i:=i)<|by omega
 have u:i<ZI s [4] i:=by
  rw[NB s [4] q];have:[4].any (λx=>atT s i==x)=true:=by simpa using v
  rw[this,cond_true];exact K2 s [4]<|i+1
 have o:W ((ZI s [4] i:Int)-(i:Int))=(ZI s [4] i:Int)-(i:Int):=YM (by omega)<|by omega
 rw[o]at d;have j:=of_decide_eq_false d;have f:(s.extract i<|ZI s [4] i).size=ZI s [4] i-i:=by
  rw[ByteArray.size_extract];omega
 have c:(s.extract i<|ZI s [4] i).data.toList.length=ZI s [4] i-i:=by
  rw[<-f];exact ZTb
 unfold H3;simp only[ZSq];refine⟨?_,?_,ZTn<|by omega⟩
 .rw[ZSw];intro b p;have⟨m,l⟩:=ZTs.1 p;have g:m<ZI s [4] i-i:=by rw[<-c];exact(ZSA.1 l).1
  have k:=Z1P<|DV s (s.size-i) i (i+m) (by omega)<|by unfold ZI at g;omega
  have w:s.data[i+m]?=some b:=by
   have e:(s.extract i<|ZI s [4] i).data[m]?=some b:=by
    rw[<-ZTV];exact l
   rw[ByteArray.data_extract,Array.getElem?_extract]at e;split at e
   .exact e
   .cases e
  have y:s.data.getD (i+m) 0=b:=by
   rw[ZTf,w];rfl
  rw[y]at k;exact k.2
 .cases h:(s.extract i<|ZI s [4] i).data.toList with
  |nil=>rw[h]at c;simp at c;omega
  |cons a r=>rfl
structure Tok where
 br:Int
 At:Int
 N:Int
 Text:Str
def Tok.enc(t:Tok):AV:=.agg [I t.br,I t.At,I t.N,.str t.Text]
def Yw:Tok:=⟨0,0,0,emp⟩
structure Nx where
 tok:Tok
 stop:Int
 err:Int
abbrev ZX(s:Str)(i j:Nat):Str:=s.extract i j
def quN(s:Str)(i:Nat):Int:=Yc qnB (ZX s (i+1) s.size).data.toList 0
def H4(s:Str)(i:Nat):Bool:=decide (quN s i<0)||Vj (ZX s (i+1) s.size) (quN s i).toNat==10
def We(s:Str)(i:Nat):Nx:=
 bif atT s i==3 then
  (bif decide (W ((ZI s [3,4,5] i:Int)-(i:Int))>24)then⟨Yw,0,2⟩else⟨⟨1,i,0,ZX s i<|ZI s [3,4,5] i⟩,ZI s [3,4,5] i,0⟩)
 else bif atT s i==4 then
  (bif decide (W ((ZI s [4] i:Int)-(i:Int))>13)||(atT s (ZI s [4] i)==3||atT s (ZI s [4] i)==5)then⟨Yw,0,4⟩
   else⟨⟨2,i,NC<|ZX s i<|ZI s [4] i,ZX s i<|ZI s [4] i⟩,ZI s [4] i,0⟩)
 else bif atT s i==6 then
  (bif H4 s i then⟨Yw,0,6⟩else bif decide (quN s i>400)then⟨Yw,0,2⟩else⟨⟨3,i,0,ZX (ZX s (i+1) s.size) 0 (quN s i).toNat⟩,i+(quN s i).toNat+2,0⟩)
 else bif atT s i==7||atT s i==8 then
  (bif Xe (ZX s (i+1) s.size) (B [61])then⟨⟨4,i,0,ZX s i<|i+2⟩,i+2,0⟩else bif atT s i==7 then⟨Yw,0,3⟩else⟨⟨4,i,0,ZX s i<|i+1⟩,i+1,0⟩)
 else bif atT s i==9 then⟨⟨4,i,0,ZX s i<|i+1⟩,i+1,0⟩
 else⟨Yw,0,3⟩
def Nx.val(n:Nx):AV:=.tup [.agg [I n.tok.br,I n.tok.At,I n.tok.N,.str n.tok.Text],I n.stop,I n.err]
def Z1R(s:Str)(i:Nat)(hs:s.size<=1000000)(hi:i<s.size):pfn rE 110 [.iptr true<|.str s::Qe,I i]=some (We s i).val:=by
 have ha:=H0 s i;have hw1:IntKind.i64.wrap ((i:Int)+1)=(i:Int)+1:=YM (by omega)<|by omega
 have hw2:IntKind.i64.wrap ((i:Int)+2)=(i:Int)+2:=YM (by omega)<|by omega
 have e1:((i:Int)+1)=((i+1:Nat):Int):=by omega
 have e2:((i:Int)+2)=((i+2:Nat):Int):=by omega
 have hb1:bounds (some<|I<|(i:Int)+1) none none s.size=some (i+1,s.size,none):=by rw[e1];exact DS<|by omega
 have hb3:bounds (some<|I i) (some<|I<|(i:Int)+1) none s.size=some (i,i+1,none):=by rw[e1];exact Uo (by omega)<|by omega
 rw[Z5 (f:=110) rfl rfl];unfold We;cases c5003:atT s i==3 with
 |true=>
  have hwh:pfn rE 190 [.iptr true<|.str s::Qe,I i,Iy 1 [I 3,I 4,I 5]]=some (I<|ZI s [3,4,5] i):=H1 s [3,4,5] i hs (by omega)<|by simp
  have hb:=Uo (n:=s.size) (K2 s [3,4,5] i)<|K3 s [3,4,5]<|by omega
  cases c:decide (W ((ZI s [3,4,5] i:Int)-(i:Int))>24)<;>simp only[go_sem,c110,ha,c5003,hwh,c,hb,Nx.val,Yw,ZX]
 |false=>
 cases c5004:atT s i==4 with
 |true=>
  have hwh:pfn rE 190 [.iptr true<|.str s::Qe,I i,Iy 1 [I 4]]=some (I<|ZI s [4] i):=H1 s [4] i hs (by omega)<|by simp
  have hb:=Uo (n:=s.size) (K2 s [4] i)<|K3 s [4]<|by omega
  have ha2:=H0 s<|ZI s [4] i;cases c:decide (W ((ZI s [4] i:Int)-(i:Int))>13)with
  |true=>simp only[go_sem,c110,ha,c5003,c5004,hwh,c,ha2,Nx.val,Yw]
  |false=>
  cases d3:atT s (ZI s [4] i)==3 with
  |true=>simp only[go_sem,c110,ha,c5003,c5004,hwh,c,ha2,d3,Nx.val,Yw]
  |false=>
  cases d5:atT s (ZI s [4] i)==5 with
  |true=>simp only[go_sem,c110,ha,c5003,c5004,hwh,c,ha2,d3,d5,Nx.val,Yw]
  |false=>
   have hat:=Z1N _<|Z1Q s i hi hs c5004 c;simp only[go_sem,c110,ha,c5003,c5004,hwh,c,ha2,d3,d5,hb,hat,Nx.val,ZX]
 |false=>
 cases c5006:atT s i==6 with
 |true=>
  have hia:pfn rE 193 [.str<|s.extract (i+1) s.size,.str<|B [34,10]]=some (I<|quN s i):=Z1M _<|by rw[ByteArray.size_extract];omega
  unfold H4;cases d1:decide (quN s i<0)with
  |true=>simp only[go_sem,c110,ha,c5003,c5004,c5006,hw1,hb1,hia,d1,Nx.val,Yw]
  |false=>
   have hrs:(s.extract (i+1) s.size).data.toList=(s.data.toList.drop<|i+1).take (s.size-(i+1)):=ext_list _ _ _;have hsz:s.data.toList.length=s.size:=ZTb;obtain⟨j,hj1,hj2,hj3⟩:∃j:Nat,quN s i=(j:Int)/\j<(s.extract (i+1) s.size).size/\i+1+j<s.size:=by
    rcases H2 qnB (ZX s (i+1) s.size).data.toList 0 with h|⟨j,h1,h2,_⟩
    .have h':quN s i=-1:=h;rw[h']at d1;simp at d1
    .refine⟨j,h1.trans (by simp),?_,?_⟩
     .have:(ZX s (i+1) s.size).data.toList.length=(s.extract (i+1) s.size).size:=ZTb;omega
     .have h3:(ZX s (i+1) s.size).data.toList=(s.data.toList.drop<|i+1).take (s.size-(i+1)):=hrs;rw[h3]at h2;simp at h2;have:s.data.size=s.size:=rfl;omega
   have hn:(quN s i).toNat=j:=by rw[hj1];rfl
   have h0:(0<=(j:Int))=True:=by simp
   have hnn:((j:Int)).toNat=j:=rfl;have hg:=DQ hj2;have hby:Vj (ZX s (i+1) s.size) j=((((s.extract (i+1) s.size).data.getD j 0).toNat:Nat):Int):=by
    unfold Vj ZX;rw[hg];rfl
   rw[hj1]at hia d1;have hb4:=DT (i:=j) (n:=(s.extract (i+1) s.size).size)<|by omega
   have hw5:IntKind.i64.wrap ((i:Int)+(j:Int))=(i:Int)+(j:Int):=YM (by omega)<|by omega
   have hw6:IntKind.i64.wrap ((i:Int)+(j:Int)+2)=(i:Int)+(j:Int)+2:=YM (by omega)<|by omega
   rw[hj1,hnn,hby];cases d2:((((s.extract (i+1) s.size).data.getD j 0).toNat:Nat):Int)==10 with
   |true=>simp only[go_sem,c110,ha,c5003,c5004,c5006,hw1,hb1,hia,d1,h0,if_true,hnn,hg,ZT3,d2,Nx.val,Yw]
   |false=>
   cases d3:decide ((j:Int)>400)with
   |true=>simp only[go_sem,c110,ha,c5003,c5004,c5006,hw1,hb1,hia,d1,h0,if_true,hnn,hg,ZT3,d2,d3,Nx.val,Yw]
   |false=>simp only[go_sem,c110,ha,c5003,c5004,c5006,hw1,hb1,hia,d1,h0,if_true,hnn,hg,ZT3,d2,d3,hb4,hw5,hw6,Nx.val,ZX]
 |false=>
 have hpr:pfn rE 116 [.str<|s.extract (i+1) s.size,.str<|B [61]]=some (.bool<|Xe (ZX s (i+1) s.size)<|B [61]):=Z1L _ _;have hpb:Xe (ZX s (i+1) s.size) (B [61])=true->i+2<=s.size:=by
  intro h;unfold Xe at h;have h1:=(ZSq _ _▸h).1;have h2:=of_decide_eq_true h1;have h3:(B [61]).size=1:=rfl;have h4:(ZX s (i+1) s.size).size=(ZX s (i+1) s.size).data.toList.length:=ZTb.symm;have h5:(ZX s (i+1) s.size).data.toList=(s.data.toList.drop<|i+1).take (s.size-(i+1)):=ext_list _ _ _;rw[h3,h4,h5]at h2;simp at h2;have:s.data.size=s.size:=rfl;omega
 cases c5007:atT s i==7 with
 |true=>
  cases d:Xe (ZX s (i+1) s.size) (B [61])with
  |true=>
   have hb:bounds (some<|I i) (some<|I<|(i:Int)+2) none s.size=some (i,i+2,none):=by rw[e2];exact Uo (by omega)<|hpb d
   simp only[go_sem,c110,ha,c5003,c5004,c5006,c5007,hw1,hw2,hb1,hpr,d,hb,Nx.val,ZX]
  |false=>simp only[go_sem,c110,ha,c5003,c5004,c5006,c5007,hw1,hb1,hpr,d,Nx.val,Yw]
 |false=>
 cases c5008:atT s i==8 with
 |true=>
  cases d:Xe (ZX s (i+1) s.size) (B [61])with
  |true=>
   have hb:bounds (some<|I i) (some<|I<|(i:Int)+2) none s.size=some (i,i+2,none):=by rw[e2];exact Uo (by omega)<|hpb d
   simp only[go_sem,c110,ha,c5003,c5004,c5006,c5007,c5008,hw1,hw2,hb1,hpr,d,hb,Nx.val,ZX]
  |false=>simp only[go_sem,c110,ha,c5003,c5004,c5006,c5007,c5008,hw1,hb1,hpr,d,hb3,Nx.val,ZX]
 |false=>
 cases c5009:atT s i==9 with
 |true=>simp only[go_sem,c110,ha,c5003,c5004,c5006,c5007,c5008,c5009,hw1,hb3,Nx.val,ZX]
 |false=>simp only[go_sem,c110,ha,c5003,c5004,c5006,c5007,c5008,c5009,Nx.val,Yw]
def Z1S{s:Str}{i:Nat}{c:UInt8}(h:Xe (ZX s i s.size) (B [c])=true):i+1<=s.size:=by
 unfold Xe at h;have f:=(ZSq _ _▸h).1;have a:=of_decide_eq_true f;have b:(B [c]).size=1:=rfl;have d:(ZX s i s.size).size=(ZX s i s.size).data.toList.length:=ZTb.symm;have e:(ZX s i s.size).data.toList=(s.data.toList.drop i).take (s.size-i):=ext_list _ _ _;rw[b,d,e]at a;simp at a;have:s.data.size=s.size:=rfl;omega
def Z1T(s:Str)(i:Nat):quN s i=-1\/∃j:Nat,quN s i=(j:Int)/\i+1+j<s.size:=by
 rcases H2 qnB (ZX s (i+1) s.size).data.toList 0 with h|⟨j,h1,h2,_⟩
 .exact Or.inl h
 .right;refine⟨j,h1.trans (by simp),?_⟩
  have a:(ZX s (i+1) s.size).data.toList=(s.data.toList.drop<|i+1).take (s.size-(i+1)):=ext_list _ _ _;rw[a]at h2;simp at h2;have:s.data.size=s.size:=rfl;omega
def DW{s:Str}{cs:List Int}{i:Nat}(h:i<s.size)(a:cs.any (λx=>atT s i==x)=true):i<ZI s cs i:=by
 rw[NB s cs h,a,cond_true];exact K2 s cs<|i+1
def Z1U(s:Str)(i:Nat)(l:i<s.size)(a:(We s i).err=0):∃j:Nat,(We s i).stop=(j:Int)/\i<j/\j<=s.size:=by
 unfold We at a⊢;cases b:atT s i==3 with
 |true=>
  rw[b,cond_true]at a;rw[cond_true];cases c:decide (W ((ZI s [3,4,5] i:Int)-(i:Int))>24)with
  |true=>rw[c]at a;cases a
  |false=>exact⟨_,rfl,DW l (by simp[b]),K3 _ _<|by omega⟩
 |false=>
 rw[b,cond_false]at a;rw[cond_false];cases e:atT s i==4 with
 |true=>
  rw[e,cond_true]at a;rw[cond_true];cases c:decide (W ((ZI s [4] i:Int)-(i:Int))>13)||(atT s (ZI s [4] i)==3||atT s (ZI s [4] i)==5)with
  |true=>rw[c]at a;cases a
  |false=>exact⟨_,rfl,DW l (by simp[e]),K3 _ _<|by omega⟩
 |false=>
 rw[e,cond_false]at a;rw[cond_false];cases g:atT s i==6 with
 |true=>
  rw[g,cond_true]at a;rw[cond_true];cases c:H4 s i with
  |true=>rw[c]at a;cases a
  |false=>
   rw[c,cond_false]at a;rw[cond_false];cases d:decide (quN s i>400)with
   |true=>rw[d]at a;cases a
   |false=>
    rcases Z1T s i with h|⟨j,h1,h2⟩
    .unfold H4 at c;rw[h]at c;simp at c
    .refine⟨i+j+2,?_,by omega,by omega⟩
     have:(quN s i).toNat=j:=by rw[h1];rfl
     rw[this];simp only[cond_false];omega
 |false=>
 rw[g,cond_false]at a;rw[cond_false];cases f:atT s i==7||atT s i==8 with
 |true=>
  rw[f,cond_true]at a;rw[cond_true];cases c:Xe (ZX s (i+1) s.size) (B [61])with
  |true=>exact⟨i+2,rfl,by omega,Z1S c⟩
  |false=>
   rw[c,cond_false]at a;rw[cond_false];cases d:atT s i==7 with
   |true=>rw[d]at a;cases a
   |false=>exact⟨i+1,rfl,by omega,by omega⟩
 |false=>
 rw[f,cond_false]at a;rw[cond_false];cases k:atT s i==9 with
 |true=>exact⟨i+1,rfl,by omega,by omega⟩
 |false=>rw[k]at a;cases a
structure Lx where
 toks:List Tok
 err:Int
 pos:Int
def ND(n:Nx)(a:List Tok):Int:=bif n.err==0&&(a.length:Int)==5000 then 2 else n.err
def Xf(s:Str):Nat->Nat->List Tok->Lx
 |0,_,_=>⟨[],0,0⟩
 |k+1,i,out=>bif decide ((i:Int)<(s.size:Int))then(bif ND (We s i) out != 0 then⟨[],ND (We s i) out,i⟩else Xf s k (YP s (We s i).stop.toNat)<|out++[(We s i).tok])else⟨out,0,0⟩
def Up(s:Str):Lx:=bif decide ((s.size:Int)>20000)then⟨[],2,-1⟩else Xf s (s.size+1) (YP s 0) []
def Lx.val(x:Lx):AV:=.tup [.isl false false 4<|x.toks.map Tok.enc,I x.err,I x.pos]
def Yx(s:Str)(a:List Tok):Hp:=[.row 257 [.agg<|.str s::Qe],.row 4<|a.map Tok.enc]
def Tok.el(t:Tok):Yu (some 4) t.enc:=⟨rfl,rfl⟩
def Z1V(s:Str)(S:s.size<=20000):∀k i a,s.size-i<=k->i<=s.size->a.length<=i->∃e fr' h',Zg rE [0,5,6,7] c55L0b [(0,.str s),(5,.ptr 0 0 0 1),(6,.sl 1 a.length 0 a.length false),(7,I i)] (Yx s a)=some (e,fr',h')/\
 ((e=.exit 0/\∃q:List Tok,Xf s (k+1) i a=⟨q,0,0⟩/\get fr' 6=.sl 1 q.length 0 q.length false/\get fr' 2=.bot/\get fr' 3=.bot/\get fr' 4=.bot/\h'=Yx s q)\/
  (e=.ret/\(Xf s (k+1) i a).toks=[]/\get fr' 2=.isl false false 4 []/\get fr' 3=I (Xf s (k+1) i a).err/\get fr' 4=I (Xf s (k+1) i a).pos/\get fr' 6=.bot/\∃q,h'=Yx s q)):=by
 intro k;have f:=Un;have m:∀n,Zd n Qe=true:=λn=>ZN _ Un
 have d:∀n(l:List Tok),Zd n (l.map Tok.enc)=true:=λn l=>ZN _<|Zw (λt=>rfl) l
 induction k with
 |zero=>
  intro i a P N M;have:i=s.size:=by omega
  subst this;have c:decide ((s.size:Int)<(s.size:Int))=false:=ZG _;refine⟨_,_,_,Q7 rfl (by simp only[go_sem,Yx,c55L0b,c];rfl) (by simp),Or.inl ⟨rfl,a,?_,?_,?_,?_,?_,?_⟩⟩
  .unfold Xf;rw[c];rfl
  .simp only[go_sem]
  .simp only[go_sem]
  .simp only[go_sem]
  .simp only[go_sem]
  .simp only[go_sem,Yx]
 |succ k H=>
  intro i a P N M;rw[Xf];cases c:decide ((i:Int)<(s.size:Int))with
  |false=>
   refine⟨_,_,_,Q7 rfl (by simp only[go_sem,Yx,c55L0b,c];rfl) (by simp),Or.inl ⟨rfl,a,rfl,?_,?_,?_,?_,?_⟩⟩
   .simp only[go_sem]
   .simp only[go_sem]
   .simp only[go_sem]
   .simp only[go_sem]
   .simp only[go_sem,Yx]
  |true=>
   have u:i<s.size:=by have:=of_decide_eq_true c;omega
   have p:=Z1R s i (by omega) u
   have g:=Z1U s i u;rw[cond_true];generalize R:We s i=n at p g⊢;have⟨⟨y,w,A,tt⟩,stop,err⟩:=n;unfold Nx.val at p;simp only at p g⊢;unfold ND;simp only;have D:((a.map Tok.enc).length==a.length)=true:=by simp
   cases z:err==0 with
   |false=>
    have F:(err != 0)=true:=by simp[bne,z]
    simp only[ZSO,cond_false,F,cond_true];refine⟨_,_,_,Q7 rfl (by simp only[go_sem,Yx,c55L0b,c,f,p,z,F,beq_self_eq_true,m,d];rfl) (by simp),Or.inr ⟨rfl,by first|rfl|trivial,?_,?_,?_,?_,a,?_⟩⟩
    .simp only[go_sem]
    .simp only[go_sem]
    .simp only[go_sem]
    .simp only[go_sem]
    .simp only[go_sem,Yx]
   |true=>
    have L:err=0:=by simpa using z
    subst L;cases b:(a.length:Int)==5000 with
    |true=>
     have v:((2:Int) != 0)=true:=rfl;simp only[ZTl,cond_true,v];refine⟨_,_,_,Q7 rfl (by simp only[go_sem,Yx,c55L0b,c,f,p,b,beq_self_eq_true,m,d,v];rfl) (by simp),Or.inr ⟨rfl,by first|rfl|trivial,?_,?_,?_,?_,a,?_⟩⟩
     .simp only[go_sem]
     .simp only[go_sem]
     .simp only[go_sem]
     .simp only[go_sem]
     .simp only[go_sem,Yx]
    |false=>
     have⟨j,Q,J,x⟩:=g rfl;subst Q;have B:((j:Int)).toNat=j:=rfl;have E:=DU s j (by omega) x
     simp only[ZU2,cond_false,B];have C:((0:Int) != 0)=false:=rfl;rw[C,cond_false];have⟨e,fr',h',O,G⟩:=H (YP s j) (a++[⟨y,w,A,tt⟩]) (by omega) E.2.1<|by simp;omega
     refine⟨e,fr',h',?_,G⟩;rw[<-O];have r:=λ(h:Hp)(K:rowAt h 1 a.length=some (4,a.map Tok.enc))=>XC (fz:=false) (bw:=false) (ex:=false) (ys:=[.agg [I y,I w,I A,.str tt]]) (bytes:=40) K rfl (by rfl) (by omega) (by omega) (by simp;omega)
     have o:=r [.row 257 [.agg<|.str s::Qe],.row 4<|a.map Tok.enc,.row 4 [.agg [I y,I w,I A,.str tt]]]<|by simp[rowAt]
     refine(Yt rfl (by simp only[go_sem,Yx,c55L0b,c,f,p,b,beq_self_eq_true,m,d,C,o,E.1];rfl)).trans ?_
     simp only[go_sem,Yx,ZSF,Tok.enc]
def c233a:ACode:=
 .seq (.seq (.keep [0,13]<|.region [o 11<|.mv<|.t 0,
  o 12 (.len 0<|.t 11),
  o 13 (.bin .gtr (.t 12)<|.c<|.int .i64 20000)])<|
 .cond (.t 13)
  (.seq (.keep [2,3,4]<|.region [o 2<|.mv<|.c<|.isl false false 4 [],
    o 3 (.mv<|.c<|.int .i64 2),
    o 4 (.mv<|.c<|.int .i64<|-1)])<|
   .ret)
  (.skip))<|
 .seq (.keep [0,5]<|.region [o 14<|.mv<|.t 0,
  o 15 (.call true 108 []),
  o 16 (.build (.str emp::Qj) [(0,1,(.t 14)),(1,256,(.t 15))]),
  o 5 (.box 257<|.c<|.agg<|.str emp::Qj),
  ⟨none,.store 257 (.t 5)<|.t 16,none⟩])<|
 .seq (.region [o 6<|.own 4])<|
 .seq (.seq (.region [o 17<|.call true 109 [(.t 5),(.c<|.int .i64 0)],
  o 7 (.mv<|.t 17)])<|
 .keep [2,3,4,6]<|.block 0<|
  c55L0)<|
 .seq (.keep [2,3,4]<|.region [o 46<|.mv<|.t 6,
  o 2 (.mv<|.t 46),
  o 3 (.mv<|.c<|.int .i64 0),
  o 4 (.mv<|.c<|.int .i64 0)])<|
 .ret
def c233z:ACode:=
 .seq (.keep [0]<|.region [o 2<|.mv<|.c<|.isl false false 4 [],
  o 3 (.mv<|.c<|.int .i64 0),
  o 4 (.mv<|.c<|.int .i64 0)]) c233a
def c55_eq:c55=c233z:=by
 unfold c233z c233a Qj;kernel_rfl
def Z1W(s:Str):pfn rE 55 [.str s]=some (Up s).val:=by
 have hcc:=Un;have hb2:∀n,Zd n Qe=true:=λn=>ZN _ Un
 have hbz:∀n,Zd n Qj=true:=λn=>ZN _ DN
 have hbt:∀n(l:List Tok),Zd n (l.map Tok.enc)=true:=λn l=>ZN _<|Zw (λt=>rfl) l
 have hct:∀(l:List Tok),Z4 (l.map Tok.enc)=true:=λl=>Zw (λt=>rfl) l
 rw[Z5 (f:=55) (c:=c233z) rfl (by rw[<-c55_eq];rfl)]
 unfold Up;cases hc:decide ((s.size:Int)>20000)with
 |true=>simp only[go_sem,c233z,c233a,hc,Lx.val]
 |false=>
  have hs:s.size<=20000:=by have:=of_decide_eq_false hc;omega
  have hd1:List.drop 256 Qj=[]:=DM VY;have hg:=DU s 0 (by omega)<|by omega
  have hg1:pfn rE 109 [.iptr true<|.str s::Qe,.int .i64 0]=_:=hg.1;have⟨e,fr',h',h1,h2⟩:=Z1V s hs s.size (YP s 0) [] (by omega) hg.2.1<|by simp
  have h1':Zg rE [0,5,6,7] c55L0b [(0,.str s),(5,.ptr 0 0 0 1),(6,.sl 1 0 0 0 false),(7,I<|YP s 0)] [.row 257 [.agg<|.str s::Qe],.row 4 []]=_:=h1;rcases h2 with⟨rfl,ts,h3,h6,g2,g3,g4,rfl⟩|⟨rfl,ht,g2,h3,h4,g6,ts,rfl⟩
  .rw[h3];unfold Yx at h1';have htk:List.take ts.length (List.map Tok.enc ts)=List.map Tok.enc ts:=ZSR (by simp)
   simp only[go_sem,c233z,c233a,c55L0,hc,DO,Ny,DL,VY,GY,hd1,hcc,hb2,hg1,h1',h6,g2,g3,g4,hbt,hct,htk,beq_self_eq_true,ZSC,Lx.val]
  .unfold Yx at h1';have e:Xf s (s.size+1) (YP s 0) []=⟨[],(Xf s (s.size+1) (YP s 0) []).err,(Xf s (s.size+1) (YP s 0) []).pos⟩:=by
    generalize Xf s (s.size+1) (YP s 0) []=x at ht⊢;cases x;simp only at ht;subst ht;rfl
   rw[e];simp only[go_sem,c233z,c233a,c55L0,hc,DO,Ny,DL,VY,GY,hd1,hcc,hb2,hg1,h1',g2,h3,h4,g6,hbt,beq_self_eq_true,ZSC,Lx.val]
def Jk{E:Env}{q:Type}{live:List Nat}{b:ACode}(l:List q)(P:Nat->q->Bool)(S:Nat->Fr)(H:Nat->Hp)(a:Nat)(o Q:Fr->Hp->Prop)
 (m:∀i,Z2 live (S i)=S i)
 (e:∀i x,l[i]?=some x->P i x=true->∃fr',Zb E b (S i) (H i)=some (.normal,fr',H<|i+1)/\Z2 live fr'=S (i+1))
 (n:∀i x,l[i]?=some x->P i x=false->∃fr' h',Zb E b (S i) (H i)=some (.ret,fr',h')/\Q fr' h')
 (f:∃fr' h',Zb E b (S l.length) (H l.length)=some (.exit a,fr',h')/\o fr' h'):
 ∃fr' h',Zg E live b (S 0) (H 0)=some (if Zu P 0 l=true then .exit a else .ret,fr',h')/\(Zu P 0 l=true->o fr' h')/\(Zu P 0 l=false->Q fr' h'):=by
 suffices G:∀k i,k+i=l.length->∃fr' h',Zg E live b (S i) (H i)=some (if Zu P i (l.drop i)=true then .exit a else .ret,fr',h')/\(Zu P i (l.drop i)=true->o fr' h')/\(Zu P i (l.drop i)=false->Q fr' h')by
  have:=G l.length 0<|by omega
  simpa using this
 intro k;induction k with
 |zero=>
  intro i u;have:i=l.length:=by omega
  subst this;have⟨fr',h',g,d⟩:=f;refine⟨fr',h',?_,?_,?_⟩
  .rw[Q7 (m _) g<|by simp];simp[Zu]
  .intro _;exact d
  .intro h;simp[Zu]at h
 |succ k t=>
  intro i u;have j:i<l.length:=by omega
  have p:l[i]?=some l[i]:=ZSu j;rw[ZTD j];cases c:P i l[i]with
  |true=>
   have⟨v,g,d⟩:=e _ _ p c;have⟨fr',h',r,s,w⟩:=t (i+1)<|by omega
   refine⟨fr',h',?_,?_,?_⟩
   .rw[Yt (m _) g,d,r];simp only[Zu,c,ZSB]
   .simpa only[Zu,c,ZSB]using s
   .simpa only[Zu,c,ZSB]using w
  |false=>
   have⟨fr',h',g,d⟩:=n _ _ p c;refine⟨fr',h',?_,?_,λ_=>d⟩
   .rw[Q7 (m _) g<|by simp];simp[Zu,c]
   .intro h;simp[Zu,c]at h
def Qi{a:Type}(eq:a->a->Bool)(K:List a)(x:a):List a:=bif K.any (eq x)then K else K++[x]
def ZO(n:Nat):List AV:=List.replicate n<|.bool true
def Uq{a:Type}{ag:Bool}{kk:List Nat}{enc:a->AV}{eq:a->a->Bool}(b:∀x y,Zz ag kk (enc x) (enc y)=some (eq x y))(x:a):
 ∀(K:List a)(i:Nat),(ZW ag kk (enc x) (K.map enc) i=some none/\K.any (eq x)=false)\/(∃j,ZW ag kk (enc x) (K.map enc) i=some (some j)/\i<=j/\j<i+K.length/\K.any (eq x)=true)
 |[],i=>Or.inl ⟨rfl,rfl⟩
 |y::r,i=>by
  simp only[ZSx,ZW,b,List.any_cons,ZSG];rcases Uq b x r (i+1)with⟨h1,h2⟩|⟨j,h1,h2,h3,h4⟩
  .rw[h1];cases eq x y with
   |true=>right;exact⟨i,rfl,by omega,by omega,rfl⟩
   |false=>left;exact⟨rfl,by simp[h2]⟩
  .rw[h1];right;cases eq x y with
   |true=>exact⟨i,rfl,by omega,by omega,rfl⟩
   |false=>exact⟨j,rfl,by omega,by omega,by simp[h4]⟩
def Ur{a:Type}{ag:Bool}{kk:List Nat}{enc:a->AV}{eq:a->a->Bool}(d:∀x y,Zz ag kk (enc x) (enc y)=some (eq x y))(K:List a)(x:a){h:Hp}{b:Nat}(g:h[b]?=some (.map (K.map enc)<|ZO K.length)):
 YK h ag kk (.mp b) (enc x) (.bool true)=some (.bot,setH h b<|.map ((Qi eq K x).map enc)<|ZO (Qi eq K x).length):=by
 simp only[YK,g,Yo,d];rcases Uq d x K 0 with⟨c,e⟩|⟨j,c,e,h3,h4⟩
 .have i:ZO K.length++[.bool true]=ZO (K.length+1):=by simp[ZO,List.replicate_succ']
  rw[c];simp only[Qi,e,cond_false,ZM,ZH,ZSF,ZSx,ZSS,ZSJ,ZTT,i]
 .have:(ZO K.length).set j (.bool true)=ZO K.length:=by
   apply List.ext_getElem
   .simp
   .intro n l k;by_cases f:j=n
    .subst f;simp[ZO]
    .simp[ZO]
  rw[c];simp only[Qi,h4,cond_true,ZM,ZH,this]
def H5{a:Type}{ag:Bool}{kk:List Nat}{enc:a->AV}{eq:a->a->Bool}(d:∀x y,Zz ag kk (enc x) (enc y)=some (eq x y))(K:List a)(x:a){h:Hp}{b:Nat}(f:h[b]?=some (.map (K.map enc)<|ZO K.length)):
 W5 h ag kk false (.bool false) (.mp b) (enc x)=some (.bool<|K.any<|eq x):=by
 simp only[W5,f,QW,d];rcases Uq d x K 0 with⟨c,e⟩|⟨j,c,e,h3,h4⟩
 .rw[c,e];rfl
 .have:(ZO K.length)[j]?=some (.bool true):=by
   unfold ZO;rw[ZUx];simp;omega
  rw[c,h4];simp only[this];rfl
def Z1X(a vs:List AV)(h:Hp):lnM (.map a vs::h) 0=some (.int .i64 a.length):=rfl
attribute [go_sem] Z1X
def XH{a:Type}(eq:a->a->Bool)(l:List a):Bool:=(((l.foldl (Qi eq) []).length:Nat):Int)==(l.length:Int)
def Z1Y(x y:Str):Zz false [2] (.str x) (.str y)=some (Z3 x y):=by simp only[go_sem,ZSW]
def QL(a b:HN):Bool:=a.N==b.N&&(Z3 a.bn b.bn&&(a.Num==b.Num&&a.Den==b.Den))
def Xg(a b:Nm):Bool:=Z3 a.Lang b.Lang&&(a.Script==b.Script&&Z3 a.Text b.Text)
def Z1Z(x y:HN):Zz true [1,2,1,1] x.enc y.enc=some (QL x y):=by simp only[go_sem,HN.enc,QL]
def Z20(x y:Nm):Zz true [2,1,2] x.enc y.enc=some (Xg x y):=by simp only[go_sem,Nm.enc,Xg]
def Us{a c:Type}(f:c->a->c)(b:c){l:List a}{i:Nat}{x:a}(h:l[i]?=some x):(l.take<|i+1).foldl f b=f ((l.take i).foldl f b) x:=by
 rw[ZTA,h];simp
def Z21(l:List Str)(bw ex:Bool)(r:l.length<=1000000):pfn rE 323 [.isl bw ex 1<|l.map encS]=some (.bool<|XH Z3 l):=by
 have L:=Y8 (E:=rE) (live:=[0,3,7,8,9]) (b:=c323L0b) l.length (λi=>[(0,.isl bw ex 1<|l.map encS),(3,.mp 0),(7,.isl bw ex 1<|l.map encS),(8,I l.length),(9,I i)])
  (λi=>[.map (((l.take i).foldl (Qi Z3) []).map encS)<|ZO ((l.take i).foldl (Qi Z3) []).length]) (λi=>rfl)
  (λi g=>by
   obtain⟨x,d⟩:∃x,l[i]?=some x:=⟨_,ZSu g⟩;have p:=Z6 (f:=encS) d;have c:=Zh g;have q:=Zx (n:=i)<|by omega
   have m:=Us (Qi Z3) [] d;rw[m];have j:=Ur (ag:=false) (kk:=[2]) (enc:=encS) (eq:=Z3) Z1Y ((l.take i).foldl (Qi Z3) []) x (h:=[.map (((l.take i).foldl (Qi Z3) []).map encS)<|ZO ((l.take i).foldl (Qi Z3) []).length]) (b:=0) rfl;generalize(l.take i).foldl (Qi Z3) []=K at j⊢;have a:YK [.map (K.map encS)<|ZO K.length] false [2] (.mp 0) (.str x) (.bool true)=_:=j;refine⟨_,by simp only[go_sem,c323L0b,p,c,q,encS,a];rfl,?_⟩
   simp only[go_sem])
  (e:=.exit 0) (by simp only[go_sem,c323L0b,ZG];rfl) (by simp)
 have k:l.take l.length=l:=ZSZ;rw[k]at L;have o:Zg rE [0,3,7,8,9] c323L0b [(0,.isl bw ex 1<|l.map encS),(3,.mp 0),(7,.isl bw ex 1<|l.map encS),(8,I l.length),(9,.int .i64 0)] [.map [] []]=_:=L;rw[Z5 (f:=323) rfl rfl];unfold XH;simp only[go_sem,c323,c323L0,o]
def Ut:∀n,Z4 (ZO n)=true
 |0=>rfl
 |n+1=>by
  have:ZO (n+1)=.bool true::ZO n:=rfl;rw[this];simp only[N1,Di,Ut n,ZTl]
def Z22(l:List HN)(bw ex:Bool)(w:l.length<=1000000):pfn rE 330 [.isl bw ex 4<|l.map HN.enc]=some (.bool<|XH QL l):=by
 have L:=Y8 (E:=rE) (live:=[0,3,7,8,9]) (b:=c330L0b) l.length (λi=>[(0,.isl bw ex 4<|l.map HN.enc),(3,.mp 0),(7,.isl bw ex 4<|l.map HN.enc),(8,I l.length),(9,I i)])
  (λi=>[.map (((l.take i).foldl (Qi QL) []).map HN.enc)<|ZO ((l.take i).foldl (Qi QL) []).length]) (λi=>rfl)
  (λi m=>by
   obtain⟨x,j⟩:∃x,l[i]?=some x:=⟨_,ZSu m⟩;have u:=Z6 (f:=HN.enc) j;have g:=Zh m;have v:=Zx (n:=i)<|by omega
   have r:=Us (Qi QL) [] j;rw[r];have c:∀n(K:List HN),Zd n (K.map HN.enc)=true:=λn K=>ZN _<|Zw (λt=>rfl) K
   have d:∀n k,Zd n (ZO k)=true:=λn k=>ZN _<|Ut k
   have o:=λp=>Ur (ag:=true) (kk:=[1,2,1,1]) (enc:=HN.enc) (eq:=QL) Z1Z ((l.take i).foldl (Qi QL) []) x (h:=.map (((l.take i).foldl (Qi QL) []).map HN.enc) (ZO ((l.take i).foldl (Qi QL) []).length)::p) (b:=0) rfl
   generalize(l.take i).foldl (Qi QL) []=K at o⊢;have a:YK [.map (K.map HN.enc)<|ZO K.length,.row 4 [.agg [I x.N,.str x.bn,I x.Num,I x.Den]]] true [1,2,1,1] (.mp 0) (.agg [I x.N,.str x.bn,I x.Num,I x.Den]) (.bool true)=_:=o [.row 4 [.agg [I x.N,.str x.bn,I x.Num,I x.Den]]];refine⟨_,by simp only[go_sem,c330L0b,u,g,v,HN.enc,a,c,d];rfl,?_⟩
   simp only[go_sem])
  (e:=.exit 0) (by simp only[go_sem,c330L0b,ZG];rfl) (by simp)
 have q:l.take l.length=l:=ZSZ;rw[q]at L;have s:Zg rE [0,3,7,8,9] c330L0b [(0,.isl bw ex 4<|l.map HN.enc),(3,.mp 0),(7,.isl bw ex 4<|l.map HN.enc),(8,I l.length),(9,.int .i64 0)] [.map [] []]=_:=L;rw[Z5 (f:=330) rfl rfl];unfold XH;simp only[go_sem,c330,c330L0,s]
def Z23(l:List Nm)(bw ex:Bool)(w:l.length<=1000000):pfn rE 322 [.isl bw ex 3<|l.map Nm.enc]=some (.bool<|XH Xg l):=by
 have L:=Y8 (E:=rE) (live:=[0,3,7,8,9]) (b:=c322L0b) l.length (λi=>[(0,.isl bw ex 3<|l.map Nm.enc),(3,.mp 0),(7,.isl bw ex 3<|l.map Nm.enc),(8,I l.length),(9,I i)])
  (λi=>[.map (((l.take i).foldl (Qi Xg) []).map Nm.enc)<|ZO ((l.take i).foldl (Qi Xg) []).length]) (λi=>rfl)
  (λi m=>by
   obtain⟨x,j⟩:∃x,l[i]?=some x:=⟨_,ZSu m⟩;have u:=Z6 (f:=Nm.enc) j;have g:=Zh m;have v:=Zx (n:=i)<|by omega
   have r:=Us (Qi Xg) [] j;rw[r];have c:∀n(K:List Nm),Zd n (K.map Nm.enc)=true:=λn K=>ZN _<|Zw (λt=>rfl) K
   have d:∀n k,Zd n (ZO k)=true:=λn k=>ZN _<|Ut k
   have o:=λp=>Ur (ag:=true) (kk:=[2,1,2]) (enc:=Nm.enc) (eq:=Xg) Z20 ((l.take i).foldl (Qi Xg) []) x (h:=.map (((l.take i).foldl (Qi Xg) []).map Nm.enc) (ZO ((l.take i).foldl (Qi Xg) []).length)::p) (b:=0) rfl
   generalize(l.take i).foldl (Qi Xg) []=K at o⊢;have a:YK [.map (K.map Nm.enc)<|ZO K.length,.row 3 [.agg [.str x.Lang,I x.Script,.str x.Text]]] true [2,1,2] (.mp 0) (.agg [.str x.Lang,I x.Script,.str x.Text]) (.bool true)=_:=o [.row 3 [.agg [.str x.Lang,I x.Script,.str x.Text]]];refine⟨_,by simp only[go_sem,c322L0b,u,g,v,Nm.enc,a,c,d];rfl,?_⟩
   simp only[go_sem])
  (e:=.exit 0) (by simp only[go_sem,c322L0b,ZG];rfl) (by simp)
 have q:l.take l.length=l:=ZSZ;rw[q]at L;have s:Zg rE [0,3,7,8,9] c322L0b [(0,.isl bw ex 3<|l.map Nm.enc),(3,.mp 0),(7,.isl bw ex 3<|l.map Nm.enc),(8,I l.length),(9,.int .i64 0)] [.map [] []]=_:=L;rw[Z5 (f:=322) rfl rfl];unfold XH;simp only[go_sem,c322,c322L0,s]
def ZZ(s:Str):Bool:=(Up s).err==0&&match(Up s).toks with
 |[t]=>t.br==1&&Z3 t.Text s
 |_=>false
def Jl(s:Str):pfn rE 221 [.str s]=some (.bool<|ZZ s):=by
 have h:=Z1W s;unfold ZZ;generalize Up s=x at h⊢;have⟨ts,err,pos⟩:=x;unfold Lx.val at h;simp only at h⊢;rw[Z5 (f:=221) rfl rfl];cases h0:err==0 with
 |false=>simp only[go_sem,c221,h,h0]
 |true=>
  rcases ts with _|⟨⟨tk,ta,tn,tt⟩,_|⟨t2,ts⟩⟩
  .have e:(((0:Nat):Int)==1)=false:=rfl;simp only[go_sem,c221,h,h0,e]
  .have e:(((0+1:Nat):Int)==1)=true:=rfl;have e0:(0<=(0:Int))=True:=by simp
   have e1:ixG [.agg [I tk,I ta,I tn,.str tt]] 0=some (.agg [I tk,I ta,I tn,.str tt]):=rfl;have e2:(((1:Nat):Int)==1)=true:=rfl;cases h1:tk==1<;>simp only[go_sem,c221,h,h0,e,e1,h1,Tok.enc]
  .have e:(((ts.length+1+1:Nat):Int)==1)=false:=by
    rw[beq_eq_false_iff_ne];omega
   simp only[go_sem,c221,h,h0,e]
def XI(p:Int->Bool)(s:Str):Nat->Nat->Int
 |0,_=>-1
 |k+1,i=>bif Nat.blt i s.size then(bif p ((Utf8.decode s i).1:Nat)then(i:Int)else XI p s k<|i+(Utf8.decode s i).2)else -1
def H6(p:Int->Bool)(s:Str):Bool:=decide (XI p s (s.size+1) 0>=0)
def DX(p:Int->Bool)(g:Nat)(u:∀c:Int,pfn rE g [.int .i32 c]=some (.bool<|p c))(s:Str):pfn rE 329 [.str s,.clo (.func g) [] []]=some (.bool<|H6 p s):=by
 have L:∀k i,s.size-i<k->∃e fr' h',Zg rE [1,2,10] c392L0b [(1,.clo (.func g) [] []),(2,.bool true),(10,.it 0)] [.iter s i]=some (e,fr',h')/\
  ((e=.exit 0/\XI p s k i=-1)\/(e=.ret/\get fr' 6=I (XI p s k i)/\0<=XI p s k i)):=by
  intro k;induction k with
  |zero=>intro i q;omega
  |succ k t=>
   intro i q;unfold XI;cases n:Nat.blt i s.size with
   |false=>
    have a:decide (i<s.size)=false:=by rw[<-N7];exact n
    exact⟨_,_,_,Q7 rfl (by simp only[go_sem,c392L0b,U8,a];rfl) (by simp),Or.inl ⟨rfl,rfl⟩⟩
   |true=>
    have a:decide (i<s.size)=true:=by rw[<-N7];exact n
    have m:i<s.size:=of_decide_eq_true a;have v:=Lib.decode_width_pos s i m;have b:=u ((Utf8.decode s i).1:Nat);rw[cond_true];cases o:p ((Utf8.decode s i).1:Nat)with
    |true=>
     rw[o]at b;rw[cond_true];refine⟨_,_,_,Q7 rfl (by simp only[go_sem,c392L0b,U8,a,b,beq_self_eq_true];rfl) (by simp),Or.inr ⟨rfl,?_,by omega⟩⟩
     simp only[go_sem]
    |false=>
     rw[o]at b;rw[cond_false];have⟨e,fr',h',l,d⟩:=t (i+(Utf8.decode s i).2)<|by omega
     refine⟨e,fr',h',?_,d⟩;rw[<-l];have r:(false==true)=false:=rfl;refine(Yt rfl (by simp only[go_sem,c392L0b,U8,a,b,r];rfl)).trans ?_
     simp only[go_sem]
 have⟨e,fr',h',l,d⟩:=L (s.size+1) 0<|by omega
 have j:pfn rE 392 [.str s,.clo (.func g) [] [],.bool true]=some (I<|XI p s (s.size+1) 0):=by
  rw[Z5 (f:=392) rfl rfl];rcases d with⟨rfl,d⟩|⟨rfl,d,h3⟩
  .rw[d];simp only[go_sem,c392,c392L0,l]
  .simp only[go_sem,c392,c392L0,l,d]
 have h:pfn rE 370 [.str s,.clo (.func g) [] []]=some (I<|XI p s (s.size+1) 0):=by
  rw[Z5 (f:=370) rfl rfl];simp only[go_sem,c370,j]
 rw[Z5 (f:=329) rfl rfl];unfold H6;simp only[go_sem,c329,h]
def ZD(n b a:Int):Bool:=decide (n>=b)&&decide (n<=a)
def QU(n a b:Int):pfn rE 125 [I n,I a,I b]=some (.bool<|ZD n a b):=by
 rw[Z5 (f:=125) rfl rfl];unfold ZD;cases h:decide (n>=a)<;>simp only[go_sem,c125,h]
def DY(n a b:Int):pfn rE 144 [I n,I a,I b]=some (.bool<|ZD n a b):=by
 rw[Z5 (f:=144) rfl rfl];unfold ZD;cases h:decide (n>=a)<;>simp only[go_sem,c144,h]
def H7(c:Int):Bool:=(decide (c<33)||decide (c>126))||c==34
def Z25(c:Int):pfn rE 328 [.int .i32 c]=some (.bool<|H7 c):=by
 rw[Z5 (f:=328) rfl rfl];unfold H7;cases a:decide (c<33)<;>cases b:decide (c>126)<;>simp only[go_sem,c328,a,b]
def H8(c:Int):Bool:=((decide (c<48)||decide (c>57))&&(decide (c<97)||decide (c>122)))&&(decide (c<65)||decide (c>90))
def Z26(c:Int):pfn rE 332 [.int .i32 c]=some (.bool<|H8 c):=by
 rw[Z5 (f:=332) rfl rfl];unfold H8;cases g:decide (c<48)<;>cases a:decide (c>57)<;>cases b:decide (c<97)<;>cases d:decide (c>122)<;>cases e:decide (c<65)<;>simp only[go_sem,c332,g,a,b,d,e]
def Jm(s:Str)(a:Int):Bool:=!Z3 s emp&&(decide ((s.size:Int)<=a)&&!H6 H7 s)
def DZ(s:Str)(a:Int):pfn rE 237 [.str s,I a]=some (.bool<|Jm s a):=by
 have h:=DX H7 328 Z25 s;rw[Z5 (f:=237) rfl rfl];unfold Jm;cases b:Z3 s emp<;>cases c:decide ((s.size:Int)<=a)<;>simp only[go_sem,c237,b,c,h]
def Uu(s:Str):Bool:=!Z3 s emp&&(decide ((s.size:Int)<=60)&&!H6 H8 s)
def Z27(s:Str):pfn rE 244 [.str s]=some (.bool<|Uu s):=by
 have h:=DX H8 332 Z26 s;rw[Z5 (f:=244) rfl rfl];unfold Uu;cases a:Z3 s emp<;>cases b:decide ((s.size:Int)<=60)<;>simp only[go_sem,c244,a,b,h]
def F0(p:Str->Bool)(g:Nat)(b:∀x,pfn rE g [.str x]=some (.bool<|p x))(l:List Str)(bw ex:Bool)(c:l.length<=1000000):pfn rE 324 [.isl bw ex 1<|l.map encS,.clo (.func g) [] []]=some (.bool<|l.any p):=by
 have a:=WF (E:=rE) (f:=368) (sz:=1) (n:=none) (enc:=encS) (p:=p) (g:=g) (cap:=[]) rfl rfl rfl l (by omega) (λx _=>Z0C x) (λx _=>b x) bw ex
 rw[Z5 (f:=324) rfl rfl,<-Vg];unfold WG;cases bw<;>simp only[go_sem,c324,a]
def Yy(s:Str):List Str:=(Q4 32 s.data.toList).map λl=>⟨⟨l⟩⟩
def Z28(s:Str)(hs:s.size<=1000000):pfn rE 52 [.str s,.str<|B [32]]=some (Iy 1<|(Yy s).map encS):=by
 unfold pfn;rw[V8 (s:=Ja) rfl];have e:Ja [.str s,.str<|B [32]] []=some (.sl 0 (Yy s).length 0 (Yy s).length false,[.row 1<|(Yy s).map encS]):=by
  have hb:Nat.blt s.size 4294967281=true:=ZTn<|by omega
  have e2:(Q4 32 s.data.toList).map Qd=(Yy s).map encS:=by
   unfold Yy;rw[ZTm];rfl
  show(bif Nat.blt s.size 4294967281 then some (AV.sl 0 (Q4 32 s.data.toList).length 0 (Q4 32 s.data.toList).length false,[AObj.row 1<|(Q4 32 s.data.toList).map Qd])else none)=_
  rw[hb,e2];simp[Yy]
 rw[e];have hc:Z4 ((Yy s).map encS)=true:=Zw (λt=>rfl) _
 have ht:((Yy s).map encS).take (Yy s).length=(Yy s).map encS:=ZSR<|by simp
 simp only[go_sem,ZM,beq_self_eq_true,ht,hc]
def F1(c:UInt8):∀l:List UInt8,(Q4 c l).length<=l.length+1
 |[]=>by simp[Q4]
 |x::r=>by
  have:=F1 c r;unfold Q4;cases x==c with
  |true=>simp;omega
  |false=>
   simp only[cond_false];cases h:Q4 c r with
   |nil=>simp
   |cons w a=>rw[h]at this;simp at this⊢;omega
def H9(w:Str):Bool:=!Jm w 60
def Z29(w:Str):pfn rE 367 [.str w]=some (.bool<|H9 w):=by
 rw[Z5 (f:=367) rfl rfl];unfold H9;simp only[go_sem,c367,DZ]
def Uv(s:Str):Bool:=decide ((s.size:Int)<=60)&&!(Yy s).any H9
def F3(s:Str):pfn rE 321 [.str s]=some (.bool<|Uv s):=by
 rw[Z5 (f:=321) rfl rfl];unfold Uv;cases h1:decide ((s.size:Int)<=60)with
 |false=>simp only[go_sem,c321,h1]
 |true=>
  have hl:(Yy s).length<=1000000:=by
   have h2:=F1 32 s.data.toList;have h3:s.data.toList.length=s.size:=ZTb;have h4:=of_decide_eq_true h1;unfold Yy;rw[ZSs];omega
  have h:=F0 H9 367 Z29 (Yy s) false false hl;have hsp:=Z28 s (by have:=of_decide_eq_true h1;omega)
  simp only[go_sem,c321,h1,hsp,h]
def Ha(s:Str):Bool:=!ZZ s
def Z2a(s:Str):pfn rE 325 [.str s]=some (.bool<|Ha s):=by
 rw[Z5 (f:=325) rfl rfl];unfold Ha;simp only[go_sem,c325,Jl]
def Qv(l:List Str):Bool:=XH Z3 l&&!l.any Ha
def Uw(l:List Str)(bw ex:Bool)(b:l.length<=1000000):pfn rE 231 [.isl bw ex 1<|l.map encS]=some (.bool<|Qv l):=by
 have a:=Z21 l bw ex b;have d:=F0 Ha 325 Z2a l bw ex b;rw[Z5 (f:=231) rfl rfl];unfold Qv;cases c:XH Z3 l<;>rw[c]at a<;>cases bw<;>simp only[go_sem,c231,a,d]
def K5(a b:Int):Bool:=ZD a 0 63&&(ZD b 0 63&&a != b)
def Z2b(a b:Int):pfn rE 223 [I a,I b]=some (.bool<|K5 a b):=by
 rw[Z5 (f:=223) rfl rfl];unfold K5;cases c:ZD a 0 63<;>cases d:ZD b 0 63<;>simp only[go_sem,c223,QU,c,d]
def Ux(a:Bool)(x:Ent):Bool:=!gOn x.bg||(a&&!QK x.bg ⟨0,0⟩)
def Z2c(a:Bool)(x:Ent):pfn rE 331 [x.enc,.iptr false [.bool a]]=some (.bool<|Ux a x):=by
 have c:(x.bg.X==0&&x.bg.Y==0)=QK x.bg ⟨0,0⟩:=rfl;rw[Z5 (f:=331) rfl rfl];unfold Ux;cases b:gOn x.bg<;>cases a<;>simp only[go_sem,c331,Ent.enc,W8,b,c]
def Vk(l:List Ent)(a:Bool):Bool:=!l.any (Ux a)
def F4(l:List Ent)(ex a:Bool)(d:l.length<=1000000):pfn rE 240 [.isl false ex 7<|l.map Ent.enc,.bool a]=some (.bool<|Vk l a):=by
 have b:=WF (E:=rE) (f:=268) (sz:=7) (n:=some 7) (enc:=Ent.enc) (p:=Ux a) (g:=331) (cap:=[.iptr false [.bool a]]) rfl rfl rfl l (by omega) (λx _=>x.el) (λx _=>Z2c a x) false ex
 have c:pfn rE 162 [.isl false ex 7<|l.map Ent.enc,.clo (.func 331) [] [.iptr false [.bool a]]]=some (.bool<|l.any<|Ux a):=by
  rw[Z5 (f:=162) rfl rfl,<-Vg];unfold WG;simp only[go_sem,c162,b]
 rw[Z5 (f:=240) rfl rfl];unfold Vk;simp only[go_sem,c240,c]
def Uy(n:Nm):Bool:=ZZ n.Lang&&(ZD n.Script 0 7&&Uv n.Text)
def Xh(n:Nm):Nm:=⟨n.Lang,n.Script,emp⟩
def Uz(l:List Nm):Bool:=l.all Uy&&(ZD l.length 1 8&&XH Xg (l.map Xh))
def YW{a b:Type}(f:a->b){l:List a}{i:Nat}{x:a}(h:l[i]?=some x):(l.take<|i+1).map f=(l.take i).map f++[f x]:=by
 rw[ZTA,h];simp
def take_len{a:Type}{l:List a}{i:Nat}{x:a}(h:l[i]?=some x):(l.take i).length=i:=by
 have:=Z7 h;rw[ZTk];omega
def Z2d(l:List Nm)(ex:Bool)(F:l.length<=1000000):pfn rE 229 [.isl false ex 3<|l.map Nm.enc]=some (.bool<|Uz l):=by
 have o:∀K:List Nm,Z4 (K.map Nm.enc)=true:=λK=>Zw (λt=>rfl) K
 have a:∀n(K:List Nm),Zd n (K.map Nm.enc)=true:=λn K=>ZN _<|o K
 have L:=Jk (E:=rE) (live:=[0,3,6,7,8]) (b:=c229L0b) l (λ_ x=>Uy x)
  (λi=>[(0,.isl false ex 3<|l.map Nm.enc),(3,.sl 0 i 0 i false),(6,.isl false ex 3<|l.map Nm.enc),(7,I l.length),(8,I i)])
  (λi=>[.row 3<|((l.take i).map Xh).map Nm.enc]) 0
  (λfr h=>get fr 0=.isl false ex 3 (l.map Nm.enc)/\get fr 2=.bot/\get fr 3=.sl 0 l.length 0 l.length false/\h=[.row 3<|(l.map Xh).map Nm.enc])
  (λfr h=>get fr 2=.bool false) (λi=>rfl)
  (λi x c u=>by
   have j:=Z6 (f:=Nm.enc) c;have p:=Zh<|Z7 c;have w:=Zx (n:=i) (by have:=Z7 c;omega)
   have C:=YW Xh c;have q:((l.take i).map Xh).length=i:=by rw[ZSs];exact take_len c
   rw[C,ZSF];have e:ZZ x.Lang=true/\ZD x.Script 0 7=true/\Uv x.Text=true:=by simpa only[Uy,ZSq]using u
   generalize(l.take i).map Xh=K at q⊢;subst q;have r:=XC (h:=[.row 3<|K.map Nm.enc,.row 3 [.agg [.str x.Lang,I x.Script,.str emp]]]) (fz:=false) (b:=0) (g:=K.length) (sz:=3) (es:=K.map Nm.enc) (bw:=false) (ex:=false) (ys:=[.agg [.str x.Lang,I x.Script,.str emp]]) (bytes:=40) (by simp[rowAt]) rfl (by rfl) (by omega) (by omega) (by have:=Z7 c;simp;omega)
   refine⟨_,by simp only[go_sem,c229L0b,j,p,w,Nm.enc,Jl,QU,F3,e.1,e.2.1,e.2.2,beq_self_eq_true,r,a];rfl,?_⟩
   simp only[go_sem])
  (λi x c u=>by
   have j:=Z6 (f:=Nm.enc) c;have p:=Zh<|Z7 c;have q:((l.take i).map Xh).length=i:=by rw[ZSs];exact take_len c
   generalize(l.take i).map Xh=K at q⊢;subst q;unfold Uy at u;cases k:ZZ x.Lang with
   |false=>
    refine⟨_,_,by simp only[go_sem,c229L0b,j,p,Nm.enc,Jl,k,a];rfl,?_⟩
    simp only[go_sem]
   |true=>
   cases m:ZD x.Script 0 7 with
   |false=>
    refine⟨_,_,by simp only[go_sem,c229L0b,j,p,Nm.enc,Jl,QU,k,m,a];rfl,?_⟩
    simp only[go_sem]
   |true=>
    have v:Uv x.Text=false:=by simpa[k,m]using u
    refine⟨_,_,by simp only[go_sem,c229L0b,j,p,Nm.enc,Jl,QU,F3,k,m,v,a];rfl,?_⟩
    simp only[go_sem])
  (⟨_,_,by simp only[go_sem,c229L0b,ZG,ZSZ];rfl,by
    refine⟨?_,?_,?_,?_⟩<;>simp only[go_sem]⟩)
 rw[QE]at L;have⟨fr',h',k,m,v⟩:=L;have d:Zg rE [0,3,6,7,8] c229L0b [(0,.isl false ex 3<|l.map Nm.enc),(3,.sl 0 0 0 0 false),(6,.isl false ex 3<|l.map Nm.enc),(7,I l.length),(8,.int .i64 0)] [.row 3 []]=_:=k;rw[Z5 (f:=229) rfl rfl];unfold Uz;cases s:l.all Uy with
 |false=>
  rw[s]at d;have j:=v s;simp only[go_sem,c229,c229L0,d,j,ZSH]
 |true=>
  rw[s]at d;obtain⟨D,z,G,rfl⟩:=m s;have A:=Z23 (l.map Xh) false false<|by simpa using F
  have B:(l.map Xh).length=l.length:=ZSs ..;have y:List.take l.length ((l.map Xh).map Nm.enc)=(l.map Xh).map Nm.enc:=ZSR<|by simp
  cases w:ZD l.length 1 8<;>simp only[go_sem,c229,c229L0,d,D,z,G,QU,w,o,a,beq_self_eq_true,y,A]
def Yd(e:Ent):Str:=e.Id
def Yl(e:Ent):HN:=e.An
def K6(e:Ent):Bool:=YO e.An
def Xi(l:List Ent)(a:List Str):Bool:=l.all K6&&(Qv (a++l.map Yd)&&XH QL (l.map Yl))
def NE{h:Hp}{aid b g sz bytes:Nat}{es ys:List AV}{bw ex fz:Bool}(a:rowAt h b g=some (sz,es))(i:ys.isEmpty=false)(k:ys.all (fits sz)=true)(m:0<sz)(n:0<bytes)(e:(g+ys.length)*bytes<=140737488355328):
 Qt h aid fz sz bytes (.sl b g 0 g false) (.isl bw ex sz ys)=some (.sl b (g+ys.length) 0 (g+ys.length) false,[b],some (b,.row sz<|es++ys)):=by
 unfold rowAt at a;cases d:h[b]? with
 |none=>rw[d]at a;cases a
 |some o=>
  rw[d]at a;cases o with
  |row f es'=>
   dsimp only at a;cases c:(es'.length==g)with
   |false=>rw[c]at a;cases a
   |true=>
    rw[c]at a;simp only[cond_true,Option.some.injEq,Prod.mk.injEq]at a;obtain⟨rfl,rfl⟩:=a;have l:es'.length=g:=by simpa using c
    have j:List.take g es'=es':=ZSR<|by omega
    subst l;simp only[Qt,Q2,d,c,cond_true,ZTq,j,Qq,beq_self_eq_true,ZSU,m,n,e,and_self,if_true,i,cond_false,k,ZTl,Zs]
  |_=>cases a
def Z2e{h:Hp}{aid sz bytes:Nat}{es ys:List AV}{bw bw2 ex:Bool}(a:ys.isEmpty=false)(b:0<sz)(c:0<bytes)(d:(es.length+ys.length)*bytes<=140737488355328):
 Qt h aid false sz bytes (.isl bw true sz es) (.isl bw2 ex sz ys)=some (.sl aid (es++ys).length 0 (es++ys).length false,[],some (aid,.row sz<|es++ys)):=by
 simp only[Qt,Q2,Qq,beq_self_eq_true,ZSU,b,c,d,and_self,if_true,a,cond_false,Yp,Zs,ZSC]
def F5(x:AObj):setH [] 0 x=[x]:=(rfl)
def liS(v:AV)(m i:Nat)(n:Nat)(a:AV):Fr:=
 [(1,if i=0 then a else .sl 2 (m+i) 0 (m+i) false),(5,.sl 0 i 0 i false),(8,v),(9,I n),(10,I i)]
def liH(l:List Ent)(a:List Str)(i:Nat):Hp:=
 if i=0 then [.row 4 []]else [.row 4<|((l.take i).map Yl).map HN.enc,.row 7<|(l.take 1).map Ent.enc,.row 1<|(a++(l.take i).map Yd).map encS]
def F6(l:List Ent)(ex:Bool)(more:List Str)(bw:Bool)(hl:l.length<=1000)(hm:more.length<=1000):pfn rE 239 [.isl false ex 7<|l.map Ent.enc,.isl bw true 1<|more.map encS]=some (.bool<|Xi l more):=by
 have hcS:∀K:List Str,Z4 (K.map encS)=true:=λK=>Zw (λt=>rfl) K
 have hcN:∀K:List HN,Z4 (K.map HN.enc)=true:=λK=>Zw (λt=>rfl) K
 have hbS:∀n(K:List Str),Zd n (K.map encS)=true:=λn K=>ZN _<|hcS K
 have hbN:∀n(K:List HN),Zd n (K.map HN.enc)=true:=λn K=>ZN _<|hcN K
 have hbE:∀n(K:List Ent),Zd n (K.map Ent.enc)=true:=λn K=>ZN _<|Zw (λt=>rfl) K
 have L:=Jk (E:=rE) (live:=[1,5,8,9,10]) (b:=c239L0b) l (λ_ x=>K6 x)
  (λi=>liS (.isl false ex 7<|l.map Ent.enc) more.length i l.length<|.isl bw true 1<|more.map encS) (liH l more) 0
  (λfr h=>get fr 1=(if l.length=0 then .isl bw true 1 (more.map encS)else .sl 2 (more.length+l.length) 0 (more.length+l.length) false)/\get fr 4=.bot/\get fr 5=.sl 0 l.length 0 l.length false/\h=liH l more l.length)
  (λfr h=>get fr 4=.bool false) (λi=>rfl)
  (λi x hx hP=>by
   have hg:=Z6 (f:=Ent.enc) hx;have hi:=Zh<|Z7 hx;have hil:=Z7 hx;have hw:=Zx (n:=i) (by have:=Z7 hx;omega)
   have hN:=YW Yl hx;have hS:=YW Yd hx;have hlN:((l.take i).map Yl).length=i:=by rw[ZSs];exact take_len hx
   have hlS:((l.take i).map Yd).length=i:=by rw[ZSs];exact take_len hx
   have hP':YO x.An=true:=hP;have h1:(l.take 1).map Ent.enc=(l.take 1).map Ent.enc:=rfl;rcases i with _|j
   .have t1:l.take 1=[x]:=by
     have:=YW id hx;simpa using this
    have e1:liH l more (0+1)=[.row 4 [.agg [I x.An.N,.str x.An.bn,I x.An.Num,I x.An.Den]],.row 7 [.agg [.str x.Id,I x.An.N,.str x.An.bn,I x.An.Num,I x.An.Den,I x.bg.X,I x.bg.Y]],.row 1<|more.map encS++[.str x.Id]]:=by
     simp only[liH,ZSE,t1,ZSF];rfl
    rw[e1];have ha:=Z2e (h:=[.row 4 [],.row 7 [.agg [.str x.Id,I x.An.N,.str x.An.bn,I x.An.Num,I x.An.Den,I x.bg.X,I x.bg.Y]]]) (aid:=2) (sz:=1) (bytes:=16) (es:=more.map encS) (ys:=[.str x.Id]) (bw:=bw) (bw2:=false) (ex:=false) rfl (by omega) (by omega) (by simp;omega)
    have hb:=NE (aid:=3) (h:=[.row 4 [],.row 7 [.agg [.str x.Id,I x.An.N,.str x.An.bn,I x.An.Num,I x.An.Den,I x.bg.X,I x.bg.Y]],.row 1<|more.map encS++[.str x.Id]]) (fz:=false) (b:=0) (g:=0) (sz:=4) (es:=[]) (bw:=false) (ex:=false) (ys:=[.agg [I x.An.N,.str x.An.bn,I x.An.Num,I x.An.Den]]) (bytes:=40) (by simp[rowAt]) rfl (by rfl) (by omega) (by omega) (by simp)
    refine⟨_,by simp only[go_sem,c239L0b,liS,liH,hg,hi,hw,Ent.enc,Ji,hP',beq_self_eq_true,ha,hb,appW,ZM,ZH,wrB,ZT3,F5];rfl,?_⟩
    simp only[go_sem,liS,ZSE,Nat.one_ne_zero]
   .have t1:∃y,l.take 1=[y]:=by
     rcases l with _|⟨y,r⟩
     .simp at hx
     .exact⟨y,by simp⟩
    have⟨y,ht1⟩:=t1;have e1:liH l more (j+1+1)=[.row 4<|((l.take<|j+1).map Yl).map HN.enc++[.agg [I x.An.N,.str x.An.bn,I x.An.Num,I x.An.Den]],.row 7 [Ent.enc y],.row 1<|(more++(l.take<|j+1).map Yd).map encS++[.str x.Id]]:=by
     simp only[liH,ZUn,if_false,hN,hS,ht1,ZSF];simp only[ZSN];rfl
    have e0:liH l more (j+1)=[.row 4<|((l.take<|j+1).map Yl).map HN.enc,.row 7 [Ent.enc y],.row 1<|(more++(l.take<|j+1).map Yd).map encS]:=by
     simp only[liH,ZUn,if_false,ht1];rfl
    rw[e0,e1];have hby':∀n,bel n (Ent.enc y)=true:=λn=>rfl
    generalize Ent.enc y=ey at hby'⊢;have hlS':(more++(l.take<|j+1).map Yd).length=more.length+(j+1):=by rw[ZSJ,hlS]
    generalize(l.take<|j+1).map Yl=KN at hlN⊢;generalize more++(l.take<|j+1).map Yd=KS at hlS'⊢;have ha:=NE (aid:=4) (h:=[.row 4<|KN.map HN.enc,.row 7 [ey],.row 1<|KS.map encS,.row 7 [.agg [.str x.Id,I x.An.N,.str x.An.bn,I x.An.Num,I x.An.Den,I x.bg.X,I x.bg.Y]]]) (fz:=false) (b:=2) (g:=more.length+(j+1)) (sz:=1) (es:=KS.map encS) (bw:=false) (ex:=false) (ys:=[.str x.Id]) (bytes:=16) (by simp[rowAt,hlS']) rfl (by rfl) (by omega) (by omega) (by simp;omega)
    have hb:=NE (aid:=4) (h:=[.row 4<|KN.map HN.enc,.row 7 [ey],.row 1<|KS.map encS++[.str x.Id],.row 7 [.agg [.str x.Id,I x.An.N,.str x.An.bn,I x.An.Num,I x.An.Den,I x.bg.X,I x.bg.Y]]]) (fz:=false) (b:=0) (g:=j+1) (sz:=4) (es:=KN.map HN.enc) (bw:=false) (ex:=false) (ys:=[.agg [I x.An.N,.str x.An.bn,I x.An.Num,I x.An.Den]]) (bytes:=40) (by simp[rowAt,hlN]) rfl (by rfl) (by omega) (by omega) (by simp;omega)
    refine⟨_,by simp only[go_sem,c239L0b,liS,ZUn,if_false,hg,hi,hw,Ent.enc,Ji,hP',beq_self_eq_true,ha,hb,appW,ZM,ZH,wrB,hbS,hbN,hby',ZT3];rfl,?_⟩
    simp only[go_sem,liS,ZUn,if_false,ZTG])
  (λi x hx hP=>by
   have hg:=Z6 (f:=Ent.enc) hx;have hi:=Zh<|Z7 hx;have hP':YO x.An=false:=hP;rcases i with _|j
   .refine⟨_,_,by simp only[go_sem,c239L0b,liS,liH,hg,hi,Ent.enc,Ji,hP'];rfl,?_⟩
    simp only[go_sem]
   .have t1:∃y,l.take 1=[y]:=by
     rcases l with _|⟨y,r⟩
     .simp at hx
     .exact⟨y,by simp⟩
    have⟨y,ht1⟩:=t1;have e0:liH l more (j+1)=[.row 4<|((l.take<|j+1).map Yl).map HN.enc,.row 7 [Ent.enc y],.row 1<|(more++(l.take<|j+1).map Yd).map encS]:=by
     simp only[liH,ZUn,if_false,ht1];rfl
    rw[e0];have hby':∀n,bel n (Ent.enc y)=true:=λn=>rfl
    generalize Ent.enc y=ey at hby'⊢;generalize(l.take<|j+1).map Yl=KN;generalize more++(l.take<|j+1).map Yd=KS;refine⟨_,_,by simp only[go_sem,c239L0b,liS,ZUn,if_false,hg,hi,Ent.enc,Ji,hP',beq_self_eq_true,hbS,hbN,hby'];rfl,?_⟩
    simp only[go_sem])
  (by
   refine⟨_,_,by simp only[go_sem,c239L0b,liS,ZG];rfl,?_,?_,?_,?_⟩
   .simp only[go_sem]
   .simp only[go_sem]
   .simp only[go_sem]
   .unfold liH;split<;>simp only[go_sem])
 rw[QE]at L;have⟨fr',h',h1,h2,h3⟩:=L;have h1':Zg rE [1,5,8,9,10] c239L0b [(1,.isl bw true 1<|more.map encS),(5,.sl 0 0 0 0 false),(8,.isl false ex 7<|l.map Ent.enc),(9,I l.length),(10,.int .i64 0)] [.row 4 []]=_:=h1;rw[Z5 (f:=239) rfl rfl];unfold Xi;have hany:(λx=>K6 x)=K6:=rfl
 cases hc:l.all K6 with
 |false=>
  have hc':(l.all λx=>K6 x)=false:=hc
  rw[hc']at h1';have hg:=h3 hc';simp only[go_sem,c239,c239L0,h1',hg,ZSH]
 |true=>
  have hc':(l.all λx=>K6 x)=true:=hc
  rw[hc']at h1';obtain⟨g1,g4,g5,rfl⟩:=h2 hc';have hids:=λ(b e:Bool)=>Uw (more++l.map Yd) b e<|by simp;omega
  have hdf:=Z22 (l.map Yl) false false<|by simp;omega
  rcases l with _|⟨y,r⟩
  .have e:more++([]:List Ent).map Yd=more:=by simp
   rw[e]at hids⊢;have hids':=hids bw true;have hdf':pfn rE 330 [Iy 4 []]=some (.bool<|XH QL<|([]:List Ent).map Yl):=hdf;have g1':get fr' 1=.isl bw true 1 (more.map encS):=g1;have g5':get fr' 5=.sl 0 0 0 0 false:=g5;have h1'':Zg rE [1,5,8,9,10] c239L0b [(1,.isl bw true 1<|more.map encS),(5,.sl 0 0 0 0 false),(8,.isl false ex 7 []),(9,.int .i64 ((0:Nat):Int)),(10,.int .i64 0)] [.row 4 []]=some (.exit 0,fr',[.row 4 []]):=h1';cases hi:Qv more<;>rw[hi]at hids'<;>cases bw<;>simp only[go_sem,c239,c239L0,h1'',g1',g4,g5',hids',hdf',beq_self_eq_true]
  .generalize hl0:y::r=l at*;have hne:(l.length=0)=False:=by rw[<-hl0];simp
   obtain⟨z,hz⟩:∃z,l.take 1=[z]:=⟨y,by rw[<-hl0];rfl⟩
   have htl:l.take l.length=l:=ZSZ;simp only[hne,if_false]at g1;have hzl:∀n,Zd n ([z].map Ent.enc)=true:=λn=>hbE n _
   have hlN:(l.map Yl).length=l.length:=ZSs ..;have hlS:(more++l.map Yd).length=more.length+l.length:=by simp
   have tkN:List.take l.length ((l.map Yl).map HN.enc)=(l.map Yl).map HN.enc:=ZSR<|by simp
   have tkS:List.take (more.length+l.length) ((more++l.map Yd).map encS)=(more++l.map Yd).map encS:=ZSR<|by simp
   have hids':=hids false false;have heq:(l.length==0)=false:=by rw[beq_eq_false_iff_ne];intro h;rw[hne]at h;exact h
   have hH:liH l more l.length=[.row 4<|(l.map Yl).map HN.enc,.row 7<|[z].map Ent.enc,.row 1<|(more++l.map Yd).map encS]:=by
    simp only[liH,hne,if_false,htl,hz]
   rw[hH]at h1';generalize([z].map Ent.enc)=Z at hzl h1';generalize l.map Yl=KN at*;generalize more++l.map Yd=KS at*;cases hi:Qv KS<;>rw[hi]at hids'<;>simp only[go_sem,c239,c239L0,h1',g1,g4,g5,hids',hdf,beq_self_eq_true,hbN,hcS,hcN,hzl,hlN,hlS,tkN,tkS,if_true]
abbrev evA(e:Gt):AV:=.agg [I e.br,I e.Day,I e.A,I e.B,I e.bz,.str e.Id,.str e.bv,.str e.Text,.isl false e.Ids.ex 1<|e.Ids.l.map encS,.isl false e.bm.ex 3<|e.bm.l.map Nm.enc,
 I e.An.N,.str e.An.bn,I e.An.Num,I e.An.Den,I e.bg.X,I e.bg.Y,.isl false e.Path.ex 2<|e.Path.l.map Pt.enc,.isl false e.Lst.ex 7<|e.Lst.l.map Ent.enc]
structure EvS(e:Gt):Prop where
 ids:e.Ids.l.length<=100
 names:e.bm.l.length<=100
 path:e.Path.l.length<=100
 lst:e.Lst.l.length<=10
 id:e.Id.size<=1000
 other:e.bv.size<=1000
 text:e.Text.size<=1000
def F7(fn:Fn):Option (List AV)->Option (List AV)->Option AV
 |some f,some c=>some<|.clo fn f c
 |_,_=>none
def Z2f(fn:Fn)(f c:List AV):F7 fn (some f) (some c)=some (.clo fn f c):=rfl
def Z2g(bw:Bool)(h:Hp)(n:Nat)(fn:Fn)(a c:List AV)(b:(Z4 a&&Z4 c)=false):freeze bw h (n+1) (.clo fn a c)=F7 fn (ZC bw h n a) (ZC bw h n c):=by
 conv=>lhs;unfold freeze
 have:clean (.clo fn a c)=false:=b;rw[this,cond_false];dsimp only;cases ZC bw h n a<;>cases ZC bw h n c<;>rfl
attribute [go_sem] Z2f Z2g
def n0:AV:=.iptr false [.clo (.func 220) [] []]
def Vl(e:Gt):pfn rE 220 [evA e]=some (.bool<|ZZ e.Id):=by
 rw[Z5 (f:=220) rfl rfl];simp only[go_sem,c220,Jl]
def F8(e:Gt):pfn rE 222 [evA e]=some (.bool<|K5 e.A e.B):=by
 rw[Z5 (f:=222) rfl rfl];simp only[go_sem,c222,Z2b]
def Z2h(e:Gt):pfn rE 230 [evA e]=some (.bool<|Qv [e.Id,e.bv]):=by
 have h:pfn rE 231 [.isl false false 1 [.str e.Id,.str e.bv]]=some (.bool<|Qv [e.Id,e.bv]):=Uw [e.Id,e.bv] false false<|by simp
 rw[Z5 (f:=230) rfl rfl];simp only[go_sem,c230,h]
def Z2i(e:Gt)(b:EvS e):pfn rE 224 [evA e,.iptr false [.clo (.func 220) [] []]]=some (.bool<|ZZ e.Id&&(ZD e.A 1 3&&Vh e.Path.l)):=by
 have d:=Dz e.Path.l e.Path.ex (by have:=b.path;omega)
 rw[Z5 (f:=224) rfl rfl];have a:=Vl e;cases g:ZZ e.Id<;>rw[g]at a<;>cases c:ZD e.A 1 3<;>simp only[go_sem,c224,a,QU,c,d]
def Z2j(e:Gt)(b:EvS e):pfn rE 226 [evA e,.iptr false [.clo (.func 220) [] []]]=some (.bool<|ZZ e.Id&&Ul e.Path.l):=by
 have d:=Z1o e.Path.l e.Path.ex (by have:=b.path;omega)
 rw[Z5 (f:=226) rfl rfl];have a:=Vl e;cases c:ZZ e.Id<;>rw[c]at a<;>simp only[go_sem,c226,a,d]
def Z2k(e:Gt)(b:EvS e):pfn rE 228 [evA e,.iptr false [.clo (.func 220) [] []]]=some (.bool<|ZZ e.Id&&Uz e.bm.l):=by
 have d:=Z2d e.bm.l e.bm.ex (by have:=b.names;omega)
 rw[Z5 (f:=228) rfl rfl];have a:=Vl e;cases c:ZZ e.Id<;>rw[c]at a<;>simp only[go_sem,c228,a,d]
def Z2l(e:Gt)(b:EvS e):pfn rE 232 [evA e,.iptr false [.clo (.func 220) [] []]]=some (.bool<|ZZ e.Id&&Vh e.Path.l):=by
 have d:=Dz e.Path.l e.Path.ex (by have:=b.path;omega)
 rw[Z5 (f:=232) rfl rfl];have a:=Vl e;cases c:ZZ e.Id<;>rw[c]at a<;>simp only[go_sem,c232,a,d]
def Z2m(e:Gt):pfn rE 233 [evA e]=some (.bool<|Qv [e.Id,e.bv,e.Text]&&(YO e.An&&gOn e.bg)):=by
 have h:pfn rE 231 [Iy 1 [.str e.Id,.str e.bv,.str e.Text]]=some (.bool<|Qv [e.Id,e.bv,e.Text]):=Uw [e.Id,e.bv,e.Text] false false<|by simp
 rw[Z5 (f:=233) rfl rfl];cases c1:Qv [e.Id,e.bv,e.Text]<;>rw[c1]at h<;>cases c2:YO e.An<;>simp only[go_sem,c233,h,Ji,c2,W8]
def Z2n(e:Gt):pfn rE 236 [evA e]=some (.bool<|Qv [e.Id,e.bv]&&Jm e.Text 24):=by
 have h:pfn rE 231 [Iy 1 [.str e.Id,.str e.bv]]=some (.bool<|Qv [e.Id,e.bv]):=Uw [e.Id,e.bv] false false<|by simp
 rw[Z5 (f:=236) rfl rfl];cases c1:Qv [e.Id,e.bv]<;>rw[c1]at h<;>simp only[go_sem,c236,h,DZ]
def Z2o(e:Gt)(b:EvS e):pfn rE 238 [evA e,.iptr false [.clo (.func 220) [] []]]=some (.bool<|ZZ e.Id&&(ZD e.Lst.l.length 1 40&&(Xi e.Lst.l []&&Vk e.Lst.l true))):=by
 have d:pfn rE 239 [.isl false e.Lst.ex 7<|e.Lst.l.map Ent.enc,.isl false true 1 []]=some (.bool<|Xi e.Lst.l []):=F6 e.Lst.l e.Lst.ex [] false (by have:=b.lst;omega)<|by simp
 have h:=F4 e.Lst.l e.Lst.ex true (by have:=b.lst;omega)
 rw[Z5 (f:=238) rfl rfl];have c:=Vl e;cases i:ZZ e.Id<;>rw[i]at c<;>cases g:ZD e.Lst.l.length 1 40<;>cases a:Xi e.Lst.l []<;>rw[a]at d<;>simp only[go_sem,c238,c,QU,g,d,h]
def Z2p(e:Gt)(b:EvS e):pfn rE 241 [evA e]=some (.bool<|ZD e.Lst.l.length 2 8&&(Xi e.Lst.l [e.Id]&&Vk e.Lst.l false)):=by
 have c:pfn rE 239 [.isl false e.Lst.ex 7<|e.Lst.l.map Ent.enc,.isl true true 1 [.str e.Id]]=some (.bool<|Xi e.Lst.l [e.Id]):=F6 e.Lst.l e.Lst.ex [e.Id] true (by have:=b.lst;omega)<|by simp
 have g:=F4 e.Lst.l e.Lst.ex false (by have:=b.lst;omega)
 rw[Z5 (f:=241) rfl rfl];cases d:ZD e.Lst.l.length 2 8<;>cases a:Xi e.Lst.l [e.Id]<;>rw[a]at c<;>simp only[go_sem,c241,QU,d,c,g]
def Z2q{h:Hp}{aid b g sz bytes:Nat}{es ys:List AV}{bw ex:Bool}(a:rowAt h b g=some (sz,es))(i:ys.isEmpty=false)(l:0<sz)(m:0<bytes)(e:(g+ys.length)*bytes<=140737488355328):
 Qt h aid false sz bytes (.sl b g 0 g true) (.isl bw ex sz ys)=some (.sl aid (es++ys).length 0 (es++ys).length false,[b],some (aid,.row sz<|es++ys)):=by
 unfold rowAt at a;cases d:h[b]? with
 |none=>rw[d]at a;cases a
 |some o=>
  rw[d]at a;cases o with
  |row f es'=>
   dsimp only at a;cases c:(es'.length==g)with
   |false=>rw[c]at a;cases a
   |true=>
    rw[c]at a;simp only[cond_true,Option.some.injEq,Prod.mk.injEq]at a;obtain⟨rfl,rfl⟩:=a;have k:es'.length=g:=by simpa using c
    have j:List.take g es'=es':=ZSR<|by omega
    subst k;simp only[Qt,Q2,d,c,cond_true,ZTq,j,Qq,beq_self_eq_true,ZSU,l,m,e,and_self,if_true,i,cond_false,Yp,Zs,ZSC]
  |_=>cases a
def Z2r(e:Gt)(k:EvS e):pfn rE 242 [evA e]=some (.bool<|ZD e.Ids.l.length 2 8&&(Qv (e.Id::e.Ids.l)&&(YO e.An&&gOn e.bg))):=by
 have d:∀K:List Str,Z4 (K.map encS)=true:=λK=>Zw (λt=>rfl) K
 have s:∀n(K:List Str),Zd n (K.map encS)=true:=λn K=>ZN _<|d K
 have h:pfn rE 231 [.isl true false 1<|.str e.Id::e.Ids.l.map encS]=some (.bool<|Qv<|e.Id::e.Ids.l):=Uw (e.Id::e.Ids.l) true false (by have:=k.ids;simp;omega)
 rw[Z5 (f:=242) rfl rfl];cases i:ZD e.Ids.l.length 2 8 with
 |false=>simp only[go_sem,c242,QU,i]
 |true=>
  have j:(e.Ids.l.map encS).isEmpty=false:=by
   unfold ZD at i;cases p:e.Ids.l with
   |nil=>rw[p]at i;simp at i
   |cons x r=>rfl
  have q:=Z2q (h:=[.row 1 [.str e.Id]]) (aid:=1) (b:=0) (g:=1) (sz:=1) (bytes:=16) (es:=[.str e.Id]) (bw:=false) (ex:=e.Ids.ex) rfl j (by omega) (by omega) (by have:=k.ids;simp;omega)
  have o:List.take (e.Ids.l.length+1) (.str e.Id::e.Ids.l.map encS)=.str e.Id::e.Ids.l.map encS:=ZSR<|by simp
  have m:List.take (1+e.Ids.l.length) (.str e.Id::e.Ids.l.map encS)=.str e.Id::e.Ids.l.map encS:=ZSR<|by simp;omega
  cases a:Qv (e.Id::e.Ids.l)<;>rw[a]at h<;>cases c:YO e.An<;>simp only[go_sem,c242,QU,i,h,Ji,c,W8,appW,q,ZM,ZH,F5,beq_self_eq_true,o,d]
def Z2s(e:Gt):pfn rE 243 [evA e,.iptr false [.clo (.func 220) [] []]]=some (.bool<|ZZ e.Id&&(ZD e.bz 0 63&&Uu e.Text)):=by
 rw[Z5 (f:=243) rfl rfl];have a:=Vl e;cases b:ZZ e.Id<;>rw[b]at a<;>cases c:ZD e.bz 0 63<;>simp only[go_sem,c243,a,QU,c,Z27]
def kIn(e:Gt)(a:List Int):Bool:=a.any<|λx=>e.br==x
def kQz{e:Gt}{k:Int}{l:List Int}{b:Bool}(h:e.br=k)(g:(l.any<|λx=>k==x)=b):kIn e l=b:=by unfold kIn;rw[h];exact g
def Zq(e:Gt):Gt:=
 {br:=e.br,Day:=e.Day,
  A:=bif kIn e [13,14]then(bif kIn e [1]then 0 else 0)else(bif kIn e [1]then 0 else e.A),
  B:=bif kIn e [13,14]then 0 else e.B,
  bz:=bif e.br==15 then 0 else e.bz,
  Id:=bif kIn e [13,14]then e.Id else emp,
  bv:=bif kIn e [4,6,7]then emp else e.bv,
  Text:=bif kIn e [6,7,15]then emp else e.Text,
  Ids:=bif e.br==10 then⟨false,[]⟩else e.Ids,
  bm:=bif e.br==3 then⟨false,[]⟩else e.bm,
  An:=bif kIn e [6,10]then⟨0,emp,0,0⟩else e.An,
  bg:=bif kIn e [6,10]then⟨0,0⟩else e.bg,
  Path:=bif kIn e [1,2,5]then⟨false,[]⟩else e.Path,
  Lst:=bif kIn e [8,9]then⟨false,[]⟩else e.Lst}
def Zc(a:List Int)(ex:Bool)(k:Int)(b:a.length<=100):pfn rE 219 [.isl false ex 1<|a.map I,.iptr true [I k]]=some (.bool<|a.any<|λx=>k==x):=by
 have h:=DR a ex k<|by omega
 rw[Z5 (f:=219) rfl rfl];simp only[go_sem,c219,h]
def Z2t(e:Gt)(hk:e.br=1):pfn rE 126 [evA e]=some (evA<|Zq e):=by
 have h0:pfn rE 219 [Iy 1 [I 13,I 14],.iptr true [I 1]]=some (.bool false):=Zc [13,14] false 1<|by decide
 have b0:kIn e [13,14]=false:=kQz hk rfl
 have h1:pfn rE 219 [Iy 1 [I 1],.iptr true [I 1]]=some (.bool true):=Zc [1] false 1<|by decide
 have b1:kIn e [1]=true:=kQz hk rfl
 have h2:pfn rE 219 [Iy 1 [I 1,I 2,I 5],.iptr true [I 1]]=some (.bool true):=Zc [1,2,5] false 1<|by decide
 have b2:kIn e [1,2,5]=true:=kQz hk rfl
 have h3:pfn rE 219 [Iy 1 [I 4,I 6,I 7],.iptr true [I 1]]=some (.bool false):=Zc [4,6,7] false 1<|by decide
 have b3:kIn e [4,6,7]=false:=kQz hk rfl
 have h4:pfn rE 219 [Iy 1 [I 6,I 7,I 15],.iptr true [I 1]]=some (.bool false):=Zc [6,7,15] false 1<|by decide
 have b4:kIn e [6,7,15]=false:=kQz hk rfl
 have h5:pfn rE 219 [Iy 1 [I 6,I 10],.iptr true [I 1]]=some (.bool false):=Zc [6,10] false 1<|by decide
 have b5:kIn e [6,10]=false:=kQz hk rfl
 have h6:pfn rE 219 [Iy 1 [I 8,I 9],.iptr true [I 1]]=some (.bool false):=Zc [8,9] false 1<|by decide
 have b6:kIn e [8,9]=false:=kQz hk rfl
 have q0:((1:Int)==3)=false:=rfl;have q1:((1:Int)==10)=false:=rfl;have q2:((1:Int)==15)=false:=rfl;rw[Z5 (f:=126) rfl rfl];unfold Zq;simp only[go_sem,c126,hk,h0,h1,h2,h3,h4,h5,h6,b0,b1,b2,b3,b4,b5,b6,q0,q1,q2]
 try rfl
def Z2u(e:Gt)(hk:e.br=2):pfn rE 126 [evA e]=some (evA<|Zq e):=by
 have h0:pfn rE 219 [Iy 1 [I 13,I 14],.iptr true [I 2]]=some (.bool false):=Zc [13,14] false 2<|by decide
 have b0:kIn e [13,14]=false:=kQz hk rfl
 have h1:pfn rE 219 [Iy 1 [I 1],.iptr true [I 2]]=some (.bool false):=Zc [1] false 2<|by decide
 have b1:kIn e [1]=false:=kQz hk rfl
 have h2:pfn rE 219 [Iy 1 [I 1,I 2,I 5],.iptr true [I 2]]=some (.bool true):=Zc [1,2,5] false 2<|by decide
 have b2:kIn e [1,2,5]=true:=kQz hk rfl
 have h3:pfn rE 219 [Iy 1 [I 4,I 6,I 7],.iptr true [I 2]]=some (.bool false):=Zc [4,6,7] false 2<|by decide
 have b3:kIn e [4,6,7]=false:=kQz hk rfl
 have h4:pfn rE 219 [Iy 1 [I 6,I 7,I 15],.iptr true [I 2]]=some (.bool false):=Zc [6,7,15] false 2<|by decide
 have b4:kIn e [6,7,15]=false:=kQz hk rfl
 have h5:pfn rE 219 [Iy 1 [I 6,I 10],.iptr true [I 2]]=some (.bool false):=Zc [6,10] false 2<|by decide
 have b5:kIn e [6,10]=false:=kQz hk rfl
 have h6:pfn rE 219 [Iy 1 [I 8,I 9],.iptr true [I 2]]=some (.bool false):=Zc [8,9] false 2<|by decide
 have b6:kIn e [8,9]=false:=kQz hk rfl
 have q0:((2:Int)==3)=false:=rfl;have q1:((2:Int)==10)=false:=rfl;have q2:((2:Int)==15)=false:=rfl;rw[Z5 (f:=126) rfl rfl];unfold Zq;simp only[go_sem,c126,hk,h0,h1,h2,h3,h4,h5,h6,b0,b1,b2,b3,b4,b5,b6,q0,q1,q2]
 try rfl
def Z2v(e:Gt)(hk:e.br=3):pfn rE 126 [evA e]=some (evA<|Zq e):=by
 have h0:pfn rE 219 [Iy 1 [I 13,I 14],.iptr true [I 3]]=some (.bool false):=Zc [13,14] false 3<|by decide
 have b0:kIn e [13,14]=false:=kQz hk rfl
 have h1:pfn rE 219 [Iy 1 [I 1],.iptr true [I 3]]=some (.bool false):=Zc [1] false 3<|by decide
 have b1:kIn e [1]=false:=kQz hk rfl
 have h2:pfn rE 219 [Iy 1 [I 1,I 2,I 5],.iptr true [I 3]]=some (.bool false):=Zc [1,2,5] false 3<|by decide
 have b2:kIn e [1,2,5]=false:=kQz hk rfl
 have h3:pfn rE 219 [Iy 1 [I 4,I 6,I 7],.iptr true [I 3]]=some (.bool false):=Zc [4,6,7] false 3<|by decide
 have b3:kIn e [4,6,7]=false:=kQz hk rfl
 have h4:pfn rE 219 [Iy 1 [I 6,I 7,I 15],.iptr true [I 3]]=some (.bool false):=Zc [6,7,15] false 3<|by decide
 have b4:kIn e [6,7,15]=false:=kQz hk rfl
 have h5:pfn rE 219 [Iy 1 [I 6,I 10],.iptr true [I 3]]=some (.bool false):=Zc [6,10] false 3<|by decide
 have b5:kIn e [6,10]=false:=kQz hk rfl
 have h6:pfn rE 219 [Iy 1 [I 8,I 9],.iptr true [I 3]]=some (.bool false):=Zc [8,9] false 3<|by decide
 have b6:kIn e [8,9]=false:=kQz hk rfl
 have q0:((3:Int)==3)=true:=rfl;have q1:((3:Int)==10)=false:=rfl;have q2:((3:Int)==15)=false:=rfl;rw[Z5 (f:=126) rfl rfl];unfold Zq;simp only[go_sem,c126,hk,h0,h1,h2,h3,h4,h5,h6,b0,b1,b2,b3,b4,b5,b6,q0,q1,q2]
 try rfl
def Z2w(e:Gt)(hk:e.br=4):pfn rE 126 [evA e]=some (evA<|Zq e):=by
 have h0:pfn rE 219 [Iy 1 [I 13,I 14],.iptr true [I 4]]=some (.bool false):=Zc [13,14] false 4<|by decide
 have b0:kIn e [13,14]=false:=kQz hk rfl
 have h1:pfn rE 219 [Iy 1 [I 1],.iptr true [I 4]]=some (.bool false):=Zc [1] false 4<|by decide
 have b1:kIn e [1]=false:=kQz hk rfl
 have h2:pfn rE 219 [Iy 1 [I 1,I 2,I 5],.iptr true [I 4]]=some (.bool false):=Zc [1,2,5] false 4<|by decide
 have b2:kIn e [1,2,5]=false:=kQz hk rfl
 have h3:pfn rE 219 [Iy 1 [I 4,I 6,I 7],.iptr true [I 4]]=some (.bool true):=Zc [4,6,7] false 4<|by decide
 have b3:kIn e [4,6,7]=true:=kQz hk rfl
 have h4:pfn rE 219 [Iy 1 [I 6,I 7,I 15],.iptr true [I 4]]=some (.bool false):=Zc [6,7,15] false 4<|by decide
 have b4:kIn e [6,7,15]=false:=kQz hk rfl
 have h5:pfn rE 219 [Iy 1 [I 6,I 10],.iptr true [I 4]]=some (.bool false):=Zc [6,10] false 4<|by decide
 have b5:kIn e [6,10]=false:=kQz hk rfl
 have h6:pfn rE 219 [Iy 1 [I 8,I 9],.iptr true [I 4]]=some (.bool false):=Zc [8,9] false 4<|by decide
 have b6:kIn e [8,9]=false:=kQz hk rfl
 have q0:((4:Int)==3)=false:=rfl;have q1:((4:Int)==10)=false:=rfl;have q2:((4:Int)==15)=false:=rfl;rw[Z5 (f:=126) rfl rfl];unfold Zq;simp only[go_sem,c126,hk,h0,h1,h2,h3,h4,h5,h6,b0,b1,b2,b3,b4,b5,b6,q0,q1,q2]
 try rfl
def Z2x(e:Gt)(a:e.br=5):pfn rE 126 [evA e]=some (evA<|Zq e):=by
 have m:pfn rE 219 [Iy 1 [I 13,I 14],.iptr true [I 5]]=some (.bool false):=Zc [13,14] false 5<|by decide
 have s:kIn e [13,14]=false:=kQz a rfl
 have n:pfn rE 219 [Iy 1 [I 1],.iptr true [I 5]]=some (.bool false):=Zc [1] false 5<|by decide
 have o:kIn e [1]=false:=kQz a rfl
 have h:pfn rE 219 [Iy 1 [I 1,I 2,I 5],.iptr true [I 5]]=some (.bool true):=Zc [1,2,5] false 5<|by decide
 have c:kIn e [1,2,5]=true:=kQz a rfl
 have i:pfn rE 219 [Iy 1 [I 4,I 6,I 7],.iptr true [I 5]]=some (.bool false):=Zc [4,6,7] false 5<|by decide
 have q:kIn e [4,6,7]=false:=kQz a rfl
 have k:pfn rE 219 [Iy 1 [I 6,I 7,I 15],.iptr true [I 5]]=some (.bool false):=Zc [6,7,15] false 5<|by decide
 have g:kIn e [6,7,15]=false:=kQz a rfl
 have l:pfn rE 219 [Iy 1 [I 6,I 10],.iptr true [I 5]]=some (.bool false):=Zc [6,10] false 5<|by decide
 have d:kIn e [6,10]=false:=kQz a rfl
 have p:pfn rE 219 [Iy 1 [I 8,I 9],.iptr true [I 5]]=some (.bool false):=Zc [8,9] false 5<|by decide
 have t:kIn e [8,9]=false:=kQz a rfl
 have j:((5:Int)==3)=false:=rfl;have b:((5:Int)==10)=false:=rfl;have r:((5:Int)==15)=false:=rfl;rw[Z5 (f:=126) rfl rfl];unfold Zq;simp only[go_sem,c126,a,m,n,h,i,k,l,p,s,o,c,q,g,d,t,j,b,r]
 try rfl
def Z2y(e:Gt)(a:e.br=6):pfn rE 126 [evA e]=some (evA<|Zq e):=by
 have m:pfn rE 219 [Iy 1 [I 13,I 14],.iptr true [I 6]]=some (.bool false):=Zc [13,14] false 6<|by decide
 have s:kIn e [13,14]=false:=kQz a rfl
 have n:pfn rE 219 [Iy 1 [I 1],.iptr true [I 6]]=some (.bool false):=Zc [1] false 6<|by decide
 have o:kIn e [1]=false:=kQz a rfl
 have h:pfn rE 219 [Iy 1 [I 1,I 2,I 5],.iptr true [I 6]]=some (.bool false):=Zc [1,2,5] false 6<|by decide
 have c:kIn e [1,2,5]=false:=kQz a rfl
 have i:pfn rE 219 [Iy 1 [I 4,I 6,I 7],.iptr true [I 6]]=some (.bool true):=Zc [4,6,7] false 6<|by decide
 have q:kIn e [4,6,7]=true:=kQz a rfl
 have k:pfn rE 219 [Iy 1 [I 6,I 7,I 15],.iptr true [I 6]]=some (.bool true):=Zc [6,7,15] false 6<|by decide
 have g:kIn e [6,7,15]=true:=kQz a rfl
 have l:pfn rE 219 [Iy 1 [I 6,I 10],.iptr true [I 6]]=some (.bool true):=Zc [6,10] false 6<|by decide
 have d:kIn e [6,10]=true:=kQz a rfl
 have p:pfn rE 219 [Iy 1 [I 8,I 9],.iptr true [I 6]]=some (.bool false):=Zc [8,9] false 6<|by decide
 have t:kIn e [8,9]=false:=kQz a rfl
 have j:((6:Int)==3)=false:=rfl;have b:((6:Int)==10)=false:=rfl;have r:((6:Int)==15)=false:=rfl;rw[Z5 (f:=126) rfl rfl];unfold Zq;simp only[go_sem,c126,a,m,n,h,i,k,l,p,s,o,c,q,g,d,t,j,b,r]
 try rfl
def Z2z(e:Gt)(a:e.br=7):pfn rE 126 [evA e]=some (evA<|Zq e):=by
 have m:pfn rE 219 [Iy 1 [I 13,I 14],.iptr true [I 7]]=some (.bool false):=Zc [13,14] false 7<|by decide
 have s:kIn e [13,14]=false:=kQz a rfl
 have n:pfn rE 219 [Iy 1 [I 1],.iptr true [I 7]]=some (.bool false):=Zc [1] false 7<|by decide
 have o:kIn e [1]=false:=kQz a rfl
 have h:pfn rE 219 [Iy 1 [I 1,I 2,I 5],.iptr true [I 7]]=some (.bool false):=Zc [1,2,5] false 7<|by decide
 have c:kIn e [1,2,5]=false:=kQz a rfl
 have i:pfn rE 219 [Iy 1 [I 4,I 6,I 7],.iptr true [I 7]]=some (.bool true):=Zc [4,6,7] false 7<|by decide
 have q:kIn e [4,6,7]=true:=kQz a rfl
 have k:pfn rE 219 [Iy 1 [I 6,I 7,I 15],.iptr true [I 7]]=some (.bool true):=Zc [6,7,15] false 7<|by decide
 have g:kIn e [6,7,15]=true:=kQz a rfl
 have l:pfn rE 219 [Iy 1 [I 6,I 10],.iptr true [I 7]]=some (.bool false):=Zc [6,10] false 7<|by decide
 have d:kIn e [6,10]=false:=kQz a rfl
 have p:pfn rE 219 [Iy 1 [I 8,I 9],.iptr true [I 7]]=some (.bool false):=Zc [8,9] false 7<|by decide
 have t:kIn e [8,9]=false:=kQz a rfl
 have j:((7:Int)==3)=false:=rfl;have b:((7:Int)==10)=false:=rfl;have r:((7:Int)==15)=false:=rfl;rw[Z5 (f:=126) rfl rfl];unfold Zq;simp only[go_sem,c126,a,m,n,h,i,k,l,p,s,o,c,q,g,d,t,j,b,r]
 try rfl
def Z2A(e:Gt)(a:e.br=8):pfn rE 126 [evA e]=some (evA<|Zq e):=by
 have m:pfn rE 219 [Iy 1 [I 13,I 14],.iptr true [I 8]]=some (.bool false):=Zc [13,14] false 8<|by decide
 have s:kIn e [13,14]=false:=kQz a rfl
 have n:pfn rE 219 [Iy 1 [I 1],.iptr true [I 8]]=some (.bool false):=Zc [1] false 8<|by decide
 have o:kIn e [1]=false:=kQz a rfl
 have h:pfn rE 219 [Iy 1 [I 1,I 2,I 5],.iptr true [I 8]]=some (.bool false):=Zc [1,2,5] false 8<|by decide
 have c:kIn e [1,2,5]=false:=kQz a rfl
 have i:pfn rE 219 [Iy 1 [I 4,I 6,I 7],.iptr true [I 8]]=some (.bool false):=Zc [4,6,7] false 8<|by decide
 have q:kIn e [4,6,7]=false:=kQz a rfl
 have k:pfn rE 219 [Iy 1 [I 6,I 7,I 15],.iptr true [I 8]]=some (.bool false):=Zc [6,7,15] false 8<|by decide
 have g:kIn e [6,7,15]=false:=kQz a rfl
 have l:pfn rE 219 [Iy 1 [I 6,I 10],.iptr true [I 8]]=some (.bool false):=Zc [6,10] false 8<|by decide
 have d:kIn e [6,10]=false:=kQz a rfl
 have p:pfn rE 219 [Iy 1 [I 8,I 9],.iptr true [I 8]]=some (.bool true):=Zc [8,9] false 8<|by decide
 have t:kIn e [8,9]=true:=kQz a rfl
 have j:((8:Int)==3)=false:=rfl;have b:((8:Int)==10)=false:=rfl;have r:((8:Int)==15)=false:=rfl;rw[Z5 (f:=126) rfl rfl];unfold Zq;simp only[go_sem,c126,a,m,n,h,i,k,l,p,s,o,c,q,g,d,t,j,b,r]
 try rfl
def Z2B(e:Gt)(a:e.br=9):pfn rE 126 [evA e]=some (evA<|Zq e):=by
 have m:pfn rE 219 [Iy 1 [I 13,I 14],.iptr true [I 9]]=some (.bool false):=Zc [13,14] false 9<|by decide
 have s:kIn e [13,14]=false:=kQz a rfl
 have n:pfn rE 219 [Iy 1 [I 1],.iptr true [I 9]]=some (.bool false):=Zc [1] false 9<|by decide
 have o:kIn e [1]=false:=kQz a rfl
 have h:pfn rE 219 [Iy 1 [I 1,I 2,I 5],.iptr true [I 9]]=some (.bool false):=Zc [1,2,5] false 9<|by decide
 have c:kIn e [1,2,5]=false:=kQz a rfl
 have i:pfn rE 219 [Iy 1 [I 4,I 6,I 7],.iptr true [I 9]]=some (.bool false):=Zc [4,6,7] false 9<|by decide
 have q:kIn e [4,6,7]=false:=kQz a rfl
 have k:pfn rE 219 [Iy 1 [I 6,I 7,I 15],.iptr true [I 9]]=some (.bool false):=Zc [6,7,15] false 9<|by decide
 have g:kIn e [6,7,15]=false:=kQz a rfl
 have l:pfn rE 219 [Iy 1 [I 6,I 10],.iptr true [I 9]]=some (.bool false):=Zc [6,10] false 9<|by decide
 have d:kIn e [6,10]=false:=kQz a rfl
 have p:pfn rE 219 [Iy 1 [I 8,I 9],.iptr true [I 9]]=some (.bool true):=Zc [8,9] false 9<|by decide
 have t:kIn e [8,9]=true:=kQz a rfl
 have j:((9:Int)==3)=false:=rfl;have b:((9:Int)==10)=false:=rfl;have r:((9:Int)==15)=false:=rfl;rw[Z5 (f:=126) rfl rfl];unfold Zq;simp only[go_sem,c126,a,m,n,h,i,k,l,p,s,o,c,q,g,d,t,j,b,r]
 try rfl
def Z2C(e:Gt)(a:e.br=10):pfn rE 126 [evA e]=some (evA<|Zq e):=by
 have m:pfn rE 219 [Iy 1 [I 13,I 14],.iptr true [I 10]]=some (.bool false):=Zc [13,14] false 10<|by decide
 have s:kIn e [13,14]=false:=kQz a rfl
 have n:pfn rE 219 [Iy 1 [I 1],.iptr true [I 10]]=some (.bool false):=Zc [1] false 10<|by decide
 have o:kIn e [1]=false:=kQz a rfl
 have h:pfn rE 219 [Iy 1 [I 1,I 2,I 5],.iptr true [I 10]]=some (.bool false):=Zc [1,2,5] false 10<|by decide
 have c:kIn e [1,2,5]=false:=kQz a rfl
 have i:pfn rE 219 [Iy 1 [I 4,I 6,I 7],.iptr true [I 10]]=some (.bool false):=Zc [4,6,7] false 10<|by decide
 have q:kIn e [4,6,7]=false:=kQz a rfl
 have k:pfn rE 219 [Iy 1 [I 6,I 7,I 15],.iptr true [I 10]]=some (.bool false):=Zc [6,7,15] false 10<|by decide
 have g:kIn e [6,7,15]=false:=kQz a rfl
 have l:pfn rE 219 [Iy 1 [I 6,I 10],.iptr true [I 10]]=some (.bool true):=Zc [6,10] false 10<|by decide
 have d:kIn e [6,10]=true:=kQz a rfl
 have p:pfn rE 219 [Iy 1 [I 8,I 9],.iptr true [I 10]]=some (.bool false):=Zc [8,9] false 10<|by decide
 have t:kIn e [8,9]=false:=kQz a rfl
 have j:((10:Int)==3)=false:=rfl;have b:((10:Int)==10)=true:=rfl;have r:((10:Int)==15)=false:=rfl;rw[Z5 (f:=126) rfl rfl];unfold Zq;simp only[go_sem,c126,a,m,n,h,i,k,l,p,s,o,c,q,g,d,t,j,b,r]
 try rfl
def Z2D(e:Gt)(a:e.br=11):pfn rE 126 [evA e]=some (evA<|Zq e):=by
 have m:pfn rE 219 [Iy 1 [I 13,I 14],.iptr true [I 11]]=some (.bool false):=Zc [13,14] false 11<|by decide
 have s:kIn e [13,14]=false:=kQz a rfl
 have n:pfn rE 219 [Iy 1 [I 1],.iptr true [I 11]]=some (.bool false):=Zc [1] false 11<|by decide
 have o:kIn e [1]=false:=kQz a rfl
 have h:pfn rE 219 [Iy 1 [I 1,I 2,I 5],.iptr true [I 11]]=some (.bool false):=Zc [1,2,5] false 11<|by decide
 have c:kIn e [1,2,5]=false:=kQz a rfl
 have i:pfn rE 219 [Iy 1 [I 4,I 6,I 7],.iptr true [I 11]]=some (.bool false):=Zc [4,6,7] false 11<|by decide
 have q:kIn e [4,6,7]=false:=kQz a rfl
 have k:pfn rE 219 [Iy 1 [I 6,I 7,I 15],.iptr true [I 11]]=some (.bool false):=Zc [6,7,15] false 11<|by decide
 have g:kIn e [6,7,15]=false:=kQz a rfl
 have l:pfn rE 219 [Iy 1 [I 6,I 10],.iptr true [I 11]]=some (.bool false):=Zc [6,10] false 11<|by decide
 have d:kIn e [6,10]=false:=kQz a rfl
 have p:pfn rE 219 [Iy 1 [I 8,I 9],.iptr true [I 11]]=some (.bool false):=Zc [8,9] false 11<|by decide
 have t:kIn e [8,9]=false:=kQz a rfl
 have j:((11:Int)==3)=false:=rfl;have b:((11:Int)==10)=false:=rfl;have r:((11:Int)==15)=false:=rfl;rw[Z5 (f:=126) rfl rfl];unfold Zq;simp only[go_sem,c126,a,m,n,h,i,k,l,p,s,o,c,q,g,d,t,j,b,r]
 try rfl
def Z2E(e:Gt)(a:e.br=12):pfn rE 126 [evA e]=some (evA<|Zq e):=by
 have m:pfn rE 219 [Iy 1 [I 13,I 14],.iptr true [I 12]]=some (.bool false):=Zc [13,14] false 12<|by decide
 have s:kIn e [13,14]=false:=kQz a rfl
 have n:pfn rE 219 [Iy 1 [I 1],.iptr true [I 12]]=some (.bool false):=Zc [1] false 12<|by decide
 have o:kIn e [1]=false:=kQz a rfl
 have h:pfn rE 219 [Iy 1 [I 1,I 2,I 5],.iptr true [I 12]]=some (.bool false):=Zc [1,2,5] false 12<|by decide
 have c:kIn e [1,2,5]=false:=kQz a rfl
 have i:pfn rE 219 [Iy 1 [I 4,I 6,I 7],.iptr true [I 12]]=some (.bool false):=Zc [4,6,7] false 12<|by decide
 have q:kIn e [4,6,7]=false:=kQz a rfl
 have k:pfn rE 219 [Iy 1 [I 6,I 7,I 15],.iptr true [I 12]]=some (.bool false):=Zc [6,7,15] false 12<|by decide
 have g:kIn e [6,7,15]=false:=kQz a rfl
 have l:pfn rE 219 [Iy 1 [I 6,I 10],.iptr true [I 12]]=some (.bool false):=Zc [6,10] false 12<|by decide
 have d:kIn e [6,10]=false:=kQz a rfl
 have p:pfn rE 219 [Iy 1 [I 8,I 9],.iptr true [I 12]]=some (.bool false):=Zc [8,9] false 12<|by decide
 have t:kIn e [8,9]=false:=kQz a rfl
 have j:((12:Int)==3)=false:=rfl;have b:((12:Int)==10)=false:=rfl;have r:((12:Int)==15)=false:=rfl;rw[Z5 (f:=126) rfl rfl];unfold Zq;simp only[go_sem,c126,a,m,n,h,i,k,l,p,s,o,c,q,g,d,t,j,b,r]
 try rfl
def Z2F(e:Gt)(a:e.br=13):pfn rE 126 [evA e]=some (evA<|Zq e):=by
 have m:pfn rE 219 [Iy 1 [I 13,I 14],.iptr true [I 13]]=some (.bool true):=Zc [13,14] false 13<|by decide
 have s:kIn e [13,14]=true:=kQz a rfl
 have n:pfn rE 219 [Iy 1 [I 1],.iptr true [I 13]]=some (.bool false):=Zc [1] false 13<|by decide
 have o:kIn e [1]=false:=kQz a rfl
 have h:pfn rE 219 [Iy 1 [I 1,I 2,I 5],.iptr true [I 13]]=some (.bool false):=Zc [1,2,5] false 13<|by decide
 have c:kIn e [1,2,5]=false:=kQz a rfl
 have i:pfn rE 219 [Iy 1 [I 4,I 6,I 7],.iptr true [I 13]]=some (.bool false):=Zc [4,6,7] false 13<|by decide
 have q:kIn e [4,6,7]=false:=kQz a rfl
 have k:pfn rE 219 [Iy 1 [I 6,I 7,I 15],.iptr true [I 13]]=some (.bool false):=Zc [6,7,15] false 13<|by decide
 have g:kIn e [6,7,15]=false:=kQz a rfl
 have l:pfn rE 219 [Iy 1 [I 6,I 10],.iptr true [I 13]]=some (.bool false):=Zc [6,10] false 13<|by decide
 have d:kIn e [6,10]=false:=kQz a rfl
 have p:pfn rE 219 [Iy 1 [I 8,I 9],.iptr true [I 13]]=some (.bool false):=Zc [8,9] false 13<|by decide
 have t:kIn e [8,9]=false:=kQz a rfl
 have j:((13:Int)==3)=false:=rfl;have b:((13:Int)==10)=false:=rfl;have r:((13:Int)==15)=false:=rfl;rw[Z5 (f:=126) rfl rfl];unfold Zq;simp only[go_sem,c126,a,m,n,h,i,k,l,p,s,o,c,q,g,d,t,j,b,r]
 try rfl
def Z2G(e:Gt)(a:e.br=14):pfn rE 126 [evA e]=some (evA<|Zq e):=by
 have m:pfn rE 219 [Iy 1 [I 13,I 14],.iptr true [I 14]]=some (.bool true):=Zc [13,14] false 14<|by decide
 have s:kIn e [13,14]=true:=kQz a rfl
 have n:pfn rE 219 [Iy 1 [I 1],.iptr true [I 14]]=some (.bool false):=Zc [1] false 14<|by decide
 have o:kIn e [1]=false:=kQz a rfl
 have h:pfn rE 219 [Iy 1 [I 1,I 2,I 5],.iptr true [I 14]]=some (.bool false):=Zc [1,2,5] false 14<|by decide
 have c:kIn e [1,2,5]=false:=kQz a rfl
 have i:pfn rE 219 [Iy 1 [I 4,I 6,I 7],.iptr true [I 14]]=some (.bool false):=Zc [4,6,7] false 14<|by decide
 have q:kIn e [4,6,7]=false:=kQz a rfl
 have k:pfn rE 219 [Iy 1 [I 6,I 7,I 15],.iptr true [I 14]]=some (.bool false):=Zc [6,7,15] false 14<|by decide
 have g:kIn e [6,7,15]=false:=kQz a rfl
 have l:pfn rE 219 [Iy 1 [I 6,I 10],.iptr true [I 14]]=some (.bool false):=Zc [6,10] false 14<|by decide
 have d:kIn e [6,10]=false:=kQz a rfl
 have p:pfn rE 219 [Iy 1 [I 8,I 9],.iptr true [I 14]]=some (.bool false):=Zc [8,9] false 14<|by decide
 have t:kIn e [8,9]=false:=kQz a rfl
 have j:((14:Int)==3)=false:=rfl;have b:((14:Int)==10)=false:=rfl;have r:((14:Int)==15)=false:=rfl;rw[Z5 (f:=126) rfl rfl];unfold Zq;simp only[go_sem,c126,a,m,n,h,i,k,l,p,s,o,c,q,g,d,t,j,b,r]
 try rfl
def Z2H(e:Gt)(a:e.br=15):pfn rE 126 [evA e]=some (evA<|Zq e):=by
 have m:pfn rE 219 [Iy 1 [I 13,I 14],.iptr true [I 15]]=some (.bool false):=Zc [13,14] false 15<|by decide
 have s:kIn e [13,14]=false:=kQz a rfl
 have n:pfn rE 219 [Iy 1 [I 1],.iptr true [I 15]]=some (.bool false):=Zc [1] false 15<|by decide
 have o:kIn e [1]=false:=kQz a rfl
 have h:pfn rE 219 [Iy 1 [I 1,I 2,I 5],.iptr true [I 15]]=some (.bool false):=Zc [1,2,5] false 15<|by decide
 have c:kIn e [1,2,5]=false:=kQz a rfl
 have i:pfn rE 219 [Iy 1 [I 4,I 6,I 7],.iptr true [I 15]]=some (.bool false):=Zc [4,6,7] false 15<|by decide
 have q:kIn e [4,6,7]=false:=kQz a rfl
 have k:pfn rE 219 [Iy 1 [I 6,I 7,I 15],.iptr true [I 15]]=some (.bool true):=Zc [6,7,15] false 15<|by decide
 have g:kIn e [6,7,15]=true:=kQz a rfl
 have l:pfn rE 219 [Iy 1 [I 6,I 10],.iptr true [I 15]]=some (.bool false):=Zc [6,10] false 15<|by decide
 have d:kIn e [6,10]=false:=kQz a rfl
 have p:pfn rE 219 [Iy 1 [I 8,I 9],.iptr true [I 15]]=some (.bool false):=Zc [8,9] false 15<|by decide
 have t:kIn e [8,9]=false:=kQz a rfl
 have j:((15:Int)==3)=false:=rfl;have b:((15:Int)==10)=false:=rfl;have r:((15:Int)==15)=true:=rfl;rw[Z5 (f:=126) rfl rfl];unfold Zq;simp only[go_sem,c126,a,m,n,h,i,k,l,p,s,o,c,q,g,d,t,j,b,r]
 try rfl
def Z2I(e:Gt)(h:ZD e.br 1 15=true):pfn rE 126 [evA e]=some (evA<|Zq e):=by
 have a:1<=e.br/\e.br<=15:=by simpa[ZD]using h
 have:e.br=1\/e.br=2\/e.br=3\/e.br=4\/e.br=5\/e.br=6\/e.br=7\/e.br=8\/e.br=9\/e.br=10\/e.br=11\/e.br=12\/e.br=13\/e.br=14\/e.br=15:=by omega
 rcases this with h|h|h|h|h|h|h|h|h|h|h|h|h|h|h
 .exact Z2t e h
 .exact Z2u e h
 .exact Z2v e h
 .exact Z2w e h
 .exact Z2x e h
 .exact Z2y e h
 .exact Z2z e h
 .exact Z2A e h
 .exact Z2B e h
 .exact Z2C e h
 .exact Z2D e h
 .exact Z2E e h
 .exact Z2F e h
 .exact Z2G e h
 .exact Z2H e h
def F9(e:Gt):(Zq e).Id.size<=e.Id.size:=by
 unfold Zq;dsimp only;cases kIn e [13,14]with
 |true=>exact ZSr _
 |false=>exact ZSt _
def Jn:List AV:=[.nilfn,.clo (.func 224) [] [.iptr false [.clo (.func 220) [] []]],.clo (.func 226) [] [.iptr false [.clo (.func 220) [] []]],.clo (.func 228) [] [.iptr false [.clo (.func 220) [] []]],.clo (.func 230) [] [],.clo (.func 232) [] [.iptr false [.clo (.func 220) [] []]],.clo (.func 233) [] [],.clo (.func 236) [] [],.clo (.func 238) [] [.iptr false [.clo (.func 220) [] []]],.clo (.func 241) [] [],.clo (.func 242) [] [],.clo (.func 220) [] [],.clo (.func 220) [] [],.clo (.func 222) [] [],.clo (.func 222) [] [],.clo (.func 243) [] [.iptr false [.clo (.func 220) [] []]]]
def Z2K:clean .nilfn=true:=(rfl)
attribute [go_sem] Z2K
def Z2L(off n:Nat)(v:AV):stE off n v .nilfn=st1 off v.cells:=(rfl)
attribute [go_sem] Z2L
def Z2M(sz:Nat):fits sz .nilfn=(sz==1):=(rfl)
attribute [go_sem] Z2M
def Z2N:pfn rE 127 []=some (.agg Jn):=by
 rw[Z5 (f:=127) rfl rfl];unfold Jn;simp only[go_sem,c127]
def Q8(e:Gt):Bool:=
 bif e.br==1 then ZZ e.Id&&(ZD e.A 1 3&&Vh e.Path.l)else
 bif e.br==2 then ZZ e.Id&&Ul e.Path.l else
 bif e.br==3 then ZZ e.Id&&Uz e.bm.l else
 bif e.br==4 then Qv [e.Id,e.bv]else
 bif e.br==5 then ZZ e.Id&&Vh e.Path.l else
 bif e.br==6 then Qv [e.Id,e.bv,e.Text]&&(YO e.An&&gOn e.bg)else
 bif e.br==7 then Qv [e.Id,e.bv]&&Jm e.Text 24 else
 bif e.br==8 then ZZ e.Id&&(ZD e.Lst.l.length 1 40&&(Xi e.Lst.l []&&Vk e.Lst.l true))else
 bif e.br==9 then ZD e.Lst.l.length 2 8&&(Xi e.Lst.l [e.Id]&&Vk e.Lst.l false)else
 bif e.br==10 then ZD e.Ids.l.length 2 8&&(Qv (e.Id::e.Ids.l)&&(YO e.An&&gOn e.bg))else
 bif e.br==11 then ZZ e.Id else
 bif e.br==12 then ZZ e.Id else
 bif e.br==13 then K5 e.A e.B else
 bif e.br==14 then K5 e.A e.B else
 ZZ e.Id&&(ZD e.bz 0 63&&Uu e.Text)
def NF(x:Gt):Str:=x.Id++x.bv++x.Text
def Fb(x:Gt):Bool:=((((x.A != 0||x.B != 0)||x.bz != 0)||!Z3 (NF x) emp)||!QL x.An ⟨0,emp,0,0⟩)||!QK x.bg ⟨0,0⟩
def NG(x:Gt):Bool:=W (W (W ((x.Ids.l.length:Int)+(x.bm.l.length:Int))+(x.Path.l.length:Int))+(x.Lst.l.length:Int))==0
def Q9(e:Gt):Bool:=ZD e.br 1 15&&(ZD e.Day 0 100000&&(!Fb (Zq e)&&(NG (Zq e)&&Q8 e)))
def Fc(e:Gt):(Zq e).bv.size<=e.bv.size:=by
 unfold Zq;dsimp only;cases kIn e [4,6,7]with
 |true=>exact ZSt _
 |false=>exact ZSr _
def Z2O(e:Gt):(Zq e).Text.size<=e.Text.size:=by
 unfold Zq;dsimp only;cases kIn e [6,7,15]with
 |true=>exact ZSt _
 |false=>exact ZSr _
def Yz(k:Nat)(v:AV)(h:(Jn[k]?)=some v)(b:k<16):aiV none 1 16 (.agg Jn) (I k)=some v:=by
 rw[LQ];have c:(0<=(k:Int)/\(k:Int)<((16:Nat):Int)):=by omega
 rw[if_pos c];have:((k:Int)).toNat*1=k:=by simp
 rw[this];have a:k<Jn.length:=b;rw[ZTD a,N3];rw[ZSu a]at h;exact h
def Z2P(e:Gt)(hs:EvS e)(h:ZD e.br 1 15=true):∃g cap,aiV none 1 16 (.agg Jn) (I e.br)=some (.clo (.func g) [] cap)/\(cap=[]\/cap=[.iptr false [.clo (.func 220) [] []]])/\pfn rE g (evA e::cap)=some (.bool<|Q8 e):=by
 have hk:1<=e.br/\e.br<=15:=by simpa[ZD]using h
 have:e.br=1\/e.br=2\/e.br=3\/e.br=4\/e.br=5\/e.br=6\/e.br=7\/e.br=8\/e.br=9\/e.br=10\/e.br=11\/e.br=12\/e.br=13\/e.br=14\/e.br=15:=by omega
 rcases this with hk|hk|hk|hk|hk|hk|hk|hk|hk|hk|hk|hk|hk|hk|hk
 .refine⟨224,[.iptr false [.clo (.func 220) [] []]],?_,Or.inr rfl,?_⟩
  .rw[hk];exact Yz 1 _ rfl (by decide)
  .have hn:Q8 e=(ZZ e.Id&&(ZD e.A 1 3&&Vh e.Path.l)):=by unfold Q8;rw[hk];rfl
   rw[hn];exact Z2i e hs
 .refine⟨226,[.iptr false [.clo (.func 220) [] []]],?_,Or.inr rfl,?_⟩
  .rw[hk];exact Yz 2 _ rfl (by decide)
  .have hn:Q8 e=(ZZ e.Id&&Ul e.Path.l):=by unfold Q8;rw[hk];rfl
   rw[hn];exact Z2j e hs
 .refine⟨228,[.iptr false [.clo (.func 220) [] []]],?_,Or.inr rfl,?_⟩
  .rw[hk];exact Yz 3 _ rfl (by decide)
  .have hn:Q8 e=(ZZ e.Id&&Uz e.bm.l):=by unfold Q8;rw[hk];rfl
   rw[hn];exact Z2k e hs
 .refine⟨230,[],?_,Or.inl rfl,?_⟩
  .rw[hk];exact Yz 4 _ rfl (by decide)
  .have hn:Q8 e=(Qv [e.Id,e.bv]):=by unfold Q8;rw[hk];rfl
   rw[hn];exact Z2h e
 .refine⟨232,[.iptr false [.clo (.func 220) [] []]],?_,Or.inr rfl,?_⟩
  .rw[hk];exact Yz 5 _ rfl (by decide)
  .have hn:Q8 e=(ZZ e.Id&&Vh e.Path.l):=by unfold Q8;rw[hk];rfl
   rw[hn];exact Z2l e hs
 .refine⟨233,[],?_,Or.inl rfl,?_⟩
  .rw[hk];exact Yz 6 _ rfl (by decide)
  .have hn:Q8 e=(Qv [e.Id,e.bv,e.Text]&&(YO e.An&&gOn e.bg)):=by unfold Q8;rw[hk];rfl
   rw[hn];exact Z2m e
 .refine⟨236,[],?_,Or.inl rfl,?_⟩
  .rw[hk];exact Yz 7 _ rfl (by decide)
  .have hn:Q8 e=(Qv [e.Id,e.bv]&&Jm e.Text 24):=by unfold Q8;rw[hk];rfl
   rw[hn];exact Z2n e
 .refine⟨238,[.iptr false [.clo (.func 220) [] []]],?_,Or.inr rfl,?_⟩
  .rw[hk];exact Yz 8 _ rfl (by decide)
  .have hn:Q8 e=(ZZ e.Id&&(ZD e.Lst.l.length 1 40&&(Xi e.Lst.l []&&Vk e.Lst.l true))):=by unfold Q8;rw[hk];rfl
   rw[hn];exact Z2o e hs
 .refine⟨241,[],?_,Or.inl rfl,?_⟩
  .rw[hk];exact Yz 9 _ rfl (by decide)
  .have hn:Q8 e=(ZD e.Lst.l.length 2 8&&(Xi e.Lst.l [e.Id]&&Vk e.Lst.l false)):=by unfold Q8;rw[hk];rfl
   rw[hn];exact Z2p e hs
 .refine⟨242,[],?_,Or.inl rfl,?_⟩
  .rw[hk];exact Yz 10 _ rfl (by decide)
  .have hn:Q8 e=(ZD e.Ids.l.length 2 8&&(Qv (e.Id::e.Ids.l)&&(YO e.An&&gOn e.bg))):=by unfold Q8;rw[hk];rfl
   rw[hn];exact Z2r e hs
 .refine⟨220,[],?_,Or.inl rfl,?_⟩
  .rw[hk];exact Yz 11 _ rfl (by decide)
  .have hn:Q8 e=(ZZ e.Id):=by unfold Q8;rw[hk];rfl
   rw[hn];exact Vl e
 .refine⟨220,[],?_,Or.inl rfl,?_⟩
  .rw[hk];exact Yz 12 _ rfl (by decide)
  .have hn:Q8 e=(ZZ e.Id):=by unfold Q8;rw[hk];rfl
   rw[hn];exact Vl e
 .refine⟨222,[],?_,Or.inl rfl,?_⟩
  .rw[hk];exact Yz 13 _ rfl (by decide)
  .have hn:Q8 e=(K5 e.A e.B):=by unfold Q8;rw[hk];rfl
   rw[hn];exact F8 e
 .refine⟨222,[],?_,Or.inl rfl,?_⟩
  .rw[hk];exact Yz 14 _ rfl (by decide)
  .have hn:Q8 e=(K5 e.A e.B):=by unfold Q8;rw[hk];rfl
   rw[hn];exact F8 e
 .refine⟨243,[.iptr false [.clo (.func 220) [] []]],?_,Or.inr rfl,?_⟩
  .rw[hk];exact Yz 15 _ rfl (by decide)
  .have hn:Q8 e=(ZZ e.Id&&(ZD e.bz 0 63&&Uu e.Text)):=by unfold Q8;rw[hk];rfl
   rw[hn];exact Z2s e
def NH(e:Gt)(hs:EvS e):pfn rE 71 [evA e]=some (.bool<|Q9 e):=by
 rw[Z5 (f:=71) rfl rfl];unfold Q9;cases c1:ZD e.br 1 15 with
 |false=>simp only[go_sem,c71,QU,c1]
 |true=>
 cases c2:ZD e.Day 0 100000 with
 |false=>simp only[go_sem,c71,QU,c1,c2]
 |true=>
 have hb:=Z2I e c1;have⟨g,cap,ha,hcap,hn⟩:=Z2P e hs c1;have hz1:(Zq e).Id.size+(Zq e).bv.size<=4611686018427387904:=by have:=F9 e;have:=Fc e;have:=hs.id;have:=hs.other;omega
 have hz2:(Zq e).Id.size+(Zq e).bv.size+(Zq e).Text.size<=4611686018427387904:=by
  have:=F9 e;have:=Fc e;have:=Z2O e;have:=hs.id;have:=hs.other;have:=hs.text;omega
 have e3:((Zq e).Id++(Zq e).bv)++(Zq e).Text=NF (Zq e):=rfl;have hn4:((Zq e).An.N==0&&(Z3 (Zq e).An.bn emp&&((Zq e).An.Num==0&&(Zq e).An.Den==0)))=QL (Zq e).An ⟨0,emp,0,0⟩:=rfl;have hn5:((Zq e).bg.X==0&&(Zq e).bg.Y==0)=QK (Zq e).bg ⟨0,0⟩:=rfl;have hl6:(W (W (W (((Zq e).Ids.l.length:Int)+((Zq e).bm.l.length:Int))+((Zq e).Path.l.length:Int))+((Zq e).Lst.l.length:Int))==0)=NG (Zq e):=rfl;unfold Fb;generalize Zq e=x at hb hz1 hz2 e3 hn4 hn5 hl6⊢;cases a1:x.A != 0 with
 |true=>simp only[go_sem,c71,QU,c1,c2,hb,a1]
 |false=>
 cases a2:x.B != 0 with
 |true=>simp only[go_sem,c71,QU,c1,c2,hb,a1,a2,ZT9,ZSU]
 |false=>
 cases a3:x.bz != 0 with
 |true=>simp only[go_sem,c71,QU,c1,c2,hb,a1,a2,a3,ZT9,ZSU,ZUd]
 |false=>
 cases a4:Z3 (NF x) emp with
 |false=>simp only[go_sem,c71,QU,c1,c2,hb,a1,a2,a3,hz1,hz2,ByteArray.size_append,if_true,e3,a4,ZT9,ZSU,ZUd]
 |true=>
 cases a5:QL x.An ⟨0,emp,0,0⟩with
 |false=>simp only[go_sem,c71,QU,c1,c2,hb,a1,a2,a3,hz1,hz2,ByteArray.size_append,if_true,e3,a4,hn4,a5,ZT9,ZSU,ZUd]
 |true=>
 cases a6:QK x.bg ⟨0,0⟩with
 |false=>simp only[go_sem,c71,QU,c1,c2,hb,a1,a2,a3,hz1,hz2,ByteArray.size_append,if_true,e3,a4,hn4,a5,hn5,a6,ZT9,ZUd]
 |true=>
 cases a7:NG x with
 |false=>simp only[go_sem,c71,QU,c1,c2,hb,a1,a2,a3,hz1,hz2,ByteArray.size_append,if_true,e3,a4,hn4,a5,hn5,a6,hl6,a7,ZUd]
 |true=>
  rcases hcap with rfl|rfl<;>simp only[go_sem,c71,QU,c1,c2,hb,a1,a2,a3,hz1,hz2,ByteArray.size_append,if_true,e3,a4,hn4,a5,hn5,a6,hl6,a7,ZUd,Z2N,ha,hn]
structure Sta where
 Fa:List Gk
 Gm:List By
 Bt:List Ev
 Bc:List Ga
 Nk:List be
 Gc:List bf
 ba:List bf
abbrev stA(s:Sta):AV:=.agg [Iy 6<|s.Fa.map Gk.enc,Iy 5<|s.Gm.map By.enc,Iy 4<|s.Bt.map Ev.enc,Iy 16<|s.Bc.map Ga.enc,
 Iy 6 (s.Nk.map be.enc),Iy 2<|s.Gc.map bf.enc,Iy 2<|s.ba.map bf.enc]
structure StS(s:Sta):Prop where
 regions:s.Fa.length<=1000
 streets:s.Gm.length<=1000
 buildings:s.Bt.length<=1000
 doors:s.Bc.length<=1000
 units:s.Nk.length<=1000
 merged:s.Gc.length<=1000
 rulings:s.ba.length<=1000
def Qo(s:Sta)(id:Str):Int:=Zp (λx:Gk=>Z3 x.Id id) s.Fa 0
def ZL(s:Sta)(id:Str):Int:=Zp (λx:By=>Z3 x.Id id) s.Gm 0
def Y1(s:Sta)(id:Str):Int:=Zp (λx:Ev=>Z3 x.Id id) s.Bt 0
def Zn(s:Sta)(id:Str):Int:=Zp (λx:Ga=>Z3 x.Id id) s.Bc 0
def Wf(s:Sta)(id:Str):Int:=Zp (λx:be=>Z3 x.Id id) s.Nk 0
def NI(s:Sta)(a:StS s)(id:Str):pfn rE 145 [stA s,.str id]=some (I<|Qo s id):=by
 have c:∀x:Gk,pfn rE 260 [x.enc,.iptr false [.str id]]=some (.bool<|Z3 x.Id id):=λx=>by
  rw[Z5 (f:=260) rfl rfl];simp only[go_sem,c260,Gk.enc,NL.enc]
 have b:=WF (E:=rE) (f:=249) (sz:=6) (n:=some 6) (enc:=Gk.enc) (p:=λx=>Z3 x.Id id) (g:=260) (cap:=[.iptr false [.str id]]) rfl rfl rfl s.Fa (by have:=a.regions;omega) (λx _=>x.el) (λx _=>c x) false false
 have d:pfn rE 259 [Iy 6<|s.Fa.map Gk.enc,.clo (.func 260) [] [.iptr false [.str id]]]=some (I<|Qo s id):=by
  rw[Z5 (f:=259) rfl rfl];simp only[go_sem,c259,b];rfl
 rw[Z5 (f:=145) rfl rfl];simp only[go_sem,c145,d]
def K7(s:Sta)(a:StS s)(id:Str):pfn rE 151 [stA s,.str id]=some (I<|ZL s id):=by
 have c:∀x:By,pfn rE 263 [x.enc,.iptr false [.str id]]=some (.bool<|Z3 x.Id id):=λx=>by
  rw[Z5 (f:=263) rfl rfl];simp only[go_sem,c263,By.enc,NL.enc]
 have b:=WF (E:=rE) (f:=341) (sz:=5) (n:=some 5) (enc:=By.enc) (p:=λx=>Z3 x.Id id) (g:=263) (cap:=[.iptr false [.str id]]) rfl rfl rfl s.Gm (by have:=a.streets;omega) (λx _=>x.el) (λx _=>c x) false false
 have d:pfn rE 262 [Iy 5<|s.Gm.map By.enc,.clo (.func 263) [] [.iptr false [.str id]]]=some (I<|ZL s id):=by
  rw[Z5 (f:=262) rfl rfl];simp only[go_sem,c262,b];rfl
 rw[Z5 (f:=151) rfl rfl];simp only[go_sem,c151,d]
def Hb(s:Sta)(a:StS s)(id:Str):pfn rE 158 [stA s,.str id]=some (I<|Y1 s id):=by
 have c:∀x:Ev,pfn rE 266 [x.enc,.iptr false [.str id]]=some (.bool<|Z3 x.Id id):=λx=>by
  rw[Z5 (f:=266) rfl rfl];simp only[go_sem,c266,Ev.enc,NL.enc]
 have b:=WF (E:=rE) (f:=342) (sz:=4) (n:=some 4) (enc:=Ev.enc) (p:=λx=>Z3 x.Id id) (g:=266) (cap:=[.iptr false [.str id]]) rfl rfl rfl s.Bt (by have:=a.buildings;omega) (λx _=>x.el) (λx _=>c x) false false
 have d:pfn rE 265 [Iy 4<|s.Bt.map Ev.enc,.clo (.func 266) [] [.iptr false [.str id]]]=some (I<|Y1 s id):=by
  rw[Z5 (f:=265) rfl rfl];simp only[go_sem,c265,b];rfl
 rw[Z5 (f:=158) rfl rfl];simp only[go_sem,c158,d]
def find_ok(s:Sta)(a:StS s)(id:Str):pfn rE 22 [stA s,.str id]=some (I<|Zn s id):=by
 have c:∀x:Ga,pfn rE 50 [x.enc,.iptr false [.str id]]=some (.bool<|Z3 x.Id id):=λx=>by
  rw[Z5 (f:=50) rfl rfl];simp only[go_sem,c50,Ga.enc,NL.enc]
 have b:=WF (E:=rE) (f:=102) (sz:=16) (n:=some 16) (enc:=Ga.enc) (p:=λx=>Z3 x.Id id) (g:=50) (cap:=[.iptr false [.str id]]) rfl rfl rfl s.Bc (by have:=a.doors;omega) (λx _=>x.el) (λx _=>c x) false false
 have d:pfn rE 49 [Iy 16<|s.Bc.map Ga.enc,.clo (.func 50) [] [.iptr false [.str id]]]=some (I<|Zn s id):=by
  rw[Z5 (f:=49) rfl rfl];simp only[go_sem,c49,b];rfl
 rw[Z5 (f:=22) rfl rfl];simp only[go_sem,c22,d]
def Z2Q(s:Sta)(a:StS s)(id:Str):pfn rE 173 [stA s,.str id]=some (I<|Wf s id):=by
 have c:∀x:be,pfn rE 274 [x.enc,.iptr false [.str id]]=some (.bool<|Z3 x.Id id):=λx=>by
  rw[Z5 (f:=274) rfl rfl];simp only[go_sem,c274,be.enc]
 have b:=WF (E:=rE) (f:=343) (sz:=6) (n:=some 6) (enc:=be.enc) (p:=λx=>Z3 x.Id id) (g:=274) (cap:=[.iptr false [.str id]]) rfl rfl rfl s.Nk (by have:=a.units;omega) (λx _=>x.el) (λx _=>c x) false false
 have d:pfn rE 273 [Iy 6<|s.Nk.map be.enc,.clo (.func 274) [] [.iptr false [.str id]]]=some (I<|Wf s id):=by
  rw[Z5 (f:=273) rfl rfl];simp only[go_sem,c273,b];rfl
 rw[Z5 (f:=173) rfl rfl];simp only[go_sem,c173,d]
def XJ(s:Sta)(a:Int):Int:=match s.Gc.find? (λp=>p.b==a)with
 |some p=>p.a
 |none=>-1
def UA{a:Type}(P:a->Bool):∀(l:List a)(i:Int),(Zp P l i=-1/\l.find? P=none)\/∃(j:Nat)(x:a),Zp P l i=i+j/\l[j]?=some x/\l.find? P=some x
 |[],i=>Or.inl ⟨rfl,rfl⟩
 |y::r,i=>by
  cases h:P y with
  |true=>right;exact⟨0,y,by simp[Zp,h],by simp,by simp[h]⟩
  |false=>
   rcases UA P r (i+1)with⟨h1,h2⟩|⟨j,x,h1,h2,h3⟩
   .left;exact⟨by simp[Zp,h,h1],by simp[h,h2]⟩
   .right;refine⟨j+1,x,?_,by simpa using h2,by simp[h,h3]⟩
    simp only[Zp,h,cond_false,h1];omega
def NJ(s:Sta)(m:StS s)(a:Int):pfn rE 176 [stA s,I a]=some (I<|XJ s a):=by
 have r:∀x:bf,pfn rE 277 [x.enc,.iptr false [I a]]=some (.bool<|x.b==a):=λx=>by
  have c:(0<=(1:Int)/\(1:Int)<((2:Nat):Int))=True:=by simp
  have l:((1:Int)).toNat=1:=rfl;rw[Z5 (f:=277) rfl rfl];simp only[go_sem,c277,bf.enc,c,l,if_true,ZTg]
 have o:=WF (E:=rE) (f:=344) (sz:=2) (n:=some 2) (enc:=bf.enc) (p:=λx=>x.b==a) (g:=277) (cap:=[.iptr false [I a]]) rfl rfl rfl s.Gc (by have:=m.merged;omega) (λx _=>x.el) (λx _=>r x) false false
 have d:pfn rE 276 [Iy 2<|s.Gc.map bf.enc,.clo (.func 277) [] [.iptr false [I a]]]=some (I<|Zp (λx:bf=>x.b==a) s.Gc 0):=by
  rw[Z5 (f:=276) rfl rfl];simp only[go_sem,c276,o]
 rw[Z5 (f:=176) rfl rfl];unfold XJ;rcases UA (λx:bf=>x.b==a) s.Gc 0 with⟨h,i⟩|⟨j,x,h,i,h5⟩
 .rw[i];rw[h]at d;have k:decide ((-1:Int)>=0)=false:=rfl;simp only[go_sem,c176,d,k]
 .rw[h5];have e:(0:Int)+(j:Int)=(j:Int):=by omega
  rw[h,e]at d;have k:decide ((j:Int)>=0)=true:=decide_eq_true<|by omega
  have q:=Z6 (f:=bf.enc) i;have c:(0<=(0:Int)/\(0:Int)<((2:Nat):Int))=True:=by simp
  have l:((0:Int)).toNat=0:=rfl;simp only[go_sem,c176,d,k,q,bf.enc,c,l,if_true,ZU8]
def Qp(s:Sta):List Str:=s.Fa.map (·.Id)++(s.Gm.map (·.Id)++(s.Bt.map (·.Id)++(s.Bc.map (·.Id)++s.Nk.map (·.Id))))
def Z2R(v:AV)(s:∀n,bel n v=true)(K:List Str)(l:List Gk)(z:l.length<=1000)(y:K.length<=10000):∃fr',Zg rE [1,3,15,16,17] c94L0b [(1,v),(3,.sl 0 K.length 0 K.length false),(15,Iy 6<|l.map Gk.enc),(16,I l.length),(17,.int .i64 0)] [.row 1<|K.map encS] =
 some (.exit 0,fr',[.row 1 ((K++l.map (·.Id)).map encS)])/\get fr' 1=v/\get fr' 3=.sl 0 (K.length+l.length) 0 (K.length+l.length) false:=by
 have c:∀n(K:List Str),Zd n (K.map encS)=true:=λn K=>ZN _<|Zw (λt=>rfl) K
 have L:=Y8 (E:=rE) (live:=[1,3,15,16,17]) (b:=c94L0b) l.length (λi=>[(1,v),(3,.sl 0 (K.length+i) 0 (K.length+i) false),(15,Iy 6<|l.map Gk.enc),(16,I l.length),(17,I i)])
  (λi=>[.row 1 ((K++(l.take i).map (·.Id)).map encS)]) (λi=>rfl)
  (λi k=>by
   obtain⟨x,a⟩:∃x,l[i]?=some x:=⟨_,ZSu k⟩;have r:=Z6 (f:=Gk.enc) a;have j:=Zh k;have u:=Zx (n:=i)<|by omega
   have o:=YW (λx:Gk=>x.Id) a
   have d:(K++(l.take i).map (·.Id)).length=K.length+i:=by rw[ZSJ,ZSs,take_len a]
   have m:(K++(l.take<|i+1).map (·.Id)).map encS=(K++(l.take i).map (·.Id)).map encS++[.str x.Id]:=by
    rw[o,<-ZSN,ZSF];rfl
   rw[m];generalize K++(l.take i).map (·.Id)=KS at d⊢;rw[<-d,<-ZTG,<-d];have p:=λq=>XC (h:=[.row 1<|KS.map encS,q]) (fz:=false) (b:=0) (g:=KS.length) (sz:=1) (es:=KS.map encS) (bw:=false) (ex:=false) (ys:=[.str x.Id]) (bytes:=16) (by simp[rowAt]) rfl (by rfl) (by omega) (by omega) (by simp;omega)
   refine⟨_,by simp only[go_sem,c94L0b,r,j,u,Gk.enc,NL.enc,p,beq_self_eq_true,c,s];rfl,?_⟩
   simp only[go_sem])
  (e:=.exit 0) (by simp only[go_sem,c94L0b,ZG,ZSZ];rfl) (by simp)
 have w:K++(l.take 0).map (λx:Gk=>x.Id)=K:=by simp
 rw[w]at L;refine⟨_,L,?_,?_⟩<;>simp only[go_sem]
def Z2S(v:AV)(s:∀n,bel n v=true)(K:List Str)(l:List By)(z:l.length<=1000)(y:K.length<=10000):∃fr',Zg rE [1,3,28,29,30] c94L1b [(1,v),(3,.sl 0 K.length 0 K.length false),(28,Iy 5<|l.map By.enc),(29,I l.length),(30,.int .i64 0)] [.row 1<|K.map encS] =
 some (.exit 2,fr',[.row 1 ((K++l.map (·.Id)).map encS)])/\get fr' 1=v/\get fr' 3=.sl 0 (K.length+l.length) 0 (K.length+l.length) false:=by
 have c:∀n(K:List Str),Zd n (K.map encS)=true:=λn K=>ZN _<|Zw (λt=>rfl) K
 have L:=Y8 (E:=rE) (live:=[1,3,28,29,30]) (b:=c94L1b) l.length (λi=>[(1,v),(3,.sl 0 (K.length+i) 0 (K.length+i) false),(28,Iy 5<|l.map By.enc),(29,I l.length),(30,I i)])
  (λi=>[.row 1 ((K++(l.take i).map (·.Id)).map encS)]) (λi=>rfl)
  (λi k=>by
   obtain⟨x,a⟩:∃x,l[i]?=some x:=⟨_,ZSu k⟩;have r:=Z6 (f:=By.enc) a;have j:=Zh k;have u:=Zx (n:=i)<|by omega
   have o:=YW (λx:By=>x.Id) a
   have d:(K++(l.take i).map (·.Id)).length=K.length+i:=by rw[ZSJ,ZSs,take_len a]
   have m:(K++(l.take<|i+1).map (·.Id)).map encS=(K++(l.take i).map (·.Id)).map encS++[.str x.Id]:=by
    rw[o,<-ZSN,ZSF];rfl
   rw[m];generalize K++(l.take i).map (·.Id)=KS at d⊢;rw[<-d,<-ZTG,<-d];have p:=λq=>XC (h:=[.row 1<|KS.map encS,q]) (fz:=false) (b:=0) (g:=KS.length) (sz:=1) (es:=KS.map encS) (bw:=false) (ex:=false) (ys:=[.str x.Id]) (bytes:=16) (by simp[rowAt]) rfl (by rfl) (by omega) (by omega) (by simp;omega)
   refine⟨_,by simp only[go_sem,c94L1b,r,j,u,By.enc,NL.enc,p,beq_self_eq_true,c,s];rfl,?_⟩
   simp only[go_sem])
  (e:=.exit 2) (by simp only[go_sem,c94L1b,ZG,ZSZ];rfl) (by simp)
 have w:K++(l.take 0).map (λx:By=>x.Id)=K:=by simp
 rw[w]at L;refine⟨_,L,?_,?_⟩<;>simp only[go_sem]
def Z2T(v:AV)(s:∀n,bel n v=true)(K:List Str)(l:List Ev)(z:l.length<=1000)(y:K.length<=10000):∃fr',Zg rE [1,3,41,42,43] c94L2b [(1,v),(3,.sl 0 K.length 0 K.length false),(41,Iy 4<|l.map Ev.enc),(42,I l.length),(43,.int .i64 0)] [.row 1<|K.map encS] =
 some (.exit 4,fr',[.row 1 ((K++l.map (·.Id)).map encS)])/\get fr' 1=v/\get fr' 3=.sl 0 (K.length+l.length) 0 (K.length+l.length) false:=by
 have c:∀n(K:List Str),Zd n (K.map encS)=true:=λn K=>ZN _<|Zw (λt=>rfl) K
 have L:=Y8 (E:=rE) (live:=[1,3,41,42,43]) (b:=c94L2b) l.length (λi=>[(1,v),(3,.sl 0 (K.length+i) 0 (K.length+i) false),(41,Iy 4<|l.map Ev.enc),(42,I l.length),(43,I i)])
  (λi=>[.row 1 ((K++(l.take i).map (·.Id)).map encS)]) (λi=>rfl)
  (λi k=>by
   obtain⟨x,a⟩:∃x,l[i]?=some x:=⟨_,ZSu k⟩;have r:=Z6 (f:=Ev.enc) a;have j:=Zh k;have u:=Zx (n:=i)<|by omega
   have o:=YW (λx:Ev=>x.Id) a
   have d:(K++(l.take i).map (·.Id)).length=K.length+i:=by rw[ZSJ,ZSs,take_len a]
   have m:(K++(l.take<|i+1).map (·.Id)).map encS=(K++(l.take i).map (·.Id)).map encS++[.str x.Id]:=by
    rw[o,<-ZSN,ZSF];rfl
   rw[m];generalize K++(l.take i).map (·.Id)=KS at d⊢;rw[<-d,<-ZTG,<-d];have p:=λq=>XC (h:=[.row 1<|KS.map encS,q]) (fz:=false) (b:=0) (g:=KS.length) (sz:=1) (es:=KS.map encS) (bw:=false) (ex:=false) (ys:=[.str x.Id]) (bytes:=16) (by simp[rowAt]) rfl (by rfl) (by omega) (by omega) (by simp;omega)
   refine⟨_,by simp only[go_sem,c94L2b,r,j,u,Ev.enc,NL.enc,p,beq_self_eq_true,c,s];rfl,?_⟩
   simp only[go_sem])
  (e:=.exit 4) (by simp only[go_sem,c94L2b,ZG,ZSZ];rfl) (by simp)
 have w:K++(l.take 0).map (λx:Ev=>x.Id)=K:=by simp
 rw[w]at L;refine⟨_,L,?_,?_⟩<;>simp only[go_sem]
def Z2U(v:AV)(s:∀n,bel n v=true)(K:List Str)(l:List Ga)(z:l.length<=1000)(y:K.length<=10000):∃fr',Zg rE [1,3,54,55,56] c94L3b [(1,v),(3,.sl 0 K.length 0 K.length false),(54,Iy 16<|l.map Ga.enc),(55,I l.length),(56,.int .i64 0)] [.row 1<|K.map encS] =
 some (.exit 6,fr',[.row 1 ((K++l.map (·.Id)).map encS)])/\get fr' 1=v/\get fr' 3=.sl 0 (K.length+l.length) 0 (K.length+l.length) false:=by
 have c:∀n(K:List Str),Zd n (K.map encS)=true:=λn K=>ZN _<|Zw (λt=>rfl) K
 have L:=Y8 (E:=rE) (live:=[1,3,54,55,56]) (b:=c94L3b) l.length (λi=>[(1,v),(3,.sl 0 (K.length+i) 0 (K.length+i) false),(54,Iy 16<|l.map Ga.enc),(55,I l.length),(56,I i)])
  (λi=>[.row 1 ((K++(l.take i).map (·.Id)).map encS)]) (λi=>rfl)
  (λi k=>by
   obtain⟨x,a⟩:∃x,l[i]?=some x:=⟨_,ZSu k⟩;have r:=Z6 (f:=Ga.enc) a;have j:=Zh k;have u:=Zx (n:=i)<|by omega
   have o:=YW (λx:Ga=>x.Id) a
   have d:(K++(l.take i).map (·.Id)).length=K.length+i:=by rw[ZSJ,ZSs,take_len a]
   have m:(K++(l.take<|i+1).map (·.Id)).map encS=(K++(l.take i).map (·.Id)).map encS++[.str x.Id]:=by
    rw[o,<-ZSN,ZSF];rfl
   rw[m];generalize K++(l.take i).map (·.Id)=KS at d⊢;rw[<-d,<-ZTG,<-d];have p:=λq=>XC (h:=[.row 1<|KS.map encS,q]) (fz:=false) (b:=0) (g:=KS.length) (sz:=1) (es:=KS.map encS) (bw:=false) (ex:=false) (ys:=[.str x.Id]) (bytes:=16) (by simp[rowAt]) rfl (by rfl) (by omega) (by omega) (by simp;omega)
   refine⟨_,by simp only[go_sem,c94L3b,r,j,u,Ga.enc,NL.enc,p,beq_self_eq_true,c,s];rfl,?_⟩
   simp only[go_sem])
  (e:=.exit 6) (by simp only[go_sem,c94L3b,ZG,ZSZ];rfl) (by simp)
 have w:K++(l.take 0).map (λx:Ga=>x.Id)=K:=by simp
 rw[w]at L;refine⟨_,L,?_,?_⟩<;>simp only[go_sem]
def Z2V(v:AV)(z:∀n,bel n v=true)(K:List Str)(l:List be)(y:l.length<=1000)(w:K.length<=10000):∃fr',Zg rE [3,67,68,69] c94L4b [(3,.sl 0 K.length 0 K.length false),(67,Iy 6<|l.map be.enc),(68,I l.length),(69,.int .i64 0)] [.row 1<|K.map encS] =
 some (.exit 8,fr',[.row 1 ((K++l.map (·.Id)).map encS)])/\get fr' 3=.sl 0 (K.length+l.length) 0 (K.length+l.length) false:=by
 have c:∀n(K:List Str),Zd n (K.map encS)=true:=λn K=>ZN _<|Zw (λt=>rfl) K
 have L:=Y8 (E:=rE) (live:=[3,67,68,69]) (b:=c94L4b) l.length (λi=>[(3,.sl 0 (K.length+i) 0 (K.length+i) false),(67,Iy 6<|l.map be.enc),(68,I l.length),(69,I i)])
  (λi=>[.row 1 ((K++(l.take i).map (·.Id)).map encS)]) (λi=>rfl)
  (λi k=>by
   obtain⟨x,a⟩:∃x,l[i]?=some x:=⟨_,ZSu k⟩;have r:=Z6 (f:=be.enc) a;have j:=Zh k;have s:=Zx (n:=i)<|by omega
   have o:=YW (λx:be=>x.Id) a
   have d:(K++(l.take i).map (·.Id)).length=K.length+i:=by rw[ZSJ,ZSs,take_len a]
   have m:(K++(l.take<|i+1).map (·.Id)).map encS=(K++(l.take i).map (·.Id)).map encS++[.str x.Id]:=by
    rw[o,<-ZSN,ZSF];rfl
   rw[m];generalize K++(l.take i).map (·.Id)=KS at d⊢;rw[<-d,<-ZTG,<-d];have p:=λq=>XC (h:=[.row 1<|KS.map encS,q]) (fz:=false) (b:=0) (g:=KS.length) (sz:=1) (es:=KS.map encS) (bw:=false) (ex:=false) (ys:=[.str x.Id]) (bytes:=16) (by simp[rowAt]) rfl (by rfl) (by omega) (by omega) (by simp;omega)
   refine⟨_,by simp only[go_sem,c94L4b,r,j,s,be.enc,p,beq_self_eq_true,c];rfl,?_⟩
   simp only[go_sem])
  (e:=.exit 8) (by simp only[go_sem,c94L4b,ZG,ZSZ];rfl) (by simp)
 have u:K++(l.take 0).map (λx:be=>x.Id)=K:=by simp
 rw[u]at L;refine⟨_,L,?_⟩<;>simp only[go_sem]
def Fd(s:Sta)(c:StS s):pfn rE 94 [stA s]=some (Iy 1<|(Qp s).map encS):=by
 have b:∀K:List Str,Z4 (K.map encS)=true:=λK=>Zw (λt=>rfl) K
 have g:∀n(K:List Str),Zd n (K.map encS)=true:=λn K=>ZN _<|b K
 have z:=c.regions;have y:=c.streets;have r:=c.buildings;have A:=c.doors;have w:=c.units;have a:∀n,bel n (.iptr false [Iy 6<|s.Fa.map Gk.enc,Iy 5<|s.Gm.map By.enc,Iy 4<|s.Bt.map Ev.enc,Iy 16<|s.Bc.map Ga.enc,Iy 6<|s.Nk.map be.enc,Iy 2<|s.Gc.map bf.enc,Iy 2<|s.ba.map bf.enc])=true:=λn=>rfl
 have⟨F,l,C,k⟩:=Z2R _ a [] s.Fa z<|by simp
 have⟨J,o,v,p⟩:=Z2S _ a (s.Fa.map (·.Id)) s.Gm y<|by simp;omega
 have⟨G,i,x,m⟩:=Z2T _ a (s.Fa.map (·.Id)++s.Gm.map (·.Id)) s.Bt r<|by simp;omega
 have⟨E,j,D,q⟩:=Z2U _ a ((s.Fa.map (·.Id)++s.Gm.map (·.Id))++s.Bt.map (·.Id)) s.Bc A<|by simp;omega
 have⟨H,d,h⟩:=Z2V .bot (λn=>rfl) (((s.Fa.map (·.Id)++s.Gm.map (·.Id))++s.Bt.map (·.Id))++s.Bc.map (·.Id)) s.Nk w<|by simp;omega
 have e:((((s.Fa.map (·.Id)++s.Gm.map (·.Id))++s.Bt.map (·.Id))++s.Bc.map (·.Id))++s.Nk.map (·.Id))=Qp s:=by simp[Qp,ZSN]
 rw[e]at d;have u:∀K:List Str,List.take K.length (K.map encS)=K.map encS:=λK=>ZSR<|by simp
 have B:(((s.Fa.map (·.Id)++s.Gm.map (·.Id))++s.Bt.map (·.Id))++s.Bc.map (·.Id)).length+s.Nk.length=(Qp s).length:=by rw[<-e];simp;omega
 rw[B]at h;rw[Z5 (f:=94) rfl rfl];simp only[ZSs,ZSJ,ZSz,ZT1,ZSE,ZSS]at l k o p i m j q d h;simp only[go_sem,c94,c94L0,c94L1,c94L2,c94L3,c94L4,l,C,k,o,v,p,i,x,m,j,D,q,d,h,g,b,beq_self_eq_true,u]
def QM(a b c:Int):Bool:=ZD a 0 63&&(ZD b (-1) 100000&&ZD c 0 100000)
def Qc(a b c:Int):pfn rE 78 [I a,I b,I c]=some (.bool<|QM a b c):=by
 rw[Z5 (f:=78) rfl rfl];unfold QM;cases d:ZD a 0 63<;>cases e:ZD b (-1) 100000<;>simp only[go_sem,c78,DY,d,e]
def Wg(k:Int)(e:Gt)(a:EvS e):pfn rE 140 [I k,evA e]=some (.bool<|Q9 {e with br:=k}):=by
 have h:=NH {e with br:=k} ⟨a.ids,a.names,a.path,a.lst,a.id,a.other,a.text⟩
 rw[Z5 (f:=140) rfl rfl];simp only[go_sem,c140,h]
def Jo(l:List Nm)(ex:Bool):Gt:=⟨3,0,0,0,0,B [120],emp,emp,⟨false,[]⟩,⟨ex,l⟩,⟨0,emp,0,0⟩,⟨0,0⟩,⟨false,[]⟩,⟨false,[]⟩⟩
def Jp(l:List Nm)(ex:Bool):Bool:=(l.length:Int)==0||Q9 (Jo l ex)
def Hc(l:List Nm)(ex:Bool)(a:l.length<=100):pfn rE 139 [.isl false ex 3<|l.map Nm.enc]=some (.bool<|Jp l ex):=by
 have h:=NH (Jo l ex) ⟨by simp[Jo],a,by simp[Jo],by simp[Jo],ZT0 rfl,ZT0 rfl,ZT0 rfl⟩
 have h':pfn rE 71 [.agg [I 3,I 0,I 0,I 0,I 0,.str<|B [120],.str emp,.str emp,Iy 1 [],.isl false ex 3<|l.map Nm.enc,I 0,.str emp,I 0,I 0,I 0,I 0,Iy 2 [],Iy 7 []]]=some (.bool<|Q9<|Jo l ex):=h;rw[Z5 (f:=139) rfl rfl];unfold Jp;cases c:(l.length:Int)==0<;>simp only[go_sem,c139,c,h']
def Jq(l:List Str):Bool:=(((Ys<|Yk<|l.map encS).length:Nat):Int)==(l.length:Int)
def Fe(x:AV):∀l,(Vb x l).length=l.length+1
 |[]=>rfl
 |y::r=>by unfold Vb;cases GP x y<;>simp[Fe x r]
def Ff:∀l,(Yk l).length=l.length
 |[]=>rfl
 |x::r=>by unfold Yk;rw[Fe,Ff r,ZSG]
def Fg(p:AV->Bool)(x:AV):∀l,(Vb x l).all p=(p x&&l.all p)
 |[]=>rfl
 |y::r=>by
  unfold Vb;cases GP x y with
  |true=>rfl
  |false=>
   rw[cond_false,ZTE,Fg p x r,ZTE];cases p x<;>cases p y<;>rfl
def Fh(p:AV->Bool):∀l,(Yk l).all p=l.all p
 |[]=>rfl
 |x::r=>by unfold Yk;rw[Fg,Fh p r,ZTE]
def Fi:∀m:List AV,(Ys m).length<=m.length
 |[]=>by simp[Ys]
 |a::r=>by
  have c:=Fi r;unfold Ys;cases h:Ys r with
  |nil=>simp
  |cons b t=>rw[h]at c;simp at c⊢;cases sameKey a b<;>simp<;>omega
def Fj(l:List Str)(ex:Bool)(c:l.length<=1000000):pfn rE 142 [.isl false ex 1<|l.map encS]=some (.bool<|Jq l):=by
 have a:Nat.ble l.length 1000000=true:=ZTn c;have d:(l.map encS).all (fits 1)=true:=by rw[ZU3,ZSw];intro x _;rfl
 have b:(l.map encS).all WB=true:=by rw[ZU3,ZSw];intro x _;rfl
 have j:fnV rE 246 [.isl false ex 1<|l.map encS] []=some (.sl 0 l.length 0 l.length false,[.row 1<|l.map encS]):=by
  rw[V8 (s:=J9) rfl];simp only[J9,Q2,Qq,d,ZSs,a,beq_self_eq_true,ZSU,ZSW,cond_true,ZSz,ZT1]
 have g:fnV rE 257 [.sl 0 l.length 0 l.length false] [.row 1<|l.map encS]=some (.tup [],[.row 1<|Yk<|l.map encS]):=by
  rw[V8 (s:=J7) rfl];simp only[J7,ZT6,ZSs,beq_self_eq_true,b,a,ZSW,cond_true,GM]
 have e:∃h',fnV rE 258 [.sl 0 l.length 0 l.length false] [.row 1<|Yk<|l.map encS]=some (.sl 0 l.length 0 (Ys<|Yk<|l.map encS).length false,[.row 1 h'])/\h'.length=l.length:=by
  rw[V8 (s:=J8) rfl];have h:(Yk<|l.map encS).length=l.length:=by rw[Ff,ZSs]
  have k:(Yk<|l.map encS).all WB=true:=by rw[Fh,b]
  have m:=Fi<|Yk<|l.map encS;simp only[J8,ZT6,h,beq_self_eq_true,k,a,ZSW,cond_true,GM];refine⟨_,rfl,?_⟩;simp;omega
 have⟨h',e,i⟩:=e;rw[Z5 (f:=142) rfl rfl];unfold Jq;simp only[go_sem,c142,j,g,e,i,beq_self_eq_true]
structure Adr where
 street:Str
 n:HN
def Adr.enc(a:Adr):AV:=.agg [.str a.street,I a.n.N,.str a.n.bn,I a.n.Num,I a.n.Den]
def XK(a b:Adr):Bool:=Z3 a.street b.street&&(a.n.N==b.n.N&&(Z3 a.n.bn b.n.bn&&(a.n.Num==b.n.Num&&a.n.Den==b.n.Den)))
def NK(x y:Adr):Zz true [2,1,2,1,1] x.enc y.enc=some (XK x y):=by simp only[go_sem,Adr.enc,XK]
def WI(d:Ga):Adr:=⟨d.By,d.An⟩
def Jr(d:Ga):Bool:=d.Ld != -1||!Z3 d.Veil emp
def Hd(K:List Adr)(d:Ga):List Adr:=bif Jr d then K else Qi XK K<|WI d
def Y9(l:List Ga)(i:Nat):List Adr:=(l.take i).foldl Hd []
def Wh(l:List Ga):Bool:=Zu (λi d=>Jr d||!(Y9 l i).any (XK<|WI d)) 0 l
def Fk(s:Sta)(D:StS s):pfn rE 95 [stA s]=some (.bool<|Wh s.Bc):=by
 have G:Z4 (s.Bc.map Ga.enc)=true:=Zw (λt=>rfl) _
 have e:∀n(K:List Adr),Zd n (K.map Adr.enc)=true:=λn K=>ZN _<|Zw (λt=>rfl) K
 have g:∀n k,Zd n (ZO k)=true:=λn k=>ZN _<|Ut k
 have L:=Jk (E:=rE) (live:=[3,9,10,11]) (b:=c95L0b) s.Bc (λi d=>Jr d||!(Y9 s.Bc i).any (XK<|WI d))
  (λi=>[(3,.mp 0),(9,Iy 16<|s.Bc.map Ga.enc),(10,I s.Bc.length),(11,I i)])
  (λi=>[.map ((Y9 s.Bc i).map Adr.enc)<|ZO (Y9 s.Bc i).length]) 0 (λfr h=>get fr 2=.bot) (λfr h=>get fr 2=.bool false) (λi=>rfl)
  (λi x l p=>by
   have w:=Z6 (f:=Ga.enc) l;have v:=Zh<|Z7 l;have A:=Zx (n:=i) (by have:=Z7 l;have:=D.doors;omega)
   have F:Y9 s.Bc (i+1)=Hd (Y9 s.Bc i) x:=Us Hd [] l;have C:=λy=>Ur (ag:=true) (kk:=[2,1,2,1,1]) (enc:=Adr.enc) (eq:=XK) NK (Y9 s.Bc i) (WI x) (h:=.map ((Y9 s.Bc i).map Adr.enc) (ZO (Y9 s.Bc i).length)::y) (b:=0) rfl
   have r:=λy=>H5 (ag:=true) (kk:=[2,1,2,1,1]) (enc:=Adr.enc) (eq:=XK) NK (Y9 s.Bc i) (WI x) (h:=.map ((Y9 s.Bc i).map Adr.enc) (ZO (Y9 s.Bc i).length)::y) (b:=0) rfl
   rw[F];generalize Y9 s.Bc i=K at C r p⊢;have B:∀a b,YK [.map (K.map Adr.enc)<|ZO K.length,a,b] true [2,1,2,1,1] (.mp 0) (.agg [.str x.By,I x.An.N,.str x.An.bn,I x.An.Num,I x.An.Den]) (.bool true)=_:=λa b=>C [a,b]
   have o:∀a b,W5 [.map (K.map Adr.enc)<|ZO K.length,a,b] true [2,1,2,1,1] false (.bool false) (.mp 0) (.agg [.str x.By,I x.An.N,.str x.An.bn,I x.An.Num,I x.An.Den])=_:=λa b=>r [a,b]
   unfold Hd;unfold Jr at p⊢;cases j:x.Ld != -1 with
   |true=>
    refine⟨_,by simp only[go_sem,c95L0b,w,v,A,Ga.enc,NL.enc,j,e,g];rfl,?_⟩
    simp only[go_sem]
   |false=>
   cases m:Z3 x.Veil emp with
   |false=>
    refine⟨_,by simp only[go_sem,c95L0b,w,v,A,Ga.enc,NL.enc,j,m,e,g];rfl,?_⟩
    simp only[go_sem]
   |true=>
    have q:K.any (XK<|WI x)=false:=by simpa[j,m]using p
    refine⟨_,by simp only[go_sem,c95L0b,w,v,A,Ga.enc,NL.enc,j,m,o,B,q,e,g];rfl,?_⟩
    simp only[go_sem])
  (λi x l p=>by
   have w:=Z6 (f:=Ga.enc) l;have v:=Zh<|Z7 l;have r:=λy=>H5 (ag:=true) (kk:=[2,1,2,1,1]) (enc:=Adr.enc) (eq:=XK) NK (Y9 s.Bc i) (WI x) (h:=.map ((Y9 s.Bc i).map Adr.enc) (ZO (Y9 s.Bc i).length)::y) (b:=0) rfl
   generalize Y9 s.Bc i=K at r p⊢;have o:∀a b,W5 [.map (K.map Adr.enc)<|ZO K.length,a,b] true [2,1,2,1,1] false (.bool false) (.mp 0) (.agg [.str x.By,I x.An.N,.str x.An.bn,I x.An.Num,I x.An.Den])=_:=λa b=>r [a,b]
   unfold Jr at p;have j:(x.Ld != -1)=false:=by cases h:x.Ld != -1<;>simp_all
   have m:Z3 x.Veil emp=true:=by cases h:Z3 x.Veil emp<;>simp_all
   have q:K.any (XK<|WI x)=true:=by simpa[j,m]using p
   refine⟨_,_,by simp only[go_sem,c95L0b,w,v,Ga.enc,NL.enc,j,m,o,q,e,g];rfl,?_⟩
   simp only[go_sem])
  (⟨_,_,by simp only[go_sem,c95L0b,ZG];rfl,by simp only[go_sem]⟩)
 have⟨fr',h',j,m,q⟩:=L;have c:Zg rE [3,9,10,11] c95L0b [(3,.mp 0),(9,Iy 16<|s.Bc.map Ga.enc),(10,I s.Bc.length),(11,.int .i64 0)] [.map [] []]=_:=j;rw[Z5 (f:=95) rfl rfl];have u:Zu (λi d=>Jr d||!(Y9 s.Bc i).any (XK<|WI d)) 0 s.Bc=Wh s.Bc:=rfl
 rw[u]at c q;cases z:Wh s.Bc with
 |true=>rw[z]at c;simp only[go_sem,c95,c95L0,c]
 |false=>rw[z]at c;simp only[go_sem,c95,c95L0,c,q z,ZSH]
end Go.AM
