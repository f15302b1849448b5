/- What the functions of the program compute, part 1, for WatchMatchesReference. No condition. -/
import Derived.Test.YtbnmnkpkjmoehabGreatDoorC3
import Derived.Lib.RuneCount
set_option linter.unusedVariables false
set_option linter.defProp false
set_option linter.unusedSimpArgs false
set_option linter.unusedSectionVars false
open Nat renaming reduceAdd → qq, reduceSub → qx, reduceMul → qz, reduceLT → qv, reduceLeDiff → qk, reduceBEq → qy
attribute [go_sem_proc] Nat.reduceBEq Nat.reduceAdd Nat.reduceSub Nat.reduceMul Nat.reduceLT Nat.reduceLeDiff reduceIte
namespace Go.AM
open Go
def Di(b:Bool):clean (.bool b)=true:=(rfl)
def Dj(k:IntKind)(n:Int):clean (.int k n)=true:=(rfl)
def Ic(s:ByteArray):clean (.str s)=true:=(rfl)
def Ig(cs:List AV):clean (.agg cs)=Z4 cs:=(rfl)
def Ih(cs:List AV):clean (.tup cs)=Z4 cs:=(rfl)
def Ii(bw ex:Bool)(sz:Nat)(es:List AV):clean (.isl bw ex sz es) = !bw:=(rfl)
def Ij(bw:Bool)(es:List AV):clean (.iptr bw es) = !bw:=(rfl)
def Il(fn:Fn)(a c:List AV):clean (.clo fn a c)=(Z4 a&&Z4 c):=(rfl)
def Im(b i off g:Nat):clean (.ptr b i off g)=false:=(rfl)
def Io(b g off len:Nat)(ex:Bool):clean (.sl b g off len ex)=false:=(rfl)
def Dk:Z4 []=true:=(rfl)
def N1(a:AV)(r:List AV):Z4 (a::r)=(clean a&&Z4 r):=(rfl)
def Iq(b:Bool):Zy (.bool b)=true:=(rfl)
def Ir(k:IntKind)(n:Int):Zy (.int k n)=true:=(rfl)
def It(s:ByteArray):Zy (.str s)=true:=(rfl)
def Iu(cs:List AV):Zy (.agg cs)=Zi cs:=(rfl)
def Iw(bw ex:Bool)(sz:Nat)(es:List AV):Zy (.isl bw ex sz es)=true:=(rfl)
def Ix(bw:Bool)(es:List AV):Zy (.iptr bw es)=true:=(rfl)
def Iz(fn:Fn)(a c:List AV):Zy (.clo fn a c)=(Zi a&&Zi c):=(rfl)
def IA:Zi []=true:=(rfl)
def IB(a:AV)(r:List AV):Zi (a::r)=(Zy a&&Zi r):=(rfl)
attribute [go_sem] Di Dj Ic Ig Ih Ii Ij Il Im Io Dk N1 Iq Ir It Iu Iw Ix Iz IA IB
def N3(c:AV)(r:List AV):takeC none (c::r)=some c:=rfl
def IC(n:Nat)(cs:List AV):takeC (some n) cs=bif Nat.ble n cs.length then some (.agg<|cs.take n)else none:=rfl
def ID(cs:List AV):(AV.agg cs).cells=cs:=rfl
def IE(b:Bool):(AV.bool b).cells=[.bool b]:=rfl
def IF(k:IntKind)(n:Int):(AV.int k n).cells=[.int k n]:=rfl
def IG(s:ByteArray):(AV.str s).cells=[.str s]:=rfl
def IH(bw ex:Bool)(sz:Nat)(es:List AV):(AV.isl bw ex sz es).cells=[.isl bw ex sz es]:=rfl
def II(b g off len:Nat)(ex:Bool):(AV.sl b g off len ex).cells=[.sl b g off len ex]:=rfl
def IL(fn:Fn)(a c:List AV):(AV.clo fn a c).cells=[.clo fn a c]:=rfl
attribute [go_sem] N3 IC ID IE IF IG IH II IL
attribute [go_sem] eq_self Bool.and_true Bool.true_and Bool.and_false Bool.false_and Bool.not_true Bool.not_false Bool.and_self
def XA{a b:List AV}:Z4 (a++b)=(Z4 a&&Z4 b):=by
 induction a with
 |nil=>simp[Z4]
 |cons x a ih=>simp[Z4,ih,ZXO]
def Zw{α:Type}{f:α->AV}(h:∀x,clean (f x)=true):∀l:List α,Z4 (l.map f)=true
 |[]=>rfl
 |x::l=>by simp[Z4,h,Zw h l]
def YM{n:Int}(h1:-9223372036854775808<=n)(h2:n<=9223372036854775807):IntKind.i64.wrap n=n:=by
 simp[IntKind.wrap,IntKind.signed,IntKind.bits];omega
def Zx{n:Nat}(h:n<9223372036854775807):IntKind.i64.wrap ((n:Int)+1)=((n+1:Nat):Int):=by
 rw[YM (by omega)<|by omega];rfl
def Dl{E:Env}{live:List Nat}{b:ACode}{fr fr2:Fr}{h:Hp}(e:Z2 live fr=Z2 live fr2):Zb E (.loop live b) fr h=Zb E (.loop live b) fr2 h:=by
 rw[GF,e,<-GF]
variable {E:Env}
def IQ{v:Option AV}{r:Zt}(he:Zl v=some r):r.2.2=none:=by
 unfold Zl at he;cases v with
 |none=>cases he
 |some v=>simp only[ZWN,Option.some.injEq]at he;rw[<-he]
def YV(h:Hp)(r:Zt):Prop:=Ya h r.2.2=true
def IR{h:Hp}{r:Zt}(hr:r.2.2=none):YV h r:=by unfold YV;rw[hr];rfl
def N4{h:Hp}{v:Option AV}{r:Zt}(he:Zl v=some r):YV h r:=IR<|IQ he
def Vc{h:Hp}{v:AV}{rs:List Nat}{b:Nat}{o:AObj}{r:Zt}(hb:b<=h.length)(he:some (v,rs,some (b,o))=some r):YV h r:=by
 cases he;exact ZXG hb
def VU{h:Hp}{v:AV}{rs:List Nat}{r:Zt}(he:some (v,rs,none)=some r):YV h r:=by
 cases he;rfl
def ZA0{h:Hp}{r:Zt}(hb:∀b o,r.2.2=some (b,o)->b<=h.length):YV h r:=by
 obtain⟨v,rs,wr⟩:=r;cases wr with
 |none=>rfl
 |some p=>exact ZXG<|hb p.1 p.2 rfl
def N5{h:Hp}{b:Nat}{o:AObj}(hb:h[b]?=some o):b<=h.length:=ZXx (ZWx.1 hb).1
def N6{h:Hp}{fz:Bool}{sz:Nat}{all:List AV}{rs:List Nat}{r:Zt}(he:Yp h.length fz sz all rs=some r):YV h r:=by
 unfold Yp at he;cases fz with
 |true=>
  cases hc:Z4 all with
  |true=>rw[hc]at he;exact VU he
  |false=>rw[hc]at he;cases he
 |false=>exact Vc (ZWs _) he
def IS{h:Hp}{fz:Bool}{sz bytes:Nat}{s x:AV}{r:Zt}(he:Qt h h.length fz sz bytes s x=some r):YV h r:=by
 unfold Qt at he;split at he
 .split at he
  .rename_i es ys _ _ _;cases hy:ys.isEmpty with
   |true=>rw[hy]at he;exact VU he
   |false=>
    rw[hy,cond_false]at he;split at he
    .exact N6 he
    .exact N6 he
    .exact N6 he
    .split at he
     .rename_i hb;simp only[cond]at he;split at he
      .exact Vc (N5 hb) he
      .cases he
     .cases he
    .cases he
  .cases he
 .cases he
def IT{h:Hp}{ag:Bool}{kk:List Nat}{b:Nat}{ks vs:List AV}{k v:AV}{r:Zt}(hb:b<=h.length)(he:Yo ag kk b ks vs k v=some r):YV h r:=by
 unfold Yo at he;split at he
 .exact Vc hb he
 .exact Vc hb he
 .cases he
def IU{h:Hp}{v:Option AV}{rs:List Nat}{r:Zt}(he:v.map (λv=>((v,rs,none):Zt))=some r):YV h r:=by
 cases v with
 |none=>cases he
 |some v=>exact VU he
def IV{h:Hp}{ag ok:Bool}{kk rs:List Nat}{z:AV}{ks vs:List AV}{k:AV}{r:Zt}(he:QW ag kk ok z rs ks vs k=some r):YV h r:=by
 unfold QW at he;split at he
 .exact VU he
 .rename_i i _ _;cases hv:vs[i]? with
  |none=>rw[hv]at he;cases he
  |some v=>rw[hv]at he;exact VU he
 .cases he
def IW{h:Hp}{x:AV}{r:Zt}(he:X1 h x=some r):YV h r:=by
 unfold X1 at he
 repeat' (split at he)
 all_goals try simp only[cond]at he
 all_goals (repeat' (split at he))
 all_goals first
  |exact N4 he
  |exact VU he
  |(cases he;done)
def ZA1{h:Hp}{b c:Nat}{x:AV}{r:Zt}(he:ZvH h b c x=some r):YV h r:=by
 unfold ZvH at he
 repeat' (split at he)
 all_goals try simp only[cond]at he
 all_goals (repeat' (split at he))
 all_goals first
  |(exact Vc (N5<|by assumption) he)
  |(cases he;done)
def IX{fr:Fr}{h:Hp}{op:AOp}{r:Zt}(he:Z8 E fr h h.length op=some r):YV h r:=by
 cases op<;>simp only[Z8]at he
 case app=>exact IS he
 case apr sz bytes s x=>
  cases hap:Qt h h.length false sz bytes (ev E fr s) (ev E fr x)with
  |none=>rw[hap]at he;cases he
  |some r0=>
   rw[hap]at he;exact ZA0<|Zzd (ZxP (ZWs _) hap) he
 case own=>exact Vc (ZWs _) he
 case mkm=>exact Vc (ZWs _) he
 all_goals first
  |exact N4 he
  |(repeat' (split at he)
    all_goals try simp only[cond]at he
    all_goals (repeat' (split at he))
    all_goals first
     |exact N4 he
     |exact VU he
     |exact Vc (ZWs _) he
     |(cases he;done)
     |(exact Vc (N5<|by assumption) he)
     |(exact IT (N5<|by assumption) he)
     |exact IU he
     |exact IV he
     |exact ZA1 he
     |exact IW he)
def Za(E:Env)(op:AOp)(fr:Fr)(h:Hp):DRec:=
 match op with
 | .call _ _ args=>⟨!Zi (evs E fr args),[],none,none⟩
 | .callv _ x args=>(match ev E fr x with| .clo (.func _) first cap=>⟨!Zi (first++evs E fr args++cap),[],none,none⟩|_=>⟨false,[],none,none⟩)
 |op=>QG E (Z2 op.slots fr) h op (match Z8 E (Z2 op.slots fr) h h.length op with|some r=>r.2.2|none=>none)
noncomputable def dk(E:Env)(d:Option Nat)(r:List AOper)(us:List<|List Nat)(ok:Bool)(fr:Fr)(recs:List DRec)(rec:DRec):Option (Fr×Hp)->Option (Fr×Hp)
 |some ((_,v)::_,h')=>bif ok then Zm E r us (ZB fr d v) h' (recs++[rec])else none
 |_=>none
def IY(d:Option Nat)(r:List AOper)(us:List<|List Nat)(fr:Fr)(recs:List DRec)(rec:DRec)(k:Nat)(v:AV)(fr':Fr)(h':Hp):dk E d r us true fr recs rec (some ((k,v)::fr',h'))=Zm E r us (ZB fr d v) h' (recs++[rec]):=rfl
def Qb{d:Option Nat}{op:AOp}{r:List AOper}{u:List Nat}{us:List (List Nat)}{fr:Fr}{h:Hp}{recs:List DRec}(hc:op.isCall=false):
 Zm E (⟨d,op,none⟩::r) (u::us) fr h recs=dk E d r us (Zv (Za E op fr h) recs u) fr recs (Za E op fr h) (Z9 E [⟨some 0,op,none⟩] (Z2 op.slots fr) h):=by
 rw[VS,LG hc,V9,GE hc];have hd:Za E op fr h=QG E (Z2 op.slots fr) h op (match Z8 E (Z2 op.slots fr) h h.length op with|some r=>r.2.2|none=>none):=by
  cases op<;>first|rfl|(simp[AOp.isCall]at hc)
 rw[hd];cases he:Z8 E (Z2 op.slots fr) h h.length op with
 |none=>rfl
 |some q=>
  simp only[ZM,KZ,GG,dk,okd];have hw:=IX he;unfold YV at hw;rw[hw,ZWv]
def IZ{d:Option Nat}{f:Nat}{args:List Arg}{r:List AOper}{u:List Nat}{us:List (List Nat)}{fr:Fr}{h:Hp}{recs:List DRec}:
 Zm E (⟨d,.call true f args,none⟩::r) (u::us) fr h recs=dk E d r us (Zv (Za E (.call true f args) fr h) recs u) fr recs (Za E (.call true f args) fr h) (Z9 E [⟨some 0,.call true f args,none⟩] fr h):=by
 rw[VS,S6,V9,RE,GD];simp only[Za,evs];cases Ql h (args.map<|ev E fr)with
 |none=>rfl
 |some aS=>
  simp only[ZM];cases pfn E f aS with
  |none=>rfl
  |some v=>
   simp only[ZM,KZ,GG,dk,okd,ZH,Ya,ZWv]
noncomputable def rkw(E:Env)(d:Option Nat)(r:List AOper)(u:List Nat)(us:List<|List Nat)(fr:Fr)(h:Hp)(recs:List DRec)(o:Option<|AV×DRec×Option (Nat×AObj)):Option (Fr×Hp):=thn o λp=>okd recs u h p.2.1 p.2.2<|Zm E r us (ZB fr d p.1) (ZH h p.2.2)<|recs++[p.2.1]
def ZL4{d:Option Nat}{f:Nat}{args:List Arg}{r:List AOper}{u:List Nat}{us:List (List Nat)}{fr:Fr}{h:Hp}{recs:List DRec}:
 Zm E (⟨d,.call false f args,none⟩::r) (u::us) fr h recs=rkw E d r u us fr h recs (rsD (E.rs f) h<|evs E fr args):=by
 rw[VS,ZIH];rfl
def O0{d:Option Nat}{x:Arg}{args:List Arg}{r:List AOper}{u:List Nat}{us:List (List Nat)}{fr:Fr}{h:Hp}{recs:List DRec}:
 Zm E (⟨d,.callv true x args,none⟩::r) (u::us) fr h recs=dk E d r us (Zv (Za E (.callv true x args) fr h) recs u) fr recs (Za E (.callv true x args) fr h) (Z9 E [⟨some 0,.callv true x args,none⟩] fr h):=by
 rw[VS,S7,V9,RF];simp only[Za,evs,dcv];generalize ev E fr x=fv;by_cases hv:∃g a c,fv=.clo (.func g) a c
 .obtain⟨g,a,c,rfl⟩:=hv;simp only;rw[RD,GD];cases Ql h (a++args.map (ev E fr)++c)with
  |none=>rfl
  |some aS=>
   simp only[ZM];cases pfn E g aS with
   |none=>rfl
   |some v=>simp only[ZM,KZ,GG,dk,okd,ZH,Ya,ZWv]
 .rw[LU (λg a c e=>hv ⟨g,a,c,e⟩)<|λ_ _=>rfl]
  split
  .next g a c=>exact absurd ⟨g,a,c,rfl⟩ hv
  .rfl
noncomputable def dg(E:Env)(d:Option Nat)(op:AOp)(r:List AOper)(u:List Nat)(us:List<|List Nat)(fr:Fr)(h:Hp)(recs:List DRec):Bool->AV->Option (Fr×Hp)
 |true,.bool true=>Zm E (⟨d,op,none⟩::r) (u::us) fr h recs
 |false,.bool false=>Zm E (⟨d,op,none⟩::r) (u::us) fr h recs
 |true,.bool false=>bif Zv ⟨false,[],none,none⟩ recs u then Zm E r us (ZB fr d<|.tup []) h (recs++[⟨false,[],none,none⟩])else none
 |false,.bool true=>bif Zv ⟨false,[],none,none⟩ recs u then Zm E r us (ZB fr d<|.tup []) h (recs++[⟨false,[],none,none⟩])else none
 |_,.tup []=>bif Zv ⟨false,[],none,none⟩ recs u then Zm E r us (ZB fr d<|.tup []) h (recs++[⟨false,[],none,none⟩])else none
 |_,_=>none
def O1(d:Option Nat)(op:AOp)(r:List AOper)(u:List Nat)(us:List<|List Nat)(fr:Fr)(h:Hp)(recs:List DRec):dg E d op r u us fr h recs true (.bool true)=Zm E (⟨d,op,none⟩::r) (u::us) fr h recs:=rfl
def O2(d:Option Nat)(op:AOp)(r:List AOper)(u:List Nat)(us:List<|List Nat)(fr:Fr)(h:Hp)(recs:List DRec):dg E d op r u us fr h recs false (.bool false)=Zm E (⟨d,op,none⟩::r) (u::us) fr h recs:=rfl
def O3(d:Option Nat)(op:AOp)(r:List AOper)(u:List Nat)(us:List<|List Nat)(fr:Fr)(h:Hp)(recs:List DRec):dg E d op r u us fr h recs true (.bool false)=bif Zv ⟨false,[],none,none⟩ recs u then Zm E r us (ZB fr d<|.tup []) h (recs++[⟨false,[],none,none⟩])else none:=rfl
def O4(d:Option Nat)(op:AOp)(r:List AOper)(u:List Nat)(us:List<|List Nat)(fr:Fr)(h:Hp)(recs:List DRec):dg E d op r u us fr h recs false (.bool true)=bif Zv ⟨false,[],none,none⟩ recs u then Zm E r us (ZB fr d<|.tup []) h (recs++[⟨false,[],none,none⟩])else none:=rfl
def Dm(d:Option Nat)(op:AOp)(r:List AOper)(u:List Nat)(us:List<|List Nat)(fr:Fr)(h:Hp)(recs:List DRec)(b:Bool):dg E d op r u us fr h recs b (.tup [])=bif Zv ⟨false,[],none,none⟩ recs u then Zm E r us (ZB fr d<|.tup []) h (recs++[⟨false,[],none,none⟩])else none:=by cases b<;>rfl
def O5{d:Option Nat}{op:AOp}{t:Nat}{b:Bool}{r:List AOper}{u:List Nat}{us:List (List Nat)}{fr:Fr}{h:Hp}{recs:List DRec}:
 Zm E (⟨d,op,some (t,b)⟩::r) (u::us) fr h recs=dg E d op r u us fr h recs b (get fr t):=by
 rw[VS,S5];generalize get fr t=g;have hu:(thn (some ((AV.tup []:AV),(⟨false,[],none,none⟩:DRec),(none:Option<|Nat×AObj))) λp=>okd recs u h p.2.1 p.2.2<|Zm E r us (ZB fr d p.1) (ZH h p.2.2)<|recs++[p.2.1]) =
  bif Zv ⟨false,[],none,none⟩ recs u then Zm E r us (ZB fr d<|.tup []) h (recs++[⟨false,[],none,none⟩])else none:=by
  simp only[ZM,okd,Ya,ZWv,ZH]
 cases g with
 |bool c=>
  cases b<;>cases c
  .exact VS.symm
  .exact hu
  .exact hu
  .exact VS.symm
 |tup vs=>
  cases vs with
  |nil=>rw[Dm];exact hu
  |cons v vs=>cases b<;>rfl
 |_=>cases b<;>rfl
noncomputable def dn(E:Env)(p2:List AOper):Option (Fr×Hp)->Option (AExit×Fr×Hp)
 |some (fr,h)=>nrm<|Z9 E p2 fr h
 |none=>none
def O6(p2:List AOper)(fr:Fr)(h:Hp):dn E p2 (some (fr,h))=nrm (Z9 E p2 fr h):=rfl
def O7{un:List (List Nat)}{p1 p2:List AOper}{fr:Fr}{h:Hp}:Zb E (.draw un p1 p2) fr h=dn E p2 (Zm E p1 un fr h []):=by
 rw[Si];cases Zm E p1 un fr h []<;>rfl
def O8(x:DRec)(recs:List DRec):Zv x recs []=true:=(rfl)
def okQ(x:DRec):Option DRec->Bool
 |some y=>Qy x y
 |none=>false
def O9(x:DRec)(recs:List DRec)(j:Nat)(u:List Nat):Zv x recs (j::u)=(okQ x recs[j]?&&Zv x recs u):=by
 simp only[Zv,okQ];cases recs[j]?<;>rfl
def Oa(x y:DRec):okQ x (some y)=Qy x y:=(rfl)
def Ob{d:Option Nat}{x:Arg}{r:List AOper}{u:List Nat}{us:List (List Nat)}{fr:Fr}{h:Hp}{recs:List DRec}:
 Zm E (⟨d,.mv x,none⟩::r) (u::us) fr h recs=bif Zv ⟨false,[],none,none⟩ recs u then Zm E r us (ZB fr d<|ev E fr x) h (recs++[⟨false,[],none,none⟩])else none:=by
 rw[VS,LG rfl];have he:ev E (Z2 (AOp.mv x).slots fr) x=ev E fr x:=by
  cases x<;>first|rfl|skip
  case t n=>simp[AOp.slots,Arg.slots,ev,Z2,get]
 simp only[Z8,he,Zl,ZWN,ZM,okd,Ya,ZWv,ZH];rfl
end Go.AM
namespace Go.AM
open Go
variable {E:Env}
def QD{op:AOp}{fr:Fr}{h:Hp}(hq:X3 op=true)(hc:op.isCall=false):Za E op fr h=⟨false,opT E (Z2 op.slots fr) op,none,none⟩:=by
 have hd:Za E op fr h=QG E (Z2 op.slots fr) h op (match Z8 E (Z2 op.slots fr) h h.length op with|some r=>r.2.2|none=>none):=by
  cases op<;>first|rfl|(simp[AOp.isCall]at hc)
 have hn:(match Z8 E (Z2 op.slots fr) h h.length op with|some r=>r.2.2|none=>none)=none:=by
  cases he:Z8 E (Z2 op.slots fr) h h.length op with
  |none=>rfl
  |some r=>obtain⟨v,rs,wr⟩:=r;exact Lm hq he
 rw[hd,hn];cases op<;>first|rfl|(simp[X3]at hq)
def bxr(h:Hp)(b:Bool):DRec:=bif b then⟨false,[],some h.length,none⟩else⟨false,[],none,none⟩
def Oc(h:Hp):bxr h true=⟨false,[],some h.length,none⟩:=rfl
def Od{sz:Nat}{x:Arg}{fr:Fr}{h:Hp}:Za E (.box sz x) fr h=bxr h (fits sz<|ev E (Z2 x.slots fr) x):=by
 simp only[Za,Z8,AOp.slots];cases fits sz (ev E (Z2 x.slots fr) x)<;>rfl
def str(a:AV):Option (AV×Hp)->DRec
 |some _=>⟨false,Zs a,(Zs a).head?,none⟩
 |none=>⟨false,Zs a,none,none⟩
def Oe(b i off g:Nat)(p:AV×Hp):str (.ptr b i off g) (some p)=⟨false,[b],some b,none⟩:=rfl
def Of{n:Nat}{a x:Arg}{fr:Fr}{h:Hp}:Za E (.store n a x) fr h=str (ev E (Z2 (a.slots++x.slots) fr) a) (stV h n (ev E (Z2 (a.slots++x.slots) fr) x)<|ev E (Z2 (a.slots++x.slots) fr) a):=by
 have hd:Za E (.store n a x) fr h=QG E (Z2 (a.slots++x.slots) fr) h (.store n a x) (match Z8 E (Z2 (a.slots++x.slots) fr) h h.length (.store n a x)with|some r=>r.2.2|none=>none):=rfl
 rw[hd];have h1:=@LR E none n a x [] (Z2 (a.slots++x.slots) fr) h;rw[V9,GE rfl]at h1;generalize Z2 (a.slots++x.slots) fr=f at h1⊢;have hr:∀wr,QG E f h (.store n a x) wr=⟨false,Zs<|ev E f a,wr.map (·.1),none⟩:=λwr=>rfl
 rw[hr];cases he:Z8 E f h h.length (.store n a x)with
 |none=>
  rw[he]at h1;cases hs:stV h n (ev E f x) (ev E f a)with
  |none=>rfl
  |some p=>obtain⟨v,h2⟩:=p;rw[hs]at h1;simp only[LA,LI,KZ,RH]at h1;cases h1
 |some r=>
  rw[he]at h1;cases hs:stV h n (ev E f x) (ev E f a)with
  |none=>rw[hs]at h1;simp only[ZM,KZ,RH,stw,LA]at h1;cases h1
  |some p=>
   obtain⟨v,rs,wr⟩:=r;simp only[Z8]at he;cases hv:ev E f a with
   |ptr b i off g=>
    rw[hv]at he;simp only at he;have:wr.map (·.1)=some b:=by
     repeat' (split at he)
     all_goals try simp only[cond]at he
     all_goals (repeat' (split at he))
     all_goals first|(cases he;done)|(cases he;rfl)
    simp only[str,Zs,List.head?_cons,this]
   |_=>rw[hv]at he;cases he
def wrB:Option Zt->Option Nat
 |some r=>r.2.2.map (·.1)
 |none=>none
def Og{fz:Bool}{sz bytes:Nat}{s x:Arg}{fr:Fr}{h:Hp}:Za E (.app fz sz bytes s x) fr h =
 ⟨false,Zs (ev E (Z2 (s.slots++x.slots) fr) s)++Zs (ev E (Z2 (s.slots++x.slots) fr) x),wrB<|Qt h h.length fz sz bytes (ev E (Z2 (s.slots++x.slots) fr) s)<|ev E (Z2 (s.slots++x.slots) fr) x,none⟩:=by
 simp only[Za,Z8,AOp.slots,QG,Wm,opT];cases Qt h h.length fz sz bytes (ev E (Z2 (s.slots++x.slots) fr) s) (ev E (Z2 (s.slots++x.slots) fr) x)<;>rfl
def Oh{fr:Fr}{h:Hp}:Za E .mkm fr h=⟨false,[],some h.length,none⟩:=rfl
def Oi{p:Bool}{f:Nat}{args:List Arg}{fr:Fr}{h:Hp}:Za E (.call p f args) fr h=⟨!Zi (evs E fr args),[],none,none⟩:=rfl
def cvr(args:List AV):AV->DRec
 | .clo (.func _) first cap=>⟨!Zi (first++args++cap),[],none,none⟩
 |_=>⟨false,[],none,none⟩
def Oj(args:List AV)(g:Nat)(first cap:List AV):cvr args (.clo (.func g) first cap)=⟨!Zi (first++args++cap),[],none,none⟩:=rfl
def Ok{p:Bool}{x:Arg}{args:List Arg}{fr:Fr}{h:Hp}:Za E (.callv p x args) fr h=cvr (evs E fr args) (ev E fr x):=by
 simp only[Za];generalize ev E fr x=v;cases v<;>first|rfl|(rename_i fn _ _;cases fn<;>rfl)
def Ol{ex:Bool}{sz:Nat}{z:AV}{n:Nat}{ps:List (Nat×Arg)}{fr:Fr}{h:Hp}:Za E (.bsl true ex sz z n ps) fr h=⟨false,[],none,none⟩:=(QD rfl rfl).trans rfl
def Om{c a b:Arg}{d:Option Nat}{r:List AOper}{u:List Nat}{us:List (List Nat)}{fr:Fr}{h:Hp}{recs:List DRec}:Zm E (⟨d,(.pick c a b),none⟩::r) (u::us) fr h recs=dk E d r us (Zv (Za E (.pick c a b) fr h) recs u) fr recs (Za E (.pick c a b) fr h) (Z9 E [⟨some 0,(.pick c a b),none⟩] (Z2 (AOp.slots<|.pick c a b) fr) h):=Qb rfl
def Oo{c a b:Arg}{fr:Fr}{h:Hp}:Za E (.pick c a b) fr h=⟨false,opT E (Z2 (AOp.slots<|.pick c a b) fr)<|.pick c a b,none,none⟩:=QD rfl rfl
def Oq{sz:Nat}{x:Arg}{d:Option Nat}{r:List AOper}{u:List Nat}{us:List (List Nat)}{fr:Fr}{h:Hp}{recs:List DRec}:Zm E (⟨d,(.box sz x),none⟩::r) (u::us) fr h recs=dk E d r us (Zv (Za E (.box sz x) fr h) recs u) fr recs (Za E (.box sz x) fr h) (Z9 E [⟨some 0,(.box sz x),none⟩] (Z2 (AOp.slots<|.box sz x) fr) h):=Qb rfl
def Ou{z:List AV}{ps:List (Nat×Nat×Arg)}{d:Option Nat}{r:List AOper}{u:List Nat}{us:List (List Nat)}{fr:Fr}{h:Hp}{recs:List DRec}:Zm E (⟨d,(.build z ps),none⟩::r) (u::us) fr h recs=dk E d r us (Zv (Za E (.build z ps) fr h) recs u) fr recs (Za E (.build z ps) fr h) (Z9 E [⟨some 0,(.build z ps),none⟩] (Z2 (AOp.slots<|.build z ps) fr) h):=Qb rfl
def Ov{z:List AV}{ps:List (Nat×Nat×Arg)}{fr:Fr}{h:Hp}:Za E (.build z ps) fr h=⟨false,opT E (Z2 (AOp.slots<|.build z ps) fr)<|.build z ps,none,none⟩:=QD rfl rfl
def Ow{fz ex:Bool}{sz:Nat}{z:AV}{n:Nat}{ps:List (Nat×Arg)}{d:Option Nat}{r:List AOper}{u:List Nat}{us:List (List Nat)}{fr:Fr}{h:Hp}{recs:List DRec}:Zm E (⟨d,(.bsl fz ex sz z n ps),none⟩::r) (u::us) fr h recs=dk E d r us (Zv (Za E (.bsl fz ex sz z n ps) fr h) recs u) fr recs (Za E (.bsl fz ex sz z n ps) fr h) (Z9 E [⟨some 0,(.bsl fz ex sz z n ps),none⟩] (Z2 (AOp.slots<|.bsl fz ex sz z n ps) fr) h):=Qb rfl
def Ox{n:Option Nat}{x:Arg}{d:Option Nat}{r:List AOper}{u:List Nat}{us:List (List Nat)}{fr:Fr}{h:Hp}{recs:List DRec}:Zm E (⟨d,(.load n x),none⟩::r) (u::us) fr h recs=dk E d r us (Zv (Za E (.load n x) fr h) recs u) fr recs (Za E (.load n x) fr h) (Z9 E [⟨some 0,(.load n x),none⟩] (Z2 (AOp.slots<|.load n x) fr) h):=Qb rfl
def Oy{n:Option Nat}{x:Arg}{fr:Fr}{h:Hp}:Za E (.load n x) fr h=⟨false,opT E (Z2 (AOp.slots<|.load n x) fr)<|.load n x,none,none⟩:=QD rfl rfl
def Oz{n:Nat}{a x:Arg}{d:Option Nat}{r:List AOper}{u:List Nat}{us:List (List Nat)}{fr:Fr}{h:Hp}{recs:List DRec}:Zm E (⟨d,(.store n a x),none⟩::r) (u::us) fr h recs=dk E d r us (Zv (Za E (.store n a x) fr h) recs u) fr recs (Za E (.store n a x) fr h) (Z9 E [⟨some 0,(.store n a x),none⟩] (Z2 (AOp.slots<|.store n a x) fr) h):=Qb rfl
def OA{x:Arg}{d:Option Nat}{r:List AOper}{u:List Nat}{us:List (List Nat)}{fr:Fr}{h:Hp}{recs:List DRec}:Zm E (⟨d,(.nilck x),none⟩::r) (u::us) fr h recs=dk E d r us (Zv (Za E (.nilck x) fr h) recs u) fr recs (Za E (.nilck x) fr h) (Z9 E [⟨some 0,(.nilck x),none⟩] (Z2 (AOp.slots<|.nilck x) fr) h):=Qb rfl
def OB{x:Arg}{fr:Fr}{h:Hp}:Za E (.nilck x) fr h=⟨false,opT E (Z2 (AOp.slots<|.nilck x) fr)<|.nilck x,none,none⟩:=QD rfl rfl
def OC{f:BinOp}{x y:Arg}{d:Option Nat}{r:List AOper}{u:List Nat}{us:List (List Nat)}{fr:Fr}{h:Hp}{recs:List DRec}:Zm E (⟨d,(.bin f x y),none⟩::r) (u::us) fr h recs=dk E d r us (Zv (Za E (.bin f x y) fr h) recs u) fr recs (Za E (.bin f x y) fr h) (Z9 E [⟨some 0,(.bin f x y),none⟩] (Z2 (AOp.slots<|.bin f x y) fr) h):=Qb rfl
def OD{f:BinOp}{x y:Arg}{fr:Fr}{h:Hp}:Za E (.bin f x y) fr h=⟨false,opT E (Z2 (AOp.slots<|.bin f x y) fr)<|.bin f x y,none,none⟩:=QD rfl rfl
def OG{f:UnOp}{x:Arg}{d:Option Nat}{r:List AOper}{u:List Nat}{us:List (List Nat)}{fr:Fr}{h:Hp}{recs:List DRec}:Zm E (⟨d,(.un f x),none⟩::r) (u::us) fr h recs=dk E d r us (Zv (Za E (.un f x) fr h) recs u) fr recs (Za E (.un f x) fr h) (Z9 E [⟨some 0,(.un f x),none⟩] (Z2 (AOp.slots<|.un f x) fr) h):=Qb rfl
def OH{f:UnOp}{x:Arg}{fr:Fr}{h:Hp}:Za E (.un f x) fr h=⟨false,opT E (Z2 (AOp.slots<|.un f x) fr)<|.un f x,none,none⟩:=QD rfl rfl
def OM{off:Nat}{x:Arg}{d:Option Nat}{r:List AOper}{u:List Nat}{us:List (List Nat)}{fr:Fr}{h:Hp}{recs:List DRec}:Zm E (⟨d,(.fadr off x),none⟩::r) (u::us) fr h recs=dk E d r us (Zv (Za E (.fadr off x) fr h) recs u) fr recs (Za E (.fadr off x) fr h) (Z9 E [⟨some 0,(.fadr off x),none⟩] (Z2 (AOp.slots<|.fadr off x) fr) h):=Qb rfl
def ON{off:Nat}{x:Arg}{fr:Fr}{h:Hp}:Za E (.fadr off x) fr h=⟨false,opT E (Z2 (AOp.slots<|.fadr off x) fr)<|.fadr off x,none,none⟩:=QD rfl rfl
def OO{sz:Nat}{x i:Arg}{d:Option Nat}{r:List AOper}{u:List Nat}{us:List (List Nat)}{fr:Fr}{h:Hp}{recs:List DRec}:Zm E (⟨d,(.iadr sz x i),none⟩::r) (u::us) fr h recs=dk E d r us (Zv (Za E (.iadr sz x i) fr h) recs u) fr recs (Za E (.iadr sz x i) fr h) (Z9 E [⟨some 0,(.iadr sz x i),none⟩] (Z2 (AOp.slots<|.iadr sz x i) fr) h):=Qb rfl
def OP{sz:Nat}{x i:Arg}{fr:Fr}{h:Hp}:Za E (.iadr sz x i) fr h=⟨false,opT E (Z2 (AOp.slots<|.iadr sz x i) fr)<|.iadr sz x i,none,none⟩:=QD rfl rfl
def OQ{sz n:Nat}{x i:Arg}{d:Option Nat}{r:List AOper}{u:List Nat}{us:List (List Nat)}{fr:Fr}{h:Hp}{recs:List DRec}:Zm E (⟨d,(.aadr sz n x i),none⟩::r) (u::us) fr h recs=dk E d r us (Zv (Za E (.aadr sz n x i) fr h) recs u) fr recs (Za E (.aadr sz n x i) fr h) (Z9 E [⟨some 0,(.aadr sz n x i),none⟩] (Z2 (AOp.slots<|.aadr sz n x i) fr) h):=Qb rfl
def OR{sz n:Nat}{x i:Arg}{fr:Fr}{h:Hp}:Za E (.aadr sz n x i) fr h=⟨false,opT E (Z2 (AOp.slots<|.aadr sz n x i) fr)<|.aadr sz n x i,none,none⟩:=QD rfl rfl
def OS{x i:Arg}{d:Option Nat}{r:List AOper}{u:List Nat}{us:List (List Nat)}{fr:Fr}{h:Hp}{recs:List DRec}:Zm E (⟨d,(.sidx x i),none⟩::r) (u::us) fr h recs=dk E d r us (Zv (Za E (.sidx x i) fr h) recs u) fr recs (Za E (.sidx x i) fr h) (Z9 E [⟨some 0,(.sidx x i),none⟩] (Z2 (AOp.slots<|.sidx x i) fr) h):=Qb rfl
def OT{x i:Arg}{fr:Fr}{h:Hp}:Za E (.sidx x i) fr h=⟨false,opT E (Z2 (AOp.slots<|.sidx x i) fr)<|.sidx x i,none,none⟩:=QD rfl rfl
def OU{n:Option Nat}{sz len:Nat}{x i:Arg}{d:Option Nat}{r:List AOper}{u:List Nat}{us:List (List Nat)}{fr:Fr}{h:Hp}{recs:List DRec}:Zm E (⟨d,(.aidx n sz len x i),none⟩::r) (u::us) fr h recs=dk E d r us (Zv (Za E (.aidx n sz len x i) fr h) recs u) fr recs (Za E (.aidx n sz len x i) fr h) (Z9 E [⟨some 0,(.aidx n sz len x i),none⟩] (Z2 (AOp.slots<|.aidx n sz len x i) fr) h):=Qb rfl
def OV{n:Option Nat}{sz len:Nat}{x i:Arg}{fr:Fr}{h:Hp}:Za E (.aidx n sz len x i) fr h=⟨false,opT E (Z2 (AOp.slots<|.aidx n sz len x i) fr)<|.aidx n sz len x i,none,none⟩:=QD rfl rfl
def OW{x:Arg}{i:Nat}{d:Option Nat}{r:List AOper}{u:List Nat}{us:List (List Nat)}{fr:Fr}{h:Hp}{recs:List DRec}:Zm E (⟨d,(.ext x i),none⟩::r) (u::us) fr h recs=dk E d r us (Zv (Za E (.ext x i) fr h) recs u) fr recs (Za E (.ext x i) fr h) (Z9 E [⟨some 0,(.ext x i),none⟩] (Z2 (AOp.slots<|.ext x i) fr) h):=Qb rfl
def OX{x:Arg}{i:Nat}{fr:Fr}{h:Hp}:Za E (.ext x i) fr h=⟨false,opT E (Z2 (AOp.slots<|.ext x i) fr)<|.ext x i,none,none⟩:=QD rfl rfl
def P0{d:Option Nat}{r:List AOper}{u:List Nat}{us:List (List Nat)}{fr:Fr}{h:Hp}{recs:List DRec}:Zm E (⟨d,.mkm,none⟩::r) (u::us) fr h recs=dk E d r us (Zv (Za E .mkm fr h) recs u) fr recs (Za E .mkm fr h) (Z9 E [⟨some 0,.mkm,none⟩] (Z2 (AOp.slots .mkm) fr) h):=Qb rfl
def P1{ag:Bool}{ks:List Nat}{m k v:Arg}{d:Option Nat}{r:List AOper}{u:List Nat}{us:List (List Nat)}{fr:Fr}{h:Hp}{recs:List DRec}:Zm E (⟨d,(.ins ag ks m k v),none⟩::r) (u::us) fr h recs=dk E d r us (Zv (Za E (.ins ag ks m k v) fr h) recs u) fr recs (Za E (.ins ag ks m k v) fr h) (Z9 E [⟨some 0,(.ins ag ks m k v),none⟩] (Z2 (AOp.slots<|.ins ag ks m k v) fr) h):=Qb rfl
def P9{k:Nat}{x:Arg}{d:Option Nat}{r:List AOper}{u:List Nat}{us:List (List Nat)}{fr:Fr}{h:Hp}{recs:List DRec}:Zm E (⟨d,(.len k x),none⟩::r) (u::us) fr h recs=dk E d r us (Zv (Za E (.len k x) fr h) recs u) fr recs (Za E (.len k x) fr h) (Z9 E [⟨some 0,(.len k x),none⟩] (Z2 (AOp.slots<|.len k x) fr) h):=Qb rfl
def Pa{k:Nat}{x:Arg}{fr:Fr}{h:Hp}:Za E (.len k x) fr h=⟨false,opT E (Z2 (AOp.slots<|.len k x) fr)<|.len k x,none,none⟩:=QD rfl rfl
def Pb{fz:Bool}{sz bytes:Nat}{s x:Arg}{d:Option Nat}{r:List AOper}{u:List Nat}{us:List (List Nat)}{fr:Fr}{h:Hp}{recs:List DRec}:Zm E (⟨d,(.app fz sz bytes s x),none⟩::r) (u::us) fr h recs=dk E d r us (Zv (Za E (.app fz sz bytes s x) fr h) recs u) fr recs (Za E (.app fz sz bytes s x) fr h) (Z9 E [⟨some 0,(.app fz sz bytes s x),none⟩] (Z2 (AOp.slots<|.app fz sz bytes s x) fr) h):=Qb rfl
attribute [go_sem] Om Oo Oq Ou Ov Ow Ox Oy Oz OA OB OC OD OG OH OM ON OO OP OQ OR OS OT OU OV OW OX P0 P1 P9 Pa Pb Od Of Og Oh Oi Ok Ol Oc Oe Oj Ob IZ O0 O5 O1 O2 O3 O4 Dm IY S8 O7 O6 O8 O9 Oa AOp.slots Arg.slots Xp opT Zs
end Go.AM
namespace Go.AM
open Go
variable {E:Env}
def rlO(h:Hp)(b g off len:Nat)(ex:Bool):Option (Nat×List AV)->Option (AV×Hp)
 |some (sz,es)=>bif Z4 es then some (.isl false ex sz<|(es.drop off).take len,setH h b .gone)else none
 |none=>none
def Pi(h:Hp)(b g off len:Nat)(ex:Bool)(sz:Nat)(es:List AV)(hc:Z4 es=true):rlO h b g off len ex (some (sz,es))=some (.isl false ex sz<|(es.drop off).take len,setH h b .gone):=by simp[rlO,hc]
def rlV(h:Hp):AV->Option (AV×Hp)
 | .sl b g off len ex=>rlO h b g off len ex<|rowAt h b g
 |v=>bif (Zs v).isEmpty then some (v,h)else none
def Pj(h:Hp)(bw ex:Bool)(sz:Nat)(es:List AV):rlV h (.isl bw ex sz es)=some (.isl bw ex sz es,h):=(rfl)
def Pl(h:Hp)(b g off len:Nat)(ex:Bool):rlV h (.sl b g off len ex)=rlO h b g off len ex (rowAt h b g):=(rfl)
def Pm{d:Option Nat}{x:Arg}{r:List AOper}{fr:Fr}{h:Hp}:Z9 E (⟨d,.rel x,none⟩::r) fr h=stw E r d fr (rlV h<|ev E fr x):=
 X9 rfl (by
  simp only[Z8];generalize ev E fr x=v;cases v<;>first|rfl|skip
  case sl b g off len ex=>
   simp only[rlV,rowAt,rlO];cases h[b]? with
   |none=>rfl
   |some o=>
    cases o<;>first|rfl|skip
    case row sz es=>
     dsimp only;cases hg:(es.length==g)
     .rfl
     .cases hc:Z4 es<;>simp[hc,ZH]<;>rfl)
attribute [go_sem] Pi Pj Pl Pm
mutual
def msz:AV->Nat
 | .agg cs=>1+QJ cs
 | .tup cs=>1+QJ cs
 | .clo _ a c=>1+QJ a+QJ c
 | .ifc _ v=>1+msz v
 |_=>1
def QJ:List AV->Nat
 |[]=>1
 |v::r=>1+msz v+QJ r
end
mutual
def Dn{h:Hp}:∀(n:Nat)(v:AV),Zy v=true->msz v<=n->freeze true h n v=some v
 |0,v,_,hm=>by cases v<;>simp[msz]at hm<;>omega
 |n+1,v,hn,hm=>by
  cases hc:clean v with
  |true=>unfold freeze;rw[hc];rfl
  |false=>
   unfold freeze;rw[hc,cond_false];cases v with
   |agg cs=>
    have:=Jb (h:=h) n cs hn<|by simp[msz]at hm;omega
    simp only[this,ZWN]
   |tup cs=>
    have:=Jb (h:=h) n cs hn<|by simp[msz]at hm;omega
    simp only[this,ZWN]
   |ifc t x=>
    have:=Dn (h:=h) n x hn<|by simp[msz]at hm;omega
    simp only[this,ZWN]
   |clo fn a c=>
    have hn':Zi a=true/\Zi c=true:=by simpa[Zy]using hn
    have h1:=Jb (h:=h) n a hn'.1<|by simp[msz]at hm;omega
    have h2:=Jb (h:=h) n c hn'.2<|by simp[msz]at hm;omega
    simp only[h1,h2]
   |iptr bw cs=>cases bw<;>first|rfl|(simp[clean]at hc)
   |isl bw ex sz es=>cases bw<;>first|rfl|(simp[clean]at hc)
   |imap bw ks vs=>cases bw<;>first|rfl|(simp[clean]at hc)
   |ptr b i off g=>simp[Zy]at hn
   |sl b g off len ex=>simp[Zy]at hn
   |mp b=>simp[Zy]at hn
   |it b=>simp[Zy]at hn
   |yld b=>simp[Zy]at hn
   |_=>simp[clean]at hc
def Jb{h:Hp}:∀(n:Nat)(v:List AV),Zi v=true->QJ v<=n->ZC true h n v=some v
 |0,v,_,hm=>by cases v<;>simp[QJ]at hm<;>omega
 |n+1,v,hn,hm=>by
  cases hc:Z4 v with
  |true=>unfold ZC;rw[hc];rfl
  |false=>
   unfold ZC;rw[hc,cond_false];cases v with
   |nil=>rfl
   |cons x r=>
    have hn':Zy x=true/\Zi r=true:=by simpa[Zi]using hn
    have h1:=Dn (h:=h) n x hn'.1<|by simp[QJ]at hm;omega
    have h2:=Jb (h:=h) n r hn'.2<|by simp[QJ]at hm;omega
    simp only[h1,h2]
end
def GQ(h:Hp)(l:List AV)(hn:Zi l=true)(hm:QJ l<=40):Ql h l=some l:=by
 unfold Ql;cases hc:Z4 l with
 |true=>rfl
 |false=>exact Jb 40 l hn hm
def Pn:QJ []=1:=(rfl)
def Po(v:AV)(r:List AV):QJ (v::r)=1+msz v+QJ r:=(rfl)
def Pp(cs:List AV):msz (.agg cs)=1+QJ cs:=(rfl)
def Pr(fn:Fn)(a c:List AV):msz (.clo fn a c)=1+QJ a+QJ c:=(rfl)
def Ps(b:Bool):msz (.bool b)=1:=(rfl)
def Pu(k:IntKind)(n:Int):msz (.int k n)=1:=(rfl)
def Pv(s:ByteArray):msz (.str s)=1:=(rfl)
def Pw(bw ex:Bool)(sz:Nat)(es:List AV):msz (.isl bw ex sz es)=1:=(rfl)
def Px(bw:Bool)(es:List AV):msz (.iptr bw es)=1:=(rfl)
attribute [go_sem] Pn Po Pp Pr Ps Pu Pv Pw Px
attribute [go_sem 1100] GQ
end Go.AM
namespace Go.AM
open Go
variable {E:Env}
def frV(fr:Fr):List AV:=fr.map (·.2)
def Pz(n:Nat):Zd n []=true:=(rfl)
def PA(n:Nat)(v:AV)(r:List AV):Zd n (v::r)=(bel n v&&Zd n r):=(rfl)
def PB(n:Nat):bel n .bot=true:=(rfl)
def PC(n:Nat)(b:Bool):bel n (.bool b)=true:=(rfl)
def PD(n:Nat)(k:IntKind)(i:Int):bel n (.int k i)=true:=(rfl)
def PE(n:Nat)(s:ByteArray):bel n (.str s)=true:=(rfl)
def PF(n:Nat)(bw ex:Bool)(sz:Nat)(es:List AV):bel n (.isl bw ex sz es)=true:=(rfl)
def PG(n:Nat)(bw:Bool)(es:List AV):bel n (.iptr bw es)=true:=(rfl)
def PI(n:Nat)(cs:List AV):bel n (.agg cs)=Zd n cs:=(rfl)
def PN(n:Nat):bel n .nilfn=true:=(rfl)
def PO(n:Nat)(fn:Fn)(a c:List AV):bel n (.clo fn a c)=(Zd n a&&Zd n c):=(rfl)
def PQ(n b i off g:Nat):bel n (.ptr b i off g)=Nat.blt b n:=(rfl)
def PR(n b g off len:Nat)(ex:Bool):bel n (.sl b g off len ex)=Nat.blt b n:=(rfl)
def PS(n b:Nat):bel n (.mp b)=Nat.blt b n:=(rfl)
def PT(n b:Nat):bel n (.it b)=Nat.blt b n:=(rfl)
def PU(n b:Nat):bel n (.yld b)=Nat.blt b n:=(rfl)
def PV(n sz:Nat)(es:List AV):Zj n (.row sz es)=Zd n es:=(rfl)
def PW(n:Nat)(ks vs:List AV):Zj n (.map ks vs)=(Zd n ks&&Zd n vs):=(rfl)
def PX(n:Nat)(s:ByteArray)(p:Nat):Zj n (.iter s p)=true:=(rfl)
def PY(n:Nat):Zj n .gone=true:=(rfl)
def Z00(n:Nat)(st:LoopState)(p:AExit)(fr:Fr)(ps:List Nat)(a b:ACode):Zj n (.loop st p fr ps a b)=Zd n (frV fr):=(rfl)
def Z01(n:Nat):X4 n []=true:=(rfl)
def Z02(n:Nat)(o:AObj)(r:List AObj):X4 n (o::r)=(Zj n o&&X4 n r):=(rfl)
def trimB(n:Nat)(h:Hp)(b:Bool):Hp:=bif b then h.take n else h
def Z03(n:Nat)(h:Hp):trimB n h true=h.take n:=(rfl)
def Z04(n:Nat)(h:Hp):trimB n h false=h:=(rfl)
def Z05:frV []=[]:=(rfl)
def Z06(t:Nat)(v:AV)(r:Fr):frV ((t,v)::r)=v::frV r:=(rfl)
def Z07(n:Nat)(fr:Fr)(o:AObj)(h:Hp):Xq n fr (o::h)=trimB n (o::h) (Zd n (frV fr)&&X4 n ((o::h).take n)):=(rfl)
mutual
def Dp{n:Nat}:∀v:AV,clean v=true->bel n v=true
 | .agg cs,h=>ZN cs h
 | .tup cs,h=>ZN cs h
 | .ifc _ v,h=>Dp v h
 | .clo _ a c,h=>by
  have h':Z4 a=true/\Z4 c=true:=by simpa[clean]using h
  simp only[bel,ZN a h'.1,ZN c h'.2,ZX9]
 | .ptr ..,h| .sl ..,h| .mp _,h| .it _,h| .yld _,h=>by simp[clean]at h
 | .bot,_| .bool _,_| .int ..,_| .str _,_| .nilp,_| .nilsl,_| .nilmap,_| .nilfn,_| .nilif,_| .iptr ..,_| .isl ..,_| .imap ..,_=>rfl
def ZN{n:Nat}:∀l:List AV,Z4 l=true->Zd n l=true
 |[],_=>rfl
 |v::r,h=>by
  have h':clean v=true/\Z4 r=true:=by simpa[Z4]using h
  simp only[Zd,Dp v h'.1,ZN r h'.2,ZX9]
end
attribute [go_sem] Pz PA PB PC PD PE PF PG PI PN PO PQ PR PS PT PU PV PW PX PY Z00 Z01 Z02 Z03 Z04 Z05 Z06 Z07 List.take_succ_cons List.take_zero List.take_nil List.length_cons List.length_nil List.length_map List.map_cons List.map_nil List.nil_append List.cons_append
def Z08(b:Bool):scalar (.bool b)=true:=(rfl)
def scalar_int(k:IntKind)(n:Int):scalar (.int k n)=true:=(rfl)
def Z09(s:ByteArray):scalar (.str s)=true:=(rfl)
def Z0a(bw ex:Bool)(sz:Nat)(es:List AV):scalar (.isl bw ex sz es)=true:=(rfl)
def Z0d(fn:Fn)(a c:List AV):scalar (.clo fn a c)=true:=(rfl)
def Z0f(b g off len:Nat)(ex:Bool):scalar (.sl b g off len ex)=true:=(rfl)
def Z0j:scalar .nilfn=true:=(rfl)
def Z0k(sz:Nat)(cs:List AV):fits sz (.agg cs)=(cs.length==sz&&cs.all scalar):=(rfl)
def fits_bool(sz:Nat)(b:Bool):fits sz (.bool b)=(sz==1):=(rfl)
def fits_int(sz:Nat)(k:IntKind)(n:Int):fits sz (.int k n)=(sz==1):=(rfl)
def Z0l(sz:Nat)(s:ByteArray):fits sz (.str s)=(sz==1):=(rfl)
def Z0m(sz:Nat)(bw ex:Bool)(z:Nat)(es:List AV):fits sz (.isl bw ex z es)=(sz==1):=(rfl)
def Z0n(sz:Nat)(b g off len:Nat)(ex:Bool):fits sz (.sl b g off len ex)=(sz==1):=(rfl)
def Z0r(sz:Nat)(fn:Fn)(a c:List AV):fits sz (.clo fn a c)=(sz==1):=(rfl)
attribute [go_sem] Z08 scalar_int Z09 Z0a Z0d Z0f Z0j Z0k fits_bool fits_int Z0l Z0m Z0n Z0r List.all_cons List.all_nil List.drop_succ_cons List.drop_zero List.drop_nil
def Ue(a b:Nat):Nat.ble a b=decide (a<=b):=by rw[ZWK];simp
def N7(a b:Nat):Nat.blt a b=decide (a<b):=by rw[ZWK];simp[ZXo]
def Z0s(cs:List AV):fill cs []=some cs:=(rfl)
def Z0t(cs:List AV)(off sz:Nat)(v:AV)(r:List<|Nat×Nat×AV):fill cs ((off,sz,v)::r)=bif fits sz v&&Nat.ble (off+sz) cs.length then fill (cs.take off++v.cells++cs.drop (off+sz)) r else none:=(rfl)
def Z0u(sz:Nat)(cs:List AV):YC sz cs []=some cs:=(rfl)
def Z0v(sz:Nat)(cs:List AV)(i:Nat)(v:AV)(r:List<|Nat×AV):YC sz cs ((i,v)::r)=bif fits sz v&&Nat.blt i cs.length then YC sz (cs.set i v) r else none:=(rfl)
attribute [go_sem] Ue N7 Z0s Z0t Z0u Z0v List.set_cons_zero List.set_cons_succ List.replicate_succ List.replicate_zero
def Z0x(a1 a2:Bool)(r1 r2:List Nat)(b:Nat)(k1 k2:Option<|AV×AV):Qy ⟨a1,r1,some b,k1⟩ ⟨a2,r2,none,k2⟩=(!a2&&!r2.contains b):=by simp[Qy]
def Z0y(a1 a2:Bool)(r1 r2:List Nat)(b:Nat)(k1 k2:Option<|AV×AV):Qy ⟨a1,r1,none,k1⟩ ⟨a2,r2,some b,k2⟩=(!a1&&!r1.contains b):=by simp[Qy]
def Z0z(a1 a2:Bool)(r1 r2:List Nat)(b c:Nat)(k1 k2:Option<|AV×AV):Qy ⟨a1,r1,some b,k1⟩ ⟨a2,r2,some c,k2⟩=((!a2&&!r2.contains b&&(!(c==b)||Kp ⟨a1,r1,some b,k1⟩ ⟨a2,r2,some c,k2⟩))&&(!a1&&!r1.contains c)):=(rfl)
attribute [go_sem] Z0x Z0y Z0z List.contains_cons List.contains_nil Bool.true_or Bool.or_true Bool.false_or Bool.or_false
noncomputable def Zg(E:Env)(live:List Nat)(b:ACode)(fr:Fr)(h:Hp):Option (AExit×Fr×Hp):=Zb E (.loop live b) fr h
def Z0A{live:List Nat}{b:ACode}{fr:Fr}{h:Hp}:Zb E (.loop live b) fr h=Zg E live b (Z2 live fr) h:=by
 unfold Zg;exact GF
attribute [go_sem] Z0A
def Yt{live:List Nat}{b:ACode}{fr fr':Fr}{h h':Hp}(hr:Z2 live fr=fr)(hc:Zb E b fr h=some (.normal,fr',h')):Zg E live b fr h=Zg E live b (Z2 live fr') h':=by
 unfold Zg;rw[J2,hr,hc,LH];exact GF
def Q7{live:List Nat}{b:ACode}{fr fr':Fr}{h h':Hp}{e:AExit}(hr:Z2 live fr=fr)(hc:Zb E b fr h=some (e,fr',h'))(he:e≠.normal):Zg E live b fr h=some (e,fr',h'):=by
 unfold Zg;rw[J2,hr,hc];cases e<;>first|exact absurd rfl he|rfl
def Z9Y{live:List Nat}{b:ACode}(n:Nat)(M:Nat->Fr->Hp->Prop)(Q:AExit->Fr->Hp->Prop)
 (hr:∀i fr h,M i fr h->Z2 live fr=fr)
 (step:∀i fr h,i<n->M i fr h->(∃fr' h',Zb E b fr h=some (.normal,fr',h')/\M (i+1) (Z2 live fr') h')\/(∃e fr' h',Zb E b fr h=some (e,fr',h')/\e≠.normal/\Q e fr' h'))
 (last:∀fr h,M n fr h->∃e fr' h',Zb E b fr h=some (e,fr',h')/\e≠.normal/\Q e fr' h'):
 ∀k i fr h,k+i=n->M i fr h->∃e fr' h',Zg E live b fr h=some (e,fr',h')/\Q e fr' h':=by
 intro k;induction k with
 |zero=>
  intro i fr h hi hm;have:i=n:=by omega
  subst this;obtain⟨e,fr',h',h1,h2,h3⟩:=last fr h hm;exact⟨e,fr',h',Q7 (hr _ _ _ hm) h1 h2,h3⟩
 |succ k ih=>
  intro i fr h hi hm;rcases step i fr h (by omega) hm with⟨fr',h',h1,h2⟩|⟨e,fr',h',h1,h2,h3⟩
  .obtain⟨e,fr2,h2',h4,h5⟩:=ih (i+1) _ h' (by omega) h2
   exact⟨e,fr2,h2',(Yt (hr _ _ _ hm) h1).trans h4,h5⟩
  .exact⟨e,fr',h',Q7 (hr _ _ _ hm) h1 h2,h3⟩
def Zu{α:Type}(P:Nat->α->Bool):Nat->List α->Bool
 |_,[]=>true
 |i,x::r=>P i x&&Zu P (i+1) r
def QE{α:Type}(P:α->Bool):∀(l:List α)(i:Nat),Zu (λ_ x=>P x) i l=l.all P
 |[],_=>rfl
 |x::r,i=>by simp only[Zu,ZX8,QE P r]
def Uf{α:Type}{live:List Nat}{b:ACode}{h:Hp}(l:List α)(P:Nat->α->Bool)(S:Nat->Fr)(out:Nat)(Q:Fr->Prop)
 (hr:∀i,Z2 live (S i)=S i)
 (good:∀i x,l[i]?=some x->P i x=true->∃fr',Zb E b (S i) h=some (.normal,fr',h)/\Z2 live fr'=S (i+1))
 (bad:∀i x,l[i]?=some x->P i x=false->∃fr',Zb E b (S i) h=some (.ret,fr',h)/\Q fr')
 (last:∃fr',Zb E b (S l.length) h=some (.exit out,fr',h)):
 ∃fr',Zg E live b (S 0) h=some (if Zu P 0 l=true then .exit out else .ret,fr',h)/\(Zu P 0 l=false->Q fr'):=by
 suffices H:∀(post pre:List α),l=pre++post->∃fr',Zg E live b (S pre.length) h=some (if Zu P pre.length post=true then .exit out else .ret,fr',h)/\(Zu P pre.length post=false->Q fr')from H l [] rfl
 intro post;induction post with
 |nil=>
  intro pre hp;obtain⟨fr',h1⟩:=last;have:l.length=pre.length:=by rw[hp];simp
  rw[this]at h1;exact⟨fr',by simpa[Zu]using Q7 (hr _) h1 (by simp),λh=>by simp[Zu]at h⟩
 |cons x post ih=>
  intro pre hp;have hx:l[pre.length]?=some x:=by rw[hp];simp
  cases hP:P pre.length x with
  |true=>
   obtain⟨fr1,h1,h2⟩:=good _ _ hx hP;obtain⟨fr',h3,h4⟩:=ih (pre++[x])<|by simp[hp]
   rw[ZWz,ZXs]at h3 h4;refine⟨fr',?_,?_⟩
   .rw[Yt (hr _) h1,h2,h3];simp only[Zu,hP,ZWp]
   .simpa only[Zu,hP,ZWp]using h4
  |false=>
   obtain⟨fr',h1,h2⟩:=bad _ _ hx hP;refine⟨fr',?_,λ_=>h2⟩
   rw[Q7 (hr _) h1<|by simp]
   simp[Zu,hP]
end Go.AM
namespace Go.AM
open Go
variable {E:Env}
def ZHj(d:Option Nat)(r:List AOper)(u:List Nat)(us:List<|List Nat)(fr:Fr)(h:Hp)(recs:List DRec)(p:AV×DRec×Option (Nat×AObj)):
 rkw E d r u us fr h recs (some p)=okd recs u h p.2.1 p.2.2 (Zm E r us (ZB fr d p.1) (ZH h p.2.2)<|recs++[p.2.1]):=rfl
attribute [go_sem] ZHj ZL4
end Go.AM
namespace Go.AM
open Go
def ckS(k:Nat):List AV->Bool
 |[.iptr false [.clo (.func f) [] []]]=>Nat.beq f k
 |_=>false
def ZEf:AV->Option (List Int)
 | .agg [.str s,.int .i64 _,.int .i64 _]=>some<|s.data.toList.map λb=>(b.toNat:Int)
 |_=>none
def ZEm(caps:List AV)(x:AV):Option (List Int):=bif ckS 97 caps then ZEf x else none
def ZFE(f:Nat):Option (List AV->Hp->Option (AV×Hp)):=bif Nat.beq f 170 then some (ZEt 171<|ckS 95)else bif Nat.beq f 173 then some (ZvW 174 3 ZEm)else none
def e1:Env:={fn:=ZGw,gl:=λ_=>.bot,sum:=ZFE}
def N8(f:Nat):Option (List AV->Hp->Option (AV×Hp)):=
 bif Nat.blt f 224 then(bif Nat.blt f 216 then(bif Nat.blt f 87 then(bif Nat.beq f 86 then some (J9)else none)else(bif Nat.blt f 88 then(bif Nat.beq f 87 then some (J7)else none)else(bif Nat.beq f 88 then some (J8)else none)))else(bif Nat.blt f 217 then(bif Nat.beq f 216 then some (YL 6)else none)else(bif Nat.blt f 220 then(bif Nat.beq f 217 then some (YL 5)else none)else(bif Nat.beq f 220 then some (YL 16)else none))))else(bif Nat.blt f 250 then(bif Nat.blt f 227 then(bif Nat.beq f 224 then some (YL 4)else none)else(bif Nat.blt f 249 then(bif Nat.beq f 227 then some (YL 6)else none)else(bif Nat.beq f 249 then some (U9)else none)))else(bif Nat.blt f 251 then(bif Nat.beq f 250 then some (J5)else none)else(bif Nat.blt f 320 then(bif Nat.beq f 251 then some (J6)else none)else(bif Nat.beq f 320 then some (Ja)else none))))
def ZF0(f:Nat):Option (List AV->Hp->Option (AV×Hp)):=bif Nat.beq f 94 then some (ZEo<|ZE7 95)else bif Nat.beq f 96 then some (ZEo<|ZEe 97 3 ZEf)else N8 f
def ZF1(f:Nat):Option (List AV->Nat->List AV->Option (List AV)):=bif Nat.beq f 94 then some (ZE7 95)else bif Nat.beq f 96 then some (ZEe 97 3 ZEf)else none
class REdz where
 hd:Option<|List AV->Hp->Option (AV×Hp)
def rE[REdz]:Env:={fn:=N0,gl:=λ_=>.bot,sum:=λf=>bif Nat.beq f 4 then REdz.hd else ZF0 f,rs:=ZF1}
end Go.AM
namespace Go.AM
def xs(f:Nat->Bool):Nat->Bool
 |0=>false
 |n+1=>xs f n ^^ f n
def ZPG{f g:Nat->Bool}:∀{n:Nat},(∀k,k<n->f k=g k)->xs f n=xs g n
 |0,_=>rfl
 |n+1,h=>by
  show(xs f n ^^ f n)=(xs g n ^^ g n)
  rw[ZPG<|λk hk=>h k<|by omega,h n<|by omega]
def ZQ7(f g:Nat->Bool):∀n:Nat,xs (λk=>f k ^^ g k) n=(xs f n ^^ xs g n)
 |0=>rfl
 |n+1=>by
  show(xs (λk=>f k ^^ g k) n ^^ (f n ^^ g n))=((xs f n ^^ f n) ^^ (xs g n ^^ g n))
  rw[ZQ7 f g n];cases xs f n<;>cases xs g n<;>cases f n<;>cases g n<;>rfl
def ZRd(g:Nat->Bool):∀n:Nat,xs (λk=>g k ^^ g (k+1)) n=(g 0 ^^ g n)
 |0=>by simp[xs]
 |n+1=>by
  show(xs (λk=>g k ^^ g (k+1)) n ^^ (g n ^^ g (n+1)))=_
  rw[ZRd g n];cases g 0<;>cases g n<;>cases g (n+1)<;>rfl
def ZRe(b:Bool)(j:Nat):∀n:Nat,xs (λk=>decide (k=j)&&b) n=(decide (j<n)&&b)
 |0=>by simp[xs]
 |n+1=>by
  show(xs (λk=>decide (k=j)&&b) n ^^ (decide (n=j)&&b))=_
  rw[ZRe b j n];rcases ZYW j n with h|h|h
  .simp[h,show ¬n=j by omega,show j<n+1 by omega]
  .subst h;simp
  .simp[show ¬j<n by omega,show ¬n=j by omega,show ¬j<n+1 by omega]
def ZT8{p m a b:Rat}(h1:p+m*a<0)(h2:0<p+m*b):∃c,p+m*c=0/\((a<=c/\c<=b)\/(b<=c/\c<=a)):=by
 have hm:m≠0:=by
  rintro rfl;rw[Rat.zero_mul]at h1 h2
  grind
 have e:p+m*(-p/m)=0:=by
  rw[Rat.mul_comm,Rat.div_mul_cancel hm]
  grind
 refine⟨-p/m,e,?_⟩;generalize -p/m=c at e;have e1:m*(a-c)<0:=by grind
 have e2:0<m*(b-c):=by grind
 rcases Rat.le_total (a:=a) (b:=c)with h|h<;>rcases Rat.le_total (a:=c) (b:=b)with h'|h'
 .exact .inl ⟨h,h'⟩
 .exfalso;rcases Rat.le_total (a:=0) (b:=m)with k|k
  .have:=Rat.mul_nonneg k (show 0<=c-b by grind)
   grind
  .have:=Rat.mul_nonneg (show 0<=-m by grind) (show 0<=c-a by grind)
   grind
 .exfalso;rcases Rat.le_total (a:=0) (b:=m)with k|k
  .have:=Rat.mul_nonneg k (show 0<=a-c by grind)
   grind
  .have:=Rat.mul_nonneg (show 0<=-m by grind) (show 0<=b-c by grind)
   grind
 .exact .inr ⟨h',h⟩
def Bt(a b c:Rat):Prop:=(a<=c/\c<=b)\/(b<=c/\c<=a)
def crs(y:Nat->Rat)(k:Nat)(c:Rat):Bool:=decide (y k<c) ^^ decide (y (k+1)<c)
def par(n:Nat)(y p m:Nat->Rat)(i:Nat)(c:Rat):Bool:=xs (λk=>crs y k c&&decide (p i+m i*c<p k+m k*c)) n
def ZON(n:Nat)(y p m:Nat->Rat)(i j:Nat)(v:Rat):Bool:=xs (λk=>(decide (k≠i)&&decide (k≠j))&&(crs y k v&&decide (p i+m i*v<p k+m k*v))) n
def dlt(m:Nat->Rat)(i j:Nat)(v t u:Rat):Bool:=(decide (u<v)==decide (t<v))&&(if t<v then decide (m j<m i)else decide (m i<m j))
def ZT9{pi mi pk mk a b c v:Rat}(sep:∀z,Bt c v z->Bt a b z->pi+mi*z≠pk+mk*z):∃s:Bool,∀z,Bt c v z->Bt a b z->decide (pi+mi*z<pk+mk*z)=s:=by
 by_cases h:∃z,Bt c v z/\Bt a b z/\pi+mi*z<pk+mk*z
 .refine⟨true,λz h1 h2=>?_⟩
  obtain⟨w,k1,k2,k3⟩:=h;rw[decide_eq_true_iff];by_cases hz:pi+mi*z<pk+mk*z
  .exact hz
  .exfalso;have hne:=sep z h1 h2;obtain⟨q,e,hq⟩:=ZT8 (p:=pi-pk) (m:=mi-mk) (a:=w) (b:=z) (by grind) (by grind)
   exact sep q (by unfold Bt at*;grind) (by unfold Bt at*;grind)<|by grind
 .refine⟨false,λz h1 h2=>?_⟩
  rw[decide_eq_false_iff_not];exact λhz=>h ⟨z,h1,h2,hz⟩
def ZRf{n:Nat}{x y p m:Nat->Rat}(hx:x n=x 0)(hy:y n=y 0)(on0:∀k,k<n->x k=p k+m k*y k)(on1:∀k,k<n->x (k+1)=p k+m k*y (k+1))
 {i j:Nat} (hi:i<n) (hj:j<n) (hij:i≠j) {v t u c:Rat} (ei:(y i=v/\y (i+1)=t)\/(y i=t/\y (i+1)=v)) (ej:(y j=v/\y (j+1)=u)\/(y j=u/\y (j+1)=v)) (hv:p i+m i*v=p j+m j*v)
 (oth:∀k,k<n->k≠i->k≠j->y k≠v/\y (k+1)≠v) (htv:t≠v) (huv:u≠v) (hm:m i≠m j)
 (sep:∀k,k<n->k≠i->k≠j->∀z,Bt t v z->z≠t->Bt (y k) (y<|k+1) z->p i+m i*z≠p k+m k*z)
 (hc:Bt t v c) (gen:∀k,k<n->y k≠c/\y (k+1)≠c):
 par n y p m i c=(ZON n y p m i j v ^^ dlt m i j v t u):=by
 have hct:c≠t:=by
  rcases ei with⟨_,e⟩|⟨e,_⟩
  .exact λh=>(gen i hi).2 (by rw[e,h])
  .exact λh=>(gen i hi).1 (by rw[e,h])
 have hcv:c≠v:=by
  rcases ei with⟨e,_⟩|⟨_,e⟩
  .exact λh=>(gen i hi).1 (by rw[e,h])
  .exact λh=>(gen i hi).2 (by rw[e,h])
 have key:∀k,k<n->((crs y k c&&decide (p i+m i*c<p k+m k*c)) ^^ (((decide (k≠i)&&decide (k≠j))&&(crs y k v&&decide (p i+m i*v<p k+m k*v))) ^^ (decide (k=j)&&dlt m i j v t u))) =
  (((decide (y k<c) ^^ decide (y k<v))&&decide (p i+m i*y k<x k)) ^^ ((decide (y (k+1)<c) ^^ decide (y (k+1)<v))&&decide (p i+m i*y (k+1)<x (k+1)))):=by
  intro k hk;by_cases k1:k=i
  .subst k1;have e1:decide (p k+m k*c<p k+m k*c)=false:=by grind
   have e3:decide (p k+m k*y k<x k)=false:=by rw[on0 k hk];grind
   have e4:decide (p k+m k*y (k+1)<x (k+1))=false:=by rw[on1 k hk];grind
   have e5:decide (k=j)=false:=decide_eq_false hij;simp[e1,e3,e4,e5]
  .by_cases k2:k=j
   .subst k2;have hs:decide (k=k)=true:=by simp
    have hs2:decide (k≠k)=false:=by simp
    rw[hs,hs2,ZWw,ZWr,Bool.false_xor,ZWp,on0 k hk,on1 k hk];have ord1:∀z,t<v->z<v->decide (p i+m i*z<p k+m k*z)=decide (m k<m i):=λz _ hz=>by
     have e:(p k+m k*z)-(p i+m i*z)=(m i-m k)*(v-z):=by grind
     by_cases h:m k<m i
     .have:=Rat.mul_pos (show 0<m i-m k by grind) (show 0<v-z by grind)
      simp only[h,decide_true,decide_eq_true_iff];grind
     .have:=Rat.mul_nonneg (show 0<=m k-m i by grind) (show 0<=v-z by grind)
      simp only[h,decide_false,decide_eq_false_iff_not];grind
    have ord2:∀z,¬t<v->v<z->decide (p i+m i*z<p k+m k*z)=decide (m i<m k):=λz _ hz=>by
     have e:(p k+m k*z)-(p i+m i*z)=(m k-m i)*(z-v):=by grind
     by_cases h:m i<m k
     .have:=Rat.mul_pos (show 0<m k-m i by grind) (show 0<z-v by grind)
      simp only[h,decide_true,decide_eq_true_iff];grind
     .have:=Rat.mul_nonneg (show 0<=m i-m k by grind) (show 0<=z-v by grind)
      simp only[h,decide_false,decide_eq_false_iff_not];grind
    obtain⟨g1,g2⟩:=gen k hk;unfold dlt crs Bt at*;by_cases htv':t<v
    .have hc':c<v:=by grind
     have o:=ord1 c htv' hc';by_cases huv':u<v
     .have ou:=ord1 u htv' huv';rcases ej with⟨a,b⟩|⟨a,b⟩
      .rw[a,b,o,ou]at*;by_cases q:u<c<;>simp[htv',huv',hc',q,show ¬v<c by grind,show ¬v<v by grind]<;>grind
      .rw[a,b,o,ou]at*;by_cases q:u<c<;>simp[htv',huv',hc',q,show ¬v<c by grind,show ¬v<v by grind]<;>grind
     .rcases ej with⟨a,b⟩|⟨a,b⟩<;>rw[a,b]at*<;>simp[htv',huv',show ¬v<c by grind,show ¬v<v by grind,show ¬u<c by grind]
    .have hc':v<c:=by grind
     have o:=ord2 c htv' hc';by_cases huv':u<v
     .rcases ej with⟨a,b⟩|⟨a,b⟩<;>rw[a,b]at*<;>simp[htv',huv',hc',show ¬v<v by grind,show u<c by grind]
      all_goals grind
     .have ou:=ord2 u htv' (by grind)
      rcases ej with⟨a,b⟩|⟨a,b⟩
      .rw[a,b,o,ou]at*;by_cases q:u<c<;>simp[htv',huv',hc',q,show ¬v<v by grind]<;>grind
      .rw[a,b,o,ou]at*;by_cases q:u<c<;>simp[htv',huv',hc',q,show ¬v<v by grind]<;>grind
   .obtain⟨o1,o2⟩:=oth k hk k1 k2;obtain⟨g1,g2⟩:=gen k hk;obtain⟨s,hs⟩:=ZT9 (pi:=p i) (mi:=m i) (pk:=p k) (mk:=m k) (a:=y k) (b:=y<|k+1) (c:=c) (v:=v) (λz h1 h2=>sep k hk k1 k2 z (by unfold Bt at*;grind) (by unfold Bt at*;grind) h2)
    have f1:(crs y k c&&decide (p i+m i*c<p k+m k*c))=(crs y k c&&s):=by
     cases hq:crs y k c with
     |false=>rfl
     |true=>rw[hs c (by unfold Bt;grind)<|by unfold crs at hq;unfold Bt;grind]
    have f2:(crs y k v&&decide (p i+m i*v<p k+m k*v))=(crs y k v&&s):=by
     cases hq:crs y k v with
     |false=>rfl
     |true=>rw[hs v (by unfold Bt;grind)<|by unfold crs at hq;unfold Bt;grind]
    have f3:((decide (y k<c) ^^ decide (y k<v))&&decide (p i+m i*y k<x k))=((decide (y k<c) ^^ decide (y k<v))&&s):=by
     cases hq:(decide (y k<c) ^^ decide (y k<v))with
     |false=>rfl
     |true=>rw[on0 k hk,hs (y k) (by unfold Bt;grind)<|by unfold Bt;grind]
    have f4:((decide (y (k+1)<c) ^^ decide (y (k+1)<v))&&decide (p i+m i*y (k+1)<x (k+1)))=((decide (y (k+1)<c) ^^ decide (y (k+1)<v))&&s):=by
     cases hq:(decide (y (k+1)<c) ^^ decide (y (k+1)<v))with
     |false=>rfl
     |true=>rw[on1 k hk,hs (y<|k+1) (by unfold Bt;grind)<|by unfold Bt;grind]
    rw[f1,f2,f3,f4,decide_eq_true k1,decide_eq_true k2,decide_eq_false k2];unfold crs;cases s<;>cases decide (y k<c)<;>cases decide (y k<v)<;>cases decide (y (k+1)<c)<;>cases decide (y (k+1)<v)<;>rfl
 have tel:=ZRd (λk=>(decide (y k<c) ^^ decide (y k<v))&&decide (p i+m i*y k<x k)) n
 have e0:xs _ n=xs _ n:=ZPG key;rw[tel,ZQ7,ZQ7,ZRe]at e0;rw[hx,hy,decide_eq_true hj,ZWp,Bool.xor_self]at e0;unfold par ZON;revert e0;generalize xs _ n=A;generalize xs _ n=B;generalize dlt m i j v t u=C;cases A<;>cases B<;>cases C<;>simp
def nx(n i:Nat):Nat:=if i+1=n then 0 else i+1
structure GenP(n:Nat)(x y p m:Nat->Rat):Prop where
 n3:3<=n
 hx:x n=x 0
 hy:y n=y 0
 on0:∀k,k<n->x k=p k+m k*y k
 on1:∀k,k<n->x (k+1)=p k+m k*y (k+1)
 dist:∀a b,a<n->b<n->a≠b->y a≠y b
 nc:∀i k,i<n->k<n->i≠k->∀c,Bt (y i) (y<|i+1) c->Bt (y k) (y<|k+1) c->p i+m i*c=p k+m k*c->(k=nx n i/\c=y (i+1))\/(i=nx n k/\c=y i)
 slope:∀i,i<n->m i≠m (nx n i)
def ZOH{n i:Nat}(h:i<n):nx n i<n:=by unfold nx;split<;>omega
def ZQ8{n i j:Nat}(h:i<n)(h':j<n)(e:nx n i=nx n j):i=j:=by unfold nx at e;split at e<;>split at e<;>omega
def ZQ9{n i:Nat}(h3:3<=n)(h:i<n):nx n i≠i:=by unfold nx;split<;>omega
def ZOk{α:Type}{n i:Nat}{f:Nat->α}(h:f n=f 0)(hi:i<n):f (nx n i)=f (i+1):=by
 unfold nx;split
 .rename_i e;rw[e,h]
 .rfl
def upE(y:Nat->Rat)(i:Nat):Bool:=decide (y i<y (i+1))
variable {n:Nat} {x y p m:Nat→Rat}
def GenP.dist2(g:GenP n x y p m){a b:Nat}(ha:a<n)(hb:b<n)(h:b≠nx n a):y b≠y (a+1):=by
 rw[<-ZOk g.hy ha];exact g.dist b (nx n a) hb (ZOH ha) h
def GenP.ne(g:GenP n x y p m){i:Nat}(hi:i<n):y i≠y (i+1):=g.dist2 hi hi<|λh=>ZQ9 g.n3 hi h.symm
def ZPH(hy:y n=y 0){c:Rat}(gen:∀k,k<n->y k≠c):∀k,k<n->y k≠c/\y (k+1)≠c:=λk hk=>⟨gen k hk,by rw[<-ZOk hy hk];exact gen _<|ZOH hk⟩
def GenP.hi(g:GenP n x y p m){i:Nat}(hi:i<n){c:Rat}(hc:Bt (y i) (y<|i+1) c)(gen:∀k,k<n->y k≠c):
 par n y p m i c=(ZON n y p m i (nx n i) (y<|i+1) ^^ dlt m i (nx n i) (y<|i+1) (y i) (y<|nx n i+1)):=by
 have hj:=ZOH hi;have ey:y (nx n i)=y (i+1):=ZOk g.hy hi;refine ZRf g.hx g.hy g.on0 g.on1 hi hj (λh=>ZQ9 g.n3 hi h.symm) (.inr ⟨rfl,rfl⟩) (.inl ⟨ey,rfl⟩) ?_ ?_ (g.ne hi) ?_ (g.slope i hi) ?_ hc<|ZPH g.hy gen
 .rw[<-g.on1 i hi,<-ZOk g.hx hi,g.on0 _ hj,ey]
 .intro k hk k1 k2;refine⟨g.dist2 hi hk k2,?_⟩;rw[<-ZOk g.hy hk,<-ey];exact g.dist _ _ (ZOH hk) hj<|λh=>k1<|ZQ8 hk hi h
 .have h2:=g.ne hj;rw[ey]at h2;exact λh=>h2 h.symm
 .intro k hk k1 k2 z hz hzt hkz e;rcases g.nc i k hi hk (λh=>k1 h.symm) z hz hkz e with⟨a,_⟩|⟨_,b⟩
  .exact k2 a
  .exact hzt b
def GenP.lo(g:GenP n x y p m){i:Nat}(hi:i<n){c:Rat}(hc:Bt (y<|nx n i) (y<|nx n i+1) c)(gen:∀k,k<n->y k≠c):
 par n y p m (nx n i) c=(ZON n y p m (nx n i) i (y<|i+1) ^^ dlt m (nx n i) i (y<|i+1) (y<|nx n i+1) (y i)):=by
 have hj:=ZOH hi;have ey:y (nx n i)=y (i+1):=ZOk g.hy hi;refine ZRf g.hx g.hy g.on0 g.on1 hj hi (ZQ9 g.n3 hi) (.inl ⟨ey,rfl⟩) (.inr ⟨rfl,rfl⟩) ?_ ?_ ?_ (g.ne hi) (λh=>g.slope i hi h.symm) ?_ ?_<|ZPH g.hy gen
 .rw[<-g.on1 i hi,<-ZOk g.hx hi,g.on0 _ hj,ey]
 .intro k hk k1 k2;refine⟨g.dist2 hi hk k1,?_⟩;rw[<-ZOk g.hy hk,<-ey];exact g.dist _ _ (ZOH hk) hj<|λh=>k2<|ZQ8 hk hi h
 .have h2:=g.ne hj;rw[ey]at h2;exact λh=>h2 h.symm
 .intro k hk k1 k2 z hz hzt hkz e;rcases g.nc (nx n i) k hj hk (λh=>k1 h.symm) z (by unfold Bt at*;grind) hkz e with⟨_,b⟩|⟨a,_⟩
  .exact hzt b
  .exact k2<|ZQ8 hk hi a.symm
 .unfold Bt at*;grind
def ZTa(i j:Nat)(v:Rat)(h:p i+m i*v=p j+m j*v):ZON n y p m i j v=ZON n y p m j i v:=by
 unfold ZON;exact ZPG<|λk _=>by rw[h,ZZ0<|decide (k≠i)]
def ZRg(a b:Rat)(h:a<b)(f:Nat->Rat):∀n:Nat,∃c d,a<=c/\c<d/\d<=b/\∀k,k<n->¬(c<f k/\f k<d)
 |0=>⟨a,b,by grind,h,by grind,λk hk=>absurd hk<|by omega⟩
 |n+1=>by
  obtain⟨c,d,h1,h2,h3,h4⟩:=ZRg a b h f n;by_cases hz:c<f n/\f n<d
  .refine⟨c,f n,h1,hz.1,by grind,λk hk hq=>?_⟩
   by_cases e:k=n
   .subst e;grind
   .exact h4 k (by omega) ⟨hq.1,by grind⟩
  .refine⟨c,d,h1,h2,h3,λk hk hq=>?_⟩
   by_cases e:k=n
   .subst e;exact hz hq
   .exact h4 k (by omega) hq
def ZQa{a b:Rat}(h:a≠b)(f:Nat->Rat)(n:Nat):∃c,Bt a b c/\∀k,k<n->f k≠c:=by
 have:∀a b:Rat,a<b->∃c,(a<=c/\c<=b)/\∀k,k<n->f k≠c:=λa b h=>by
  obtain⟨c,d,h1,h2,h3,h4⟩:=ZRg a b h f n;refine⟨(c+d)/2,by grind,λk hk e=>h4 k hk<|by grind⟩
 unfold Bt;by_cases hq:a<b
 .obtain⟨c,h1,h2⟩:=this a b hq;exact⟨c,.inl h1,h2⟩
 .obtain⟨c,h1,h2⟩:=this b a (by grind)
  exact⟨c,.inr h1,h2⟩
def GenP.step(g:GenP n x y p m){i:Nat}(hi:i<n){c c':Rat}(hc:Bt (y i) (y<|i+1) c)(gen:∀k,k<n->y k≠c)(hc':Bt (y<|nx n i) (y<|nx n i+1) c')(gen':∀k,k<n->y k≠c'):
 (par n y p m i c ^^ upE y i)=(par n y p m (nx n i) c' ^^ upE y (nx n i)):=by
 have hj:=ZOH hi;have ey:y (nx n i)=y (i+1):=ZOk g.hy hi;have hv:p i+m i*y (i+1)=p (nx n i)+m (nx n i)*y (i+1):=by rw[<-g.on1 i hi,<-ZOk g.hx hi,g.on0 _ hj,ey]
 have h1:=g.ne hi;have h2:=g.ne hj;have h3:=g.slope i hi;rw[g.hi hi hc gen,g.lo hi hc' gen',ZTa _ _ _ hv];generalize ZON n y p m (nx n i) i (y<|i+1)=Q;unfold upE dlt;rw[ey]at*;generalize y i=t at*;generalize y (i+1)=v at*;generalize y (nx n i+1)=u at*;generalize m i=mi at*;generalize m (nx n i)=mj at*;by_cases a:t<v<;>by_cases b:u<v<;>by_cases d:mj<mi<;>simp[a,b,d,show(v<u) = ¬(u<v)by grind,show(mi<mj) = ¬(mj<mi)by grind]
def GenP.const(g:GenP n x y p m){i k:Nat}(hi:i<n)(hk:k<n){c c':Rat}(hc:Bt (y i) (y<|i+1) c)(gen:∀k,k<n->y k≠c)(hc':Bt (y k) (y<|k+1) c')(gen':∀k,k<n->y k≠c'):
 (par n y p m i c ^^ upE y i)=(par n y p m k c' ^^ upE y k):=by
 have n3:=g.n3;obtain⟨c0,h0,g0⟩:=ZQa (g.ne (i:=0)<|by omega) y n
 suffices H:∀k,k<n->∀c',Bt (y k) (y<|k+1) c'->(∀k,k<n->y k≠c')->(par n y p m k c' ^^ upE y k)=(par n y p m 0 c0 ^^ upE y 0)by rw[H i hi c hc gen,H k hk c' hc' gen']
 intro k;induction k with
 |zero=>
  intro hk c' hc' gen';obtain⟨c1,h1,g1⟩:=ZQa (g.ne (i:=n-1)<|by omega) y n
  have e:nx n (n-1)=0:=by unfold nx;rw[if_pos<|by omega]
  have s1:=g.step (i:=n-1) (by omega) h1 g1 (c':=c') (by rw[e];exact hc') gen'
  have s2:=g.step (i:=n-1) (by omega) h1 g1 (c':=c0) (by rw[e];exact h0) g0
  rw[e]at s1 s2;rw[<-s1,<-s2]
 |succ k ih=>
  intro hk c' hc' gen';obtain⟨c1,h1,g1⟩:=ZQa (g.ne (i:=k)<|by omega) y n
  have e:nx n k=k+1:=by unfold nx;rw[if_neg<|by omega]
  have s1:=g.step (i:=k) (by omega) h1 g1 (c':=c') (by rw[e];exact hc') gen'
  rw[e]at s1;rw[<-s1];exact ih (by omega) c1 h1 g1
def sm(s:Nat->Int):Nat->Int
 |0=>0
 |n+1=>sm s n+s n
def ZRh{f g:Nat->Int}:∀{n:Nat},(∀k,k<n->f k=g k)->sm f n=sm g n
 |0,_=>rfl
 |n+1,h=>by
  show sm f n+f n=sm g n+g n
  rw[ZRh<|λk hk=>h k<|by omega,h n<|by omega]
def ZOh(u:Nat->Bool):List Nat->Int
 |[]=>0
 |a::r=>(bif u a then 1 else -1)+ZOh u r
def ZTb{u:Nat->Bool}{l r:List Nat}(h:l.Perm r):ZOh u l=ZOh u r:=by
 induction h with
 |nil=>rfl
 |cons a _ ih=>simp only[ZOh,ih]
 |swap a b l=>simp only[ZOh];omega
 |trans _ _ h1 h2=>exact h1.trans h2
def ZRi(f:Nat->Rat):∀(l:List Nat),l≠[]->∃a r,l.Perm (a::r)/\∀b∈r,f a<=f b
 |[],h=>absurd rfl h
 |[a],_=>⟨a,[],.refl _,λb hb=>by cases hb⟩
 |a::b::l,_=>by
  obtain⟨c,r,h1,h2⟩:=ZRi f (b::l)<|by simp
  by_cases q:f a<=f c
  .refine⟨a,c::r,h1.cons a,λz hz=>?_⟩
   rcases ZWJ.1 hz with rfl|hz
   .exact q
   .have:=h2 z hz;grind
  .refine⟨c,a::r,(h1.cons a).trans (.swap ..),λz hz=>?_⟩
   rcases ZWJ.1 hz with rfl|hz
   .grind
   .exact h2 z hz
def ZRj(f:Nat->Rat)(u:Nat->Bool)(K:Bool):∀(m:Nat)(L:List Nat),L.length=m->L.Nodup->(∀i∈L,∀k∈L,i≠k->f i≠f k)->
 (∀i∈L,(decide ((L.countP<|λk=>decide (f i<f k))%2=1) ^^ u i)=K)->ZOh u L=if m%2=1 then(bif K then 1 else -1)else 0
 |0,L,h,_,_,_=>by
  cases L with
  |nil=>rfl
  |cons=>cases h
 |m+1,L,h,hn,hd,hK=>by
  obtain⟨a,r,h1,h2⟩:=ZRi f L<|by rintro rfl;cases h
  have hn':=h1.nodup_iff.1 hn;have hr:r.length=m:=by have:=h1.length_eq;simp at this;omega
  have ha:a ∉ r:=(ZXD.1 hn').1;have hst:∀b∈r,f a<f b:=λb hb=>by
   have:=h2 b hb;have:=hd a (h1.mem_iff.2<|ZX4 ..) b (h1.mem_iff.2<|ZXp _ hb)<|λe=>ha<|e▸hb
   grind
  have ih:=ZRj f u K m r hr (ZXD.1 hn').2 (λi hi k hk=>hd i (h1.mem_iff.2<|ZXp _ hi) k<|h1.mem_iff.2<|ZXp _ hk) (λi hi=>by
   have:=hK i<|h1.mem_iff.2<|ZXp _ hi;rw[h1.countP_eq,List.countP_cons]at this;have e:decide (f i<f a)=false:=by have:=hst i hi;grind
   simpa[e]using this)
  have hA:=hK a<|h1.mem_iff.2<|ZX4 ..;rw[h1.countP_eq,List.countP_cons]at hA;have e1:decide (f a<f a)=false:=by grind
  have e2:r.countP (λk=>decide (f a<f k))=r.length:=List.countP_eq_length.2<|λb hb=>decide_eq_true<|hst b hb
  rw[e1,e2,hr]at hA;rw[ZTb h1,ZOh,ih];simp only[ZWt,if_false,ZWV]at hA;by_cases q:m%2=1
  .have q2:¬(m+1)%2=1:=by omega
   simp only[q,decide_true,if_true,if_neg q2]at hA⊢;cases hu:u a<;>cases K<;>simp[hu]at hA⊢
  .have q2:(m+1)%2=1:=by omega
   simp only[q,decide_false,if_false,if_pos q2]at hA⊢;cases hu:u a<;>cases K<;>simp[hu]at hA⊢
def ZQb(f:Nat->Bool):∀n:Nat,xs f n=decide ((List.range n).countP f%2=1)
 |0=>rfl
 |n+1=>by
  show(xs f n ^^ f n)=_
  rw[ZQb f n,ZY3,List.countP_append,List.countP_singleton];cases f n with
  |false=>simp
  |true=>
   rcases Nat.mod_two_eq_zero_or_one ((List.range n).countP f)with h|h
   .simp[h];omega
   .simp[h];omega
def ZRk(S u:Nat->Bool):∀n:Nat,sm (λk=>bif S k then(bif u k then 1 else -1)else 0) n=ZOh u ((List.range n).filter S)
 |0=>rfl
 |n+1=>by
  show sm _ n+_=_
  have ha:∀l:List Nat,∀r:List Nat,ZOh u (l++r)=ZOh u l+ZOh u r:=λl r=>by
   induction l with
   |nil=>simp[ZOh]
   |cons a l ih=>simp only[ZWO,ZOh,ih];omega
  rw[ZRk S u n,ZY3,ZYh,ha];cases h:S n<;>simp[h,ZOh]
def GenP.wind(g:GenP n x y p m){c:Rat}(gen:∀k,k<n->y k≠c)(t:Rat):
 (sm (λk=>bif crs y k c&&decide (t<p k+m k*c)then(bif upE y k then 1 else -1)else 0) n=0)↔xs (λk=>crs y k c&&decide (t<p k+m k*c)) n=false:=by
 rw[ZRk (λk=>crs y k c&&decide (t<p k+m k*c))<|upE y,ZQb]
 have cb:∀k,crs y k c=true->Bt (y k) (y<|k+1) c:=λk h=>by unfold crs at h;unfold Bt;grind
 have mem:∀k,k∈(List.range n).filter (λk=>crs y k c&&decide (t<p k+m k*c))->k<n/\crs y k c=true/\t<p k+m k*c:=λk hk=>by
  rw[ZXv,ZXQ,ZWn,decide_eq_true_iff]at hk;exact hk
 by_cases hE:(List.range n).filter (λk=>crs y k c&&decide (t<p k+m k*c))=[]
 .have h0:(List.range n).countP (λk=>crs y k c&&decide (t<p k+m k*c))=0:=by rw[List.countP_eq_length_filter,hE];rfl
  rw[hE,h0];simp[ZOh]
 .obtain⟨i0,h0⟩:=List.exists_mem_of_ne_nil _ hE;obtain⟨a1,a2,a3⟩:=mem i0 h0;have A:=ZRj (λk=>p k+m k*c) (upE y) (par n y p m i0 c ^^ upE y i0) _ ((List.range n).filter (λk=>crs y k c&&decide (t<p k+m k*c))) rfl (List.nodup_range.filter _)
   (λi hi k hk hik e=>by
    obtain⟨b1,b2,b3⟩:=mem i hi;obtain⟨d1,d2,d3⟩:=mem k hk;rcases g.nc i k b1 d1 hik c (cb i b2) (cb k d2) e with⟨_,q⟩|⟨_,q⟩
    .exact(ZPH g.hy gen i b1).2 q.symm
    .exact gen i b1 q.symm)
   (λi hi=>by
    obtain⟨b1,b2,b3⟩:=mem i hi;rw[<-g.const b1 a1 (cb i b2) gen (cb i0 a2) gen];congr 1;unfold par;rw[ZQb,List.countP_filter];congr 3;exact List.countP_congr (λk _=>by
     simp only[ZWn,decide_eq_true_iff]
     grind))
  rw[A,List.countP_eq_length_filter];generalize((List.range n).filter (λk=>crs y k c&&decide (t<p k+m k*c))).length=z
  generalize(par n y p m i0 c ^^ upE y i0)=K;by_cases q:z%2=1
  .cases K<;>simp[q]
  .simp[q]
end Go.AM
namespace Go.AM
open Go
def XB(sz:Nat)(n:Option Nat):ACode:=
 .keep [0,1,4,7,8]<|.seq (.region [o 9<|.bin .lss (.t 8)<|.t 7])<|
  .seq (.cond (.t 9) (.skip)<|.exit 0)<|
  .seq (.keep [0,1,4,7,8]<|.block 1<|
   .seq (.region [o 10<|.mv<|.t 8,o 5<|.mv<|.t 10])<|
   .seq (.keep [0,1,5,7,8,16]<|.region [o 11<|.mv<|.t 1,o 12<|.mv<|.t 0,o 13<|.mv<|.t 5,o 14<|.iadr sz (.t 12)<|.t 13,o 15<|.load n<|.t 14,o 16<|.callv true (.t 11) [(.t 15)]])<|
   .cond (.t 16) (.seq (.region [o 17<|.mv<|.t 5,o 4<|.mv<|.t 17])<|.ret) (.skip))<|
  .region [o 18<|.bin .add (.t 8)<|.c<|.int .i64 1,o 8<|.mv<|.t 18]
def GR(sz:Nat)(n:Option Nat):ACode:=
 .seq (.region [o 4<|.mv<|.c<|.int .i64 0])<|
 .seq (.seq (.keep [0,1,7,8]<|.region [o 6<|.mv<|.t 0,o 7<|.len 1<|.t 6,o 8<|.mv<|.c<|.int .i64 0])<|
 .keep [4]<|.block 0<|.loop [0,1,7,8]<|XB sz n)<|
 .seq (.region [o 4<|.mv<|.c<|.int .i64<|-1])<|
 .ret
def Zp{α:Type}(p:α->Bool):List α->Int->Int
 |[],_=>-1
 |x::r,i=>bif p x then i else Zp p r<|i+1
def Yu(n:Option Nat)(e:AV):Prop:=clean e=true/\takeC n e.cells=some e
def Vd{α:Type}(sz:Nat)(g:Nat)(cap:List AV)(enc:α->AV)(l:List α)(bw ex:Bool)(i:Nat):Fr:=
 [(0,.isl bw ex sz<|l.map enc),(1,.clo (.func g) [] cap),(7,.int .i64 l.length),(8,.int .i64 i)]
def Z0B{E:Env}{α:Type}{sz:Nat}{n:Option Nat}{enc:α->AV}{p:α->Bool}{g:Nat}{cap:List AV}(hcap:Z4 cap=true)(l:List α)(hl:l.length<=4611686018427387904)(henc:∀x∈l,Yu n<|enc x)
 (hp:∀x∈l,pfn E g (enc x::cap)=some (.bool<|p x)) (bw ex:Bool):∀(post pre:List α),l=pre++post->
  ∃fr',Zb E (.loop [0,1,7,8]<|XB sz n) (Vd sz g cap enc l bw ex pre.length) []=some (if Zp p post pre.length=-1 then .exit 0 else .ret,fr',[])/\(Zp p post pre.length≠-1->get fr' 4=.int .i64 (Zp p post pre.length)):=by
 intro post;induction post with
 |nil=>
  intro pre hpre;have hd:decide ((pre.length:Int)<(l.length:Int))=false:=by subst hpre;simp
  rw[J2];unfold Vd;simp only[go_sem,XB,hd,qy,reduceIte,Zp];exact⟨_,rfl,λh=>absurd rfl h⟩
 |cons x post ih=>
  intro pre hpre;have hx:x∈l:=by rw[hpre];simp
  have hlen:pre.length<l.length:=by rw[hpre];simp
  have hd:decide ((pre.length:Int)<(l.length:Int))=true:=by simpa using hlen
  have hget:ixG (l.map enc) (pre.length:Int)=some (enc x):=by rw[hpre,ZWM,ZWI];have:=RK (pre.map enc) (enc x)<|post.map enc;rwa[ZWm]at this
  have htk:=(henc x hx).2;have hcl:Z4 (enc x::cap)=true:=by simp[Z4,(henc x hx).1,hcap]
  have hpx:=hp x hx;rw[J2];unfold Vd;have hw:IntKind.i64.wrap ((pre.length:Int)+1)=((pre++[x]).length:Int):=by rw[Zx<|by omega];simp
  have hw':((pre++[x]).length:Int)=(pre.length:Int)+1:=by simp
  cases hpv:p x with
  |true=>
   have h0:((pre.length:Int)=-1)=False:=by simp
   simp only[go_sem,XB,hd,hget,htk,hcl,hpx,hpv,qy,reduceIte,Zp,ZWZ,ZWO,h0];exact⟨_,rfl,λ_=>rfl⟩
  |false=>
   obtain⟨fr',h1,h2⟩:=ih (pre++[x])<|by simp[hpre]
   rw[hw']at h1 h2;simp only[go_sem,XB,hd,hget,htk,hcl,hpx,hpv,hw,qy,reduceIte,Zp,ZWZ,ZWO];exact⟨fr',(Dl<|by rfl).trans h1,h2⟩
def WF{E:Env}{f:Nat}{α:Type}{sz:Nat}{n:Option Nat}{enc:α->AV}{p:α->Bool}{g:Nat}{cap:List AV}(hs:E.sum f=none)(hf:E.fn f=some ⟨[.tmp 4],GR sz n⟩)(hcap:Z4 cap=true)(l:List α)(hl:l.length<=4611686018427387904)
 (henc:∀x∈l,Yu n<|enc x) (hp:∀x∈l,pfn E g (enc x::cap)=some (.bool<|p x)) (bw ex:Bool):pfn E f [.isl bw ex sz<|l.map enc,.clo (.func g) [] cap]=some (.int .i64<|Zp p l 0):=by
 rw[Z5 hs hf];obtain⟨fr',h1,h2⟩:=Z0B (E:=E) hcap l hl henc hp bw ex l [] rfl;have hr:Z2 [0,1,7,8] [(8,AV.int .i64 0),(7,AV.int .i64 l.length),(6,AV.isl bw ex sz<|l.map enc),(4,AV.int .i64 0),(0,AV.isl bw ex sz<|l.map enc),(1,AV.clo (.func g) [] cap)]=Z2 [0,1,7,8] (Vd sz g cap enc l bw ex 0):=by rfl
 have hL:Zb E (.loop [0,1,7,8]<|XB sz n) [(0,AV.isl bw ex sz<|l.map enc),(1,AV.clo (.func g) [] cap),(7,AV.int .i64 l.length),(8,AV.int .i64 0)] []=some (if Zp p l 0=-1 then .exit 0 else .ret,fr',[]):=h1
 unfold GR;by_cases h0:Zp p l 0=-1
 .rw[if_pos h0]at hL;simp only[go_sem,hL,h0,qy,Nat.reduceAdd,ZWm]
 .rw[if_neg h0]at hL;have h3:get fr' 4=AV.int .i64 (Zp p l 0):=h2 h0;simp only[go_sem,hL,h3,qy,Nat.reduceAdd,ZWm]
structure SL(α:Type) where
 bw:Bool:=false
 ex:Bool:=false
 l:List α
 deriving DecidableEq
structure NL(α:Type) where
 ex:Bool:=false
 l:List α
 deriving DecidableEq
abbrev Str:=ByteArray
structure Pt where
 X:Int
 Y:Int
 deriving DecidableEq
structure HN where
 N:Int
 bm:Str
 Num:Int
 Den:Int
 deriving DecidableEq
structure Nm where
 Lang:Str
 Script:Int
 Text:Str
 deriving DecidableEq
structure Ent where
 Id:Str
 An:HN
 bg:Pt
 deriving DecidableEq
structure Gm where
 Id:Str
 bq:Int
 bh:Int
 Ring:NL Pt
 bk:NL Nm
 Ld:Int
structure Ev where
 Id:Str
 bh:Int
 Line:NL Pt
 bk:NL Nm
 Ld:Int
structure Fa where
 Id:Str
 bh:Int
 Ring:NL Pt
 Ld:Int
structure Gc where
 Id:Str
 Fa:Str
 Ev:Str
 bh:Int
 An:HN
 bg:Pt
 From:Int
 Ld:Int
 After:NL Str
 Why:Int
 bv:Int
 Veil:Str
structure be where
 Id:Str
 Gc:Str
 Text:Str
 From:Int
 Ld:Int
 Why:Int
 deriving DecidableEq
structure bf where
 a:Int
 b:Int
 deriving DecidableEq
structure State where
 Ga:SL Gm
 Gr:SL Ev
 By:SL Fa
 Bc:SL Gc
 Nk:SL be
 Gk:SL bf
 Wk:SL bf
structure Gt where
 bq:Int
 Day:Int
 A:Int
 B:Int
 bv:Int
 Id:Str
 br:Str
 Text:Str
 Ids:NL Str
 bk:NL Nm
 An:HN
 bg:Pt
 Path:NL Pt
 Lst:NL Ent
abbrev I(n:Int):AV:=.int .i64 n
def SL.enc{α:Type}(sz:Nat)(f:α->AV)(s:SL α):AV:=.isl s.bw s.ex sz<|s.l.map f
def NL.enc{α:Type}(sz:Nat)(f:α->AV)(s:NL α):AV:=.isl false s.ex sz<|s.l.map f
def Pt.enc(p:Pt):AV:=.agg [.int .i64 p.X,.int .i64 p.Y]
def HN.enc(n:HN):AV:=.agg [.int .i64 n.N,.str n.bm,.int .i64 n.Num,.int .i64 n.Den]
def Nm.enc(n:Nm):AV:=.agg [.str n.Lang,.int .i64 n.Script,.str n.Text]
def Ent.enc(e:Ent):AV:=.agg [.str e.Id,.int .i64 e.An.N,.str e.An.bm,.int .i64 e.An.Num,.int .i64 e.An.Den,.int .i64 e.bg.X,.int .i64 e.bg.Y]
def encS(s:Str):AV:=.str s
def Gm.enc(x:Gm):AV:=.agg [.str x.Id,.int .i64 x.bq,.int .i64 x.bh,x.Ring.enc 2 Pt.enc,x.bk.enc 3 Nm.enc,.int .i64 x.Ld]
def Ev.enc(x:Ev):AV:=.agg [.str x.Id,.int .i64 x.bh,x.Line.enc 2 Pt.enc,x.bk.enc 3 Nm.enc,.int .i64 x.Ld]
def Fa.enc(x:Fa):AV:=.agg [.str x.Id,.int .i64 x.bh,x.Ring.enc 2 Pt.enc,.int .i64 x.Ld]
def Gc.enc(d:Gc):AV:=.agg [.str d.Id,.str d.Fa,.str d.Ev,.int .i64 d.bh,.int .i64 d.An.N,.str d.An.bm,.int .i64 d.An.Num,.int .i64 d.An.Den,.int .i64 d.bg.X,.int .i64 d.bg.Y,
 .int .i64 d.From,.int .i64 d.Ld,d.After.enc 1 encS,.int .i64 d.Why,.int .i64 d.bv,.str d.Veil]
def be.enc(u:be):AV:=.agg [.str u.Id,.str u.Gc,.str u.Text,.int .i64 u.From,.int .i64 u.Ld,.int .i64 u.Why]
def bf.enc(p:bf):AV:=.agg [.int .i64 p.a,.int .i64 p.b]
def State.cells(s:State):List AV:=[s.Ga.enc 6 Gm.enc,s.Gr.enc 5 Ev.enc,s.By.enc 4 Fa.enc,s.Bc.enc 16 Gc.enc,s.Nk.enc 6 be.enc,s.Gk.enc 2 bf.enc,s.Wk.enc 2 bf.enc]
def State.enc(s:State):AV:=.agg s.cells
def Gt.cells(e:Gt):List AV:=[.int .i64 e.bq,.int .i64 e.Day,.int .i64 e.A,.int .i64 e.B,.int .i64 e.bv,.str e.Id,.str e.br,.str e.Text,e.Ids.enc 1 encS,e.bk.enc 3 Nm.enc,
 .int .i64 e.An.N,.str e.An.bm,.int .i64 e.An.Num,.int .i64 e.An.Den,.int .i64 e.bg.X,.int .i64 e.bg.Y,e.Path.enc 2 Pt.enc,e.Lst.enc 7 Ent.enc]
def Gt.enc(e:Gt):AV:=.agg e.cells
def Pt.el(p:Pt):Yu (some 2) p.enc:=⟨(rfl),(rfl)⟩
def Nm.el(p:Nm):Yu (some 3) p.enc:=⟨(rfl),(rfl)⟩
def Ent.el(p:Ent):Yu (some 7) p.enc:=⟨(rfl),(rfl)⟩
def Z0C(p:Str):Yu none (encS p):=⟨(rfl),(rfl)⟩
def Gm.el(p:Gm):Yu (some 6) p.enc:=⟨(rfl),(rfl)⟩
def Ev.el(p:Ev):Yu (some 5) p.enc:=⟨(rfl),(rfl)⟩
def Fa.el(p:Fa):Yu (some 4) p.enc:=⟨(rfl),(rfl)⟩
def Gc.el(p:Gc):Yu (some 16) p.enc:=⟨(rfl),(rfl)⟩
def be.el(p:be):Yu (some 6) p.enc:=⟨(rfl),(rfl)⟩
def bf.el(p:bf):Yu (some 2) p.enc:=⟨(rfl),(rfl)⟩
def NL.clean_enc{α:Type}(sz:Nat)(f:α->AV)(s:NL α):clean (s.enc sz f)=true:=(rfl)
def Gt.clean_enc(e:Gt):clean e.enc=true:=(rfl)
def Gt.cleans_cells(e:Gt):Z4 e.cells=true:=(rfl)
def State.noref_enc(s:State):Zy s.enc=true:=(rfl)
def NL.noref_enc{α:Type}(sz:Nat)(f:α->AV)(s:NL α):Zy (s.enc sz f)=true:=(rfl)
def SL.noref_enc{α:Type}(sz:Nat)(f:α->AV)(s:SL α):Zy (s.enc sz f)=true:=(rfl)
def Gt.noref_enc(e:Gt):Zy e.enc=true:=(rfl)
def NL.msz_enc{α:Type}(sz:Nat)(f:α->AV)(s:NL α):msz (s.enc sz f)=1:=(rfl)
def SL.msz_enc{α:Type}(sz:Nat)(f:α->AV)(s:SL α):msz (s.enc sz f)=1:=(rfl)
def State.msz_enc(s:State):msz s.enc=16:=by simp[State.enc,State.cells,msz,QJ,SL.msz_enc]
def Gt.msz_enc(e:Gt):msz e.enc=38:=by simp[Gt.enc,Gt.cells,msz,QJ,NL.msz_enc]
attribute [go_sem] NL.noref_enc SL.noref_enc Gt.noref_enc NL.msz_enc SL.msz_enc State.msz_enc Gt.msz_enc NL.clean_enc Gt.clean_enc State.noref_enc
def Z6{α:Type}{f:α->AV}{l:List α}{i:Nat}{x:α}(h:l[i]?=some x):(l.map f)[i]?=some (f x):=by simp[h]
def Z7{α:Type}{l:List α}{i:Nat}{x:α}(h:l[i]?=some x):i<l.length:=(ZWx.1 h).1
def Zh{i n:Nat}(h:i<n):decide ((i:Int)<(n:Int))=true:=by simpa using h
def ZG(n:Nat):decide ((n:Int)<(n:Int))=false:=by simp
def cellV(h:Hp)(n:Option Nat):AV->Option AV
 | .ptr b i off g=>ldE n i off<|rowAt h b g
 | .iptr _ cs=>takeC n cs
 |_=>none
def Z0D(h:Hp)(n:Option Nat)(b i off g:Nat):cellV h n (.ptr b i off g)=ldE n i off (rowAt h b g):=rfl
def Dq(fr:Fr)(h:Hp)(t:Nat)(n:Option Nat):WX fr h (.cell t n)=cellV h n (get fr t):=by
 simp only[WX,cellV];generalize get fr t=v;cases v<;>first|rfl|skip
 case ptr b i off g=>
  simp only[rowAt,ldE];cases h[b]? with
  |none=>rfl
  |some o=>
   cases o<;>first|rfl|skip
   case row sz es=>dsimp only;cases(es.length==g)<;>first|rfl|(simp only[cond_true];cases es[i]?<;>rfl)
def Z0F(fr:Fr)(h:Hp)(t:Nat)(n:Option Nat):QO fr h [.cell t n]=cellV h n (get fr t):=by
 simp only[QO,YD,Dq];cases cellV h n (get fr t)<;>rfl
attribute [go_sem] Z0D Z0F
abbrev W(n:Int):Int:=IntKind.i64.wrap n
def st1(off:Nat):List AV->Option AV
 |[c]=>bif off==0 then some c else none
 |_=>none
def Z0G(off:Nat)(c:AV):st1 off [c]=bif off==0 then some c else none:=rfl
def Z0H(off n:Nat)(v:AV)(k:IntKind)(m:Int):stE off n v (.int k m)=st1 off v.cells:=rfl
def Z0I(off n:Nat)(v:AV)(b:Bool):stE off n v (.bool b)=st1 off v.cells:=rfl
def Z0K(off n:Nat)(v:AV)(bw ex:Bool)(sz:Nat)(es:List AV):stE off n v (.isl bw ex sz es)=st1 off v.cells:=rfl
def Z0L(off n:Nat)(v:AV)(b g o l:Nat)(ex:Bool):stE off n v (.sl b g o l ex)=st1 off v.cells:=rfl
attribute [go_sem] Z0G Z0H Z0I Z0K Z0L
def Ug:Option AV->Option (List AV)->Option (List AV)
 |some v,some vs=>some<|v::vs
 |_,_=>none
def Z0M(v:AV)(vs:List AV):Ug (some v) (some vs)=some (v::vs):=rfl
def GS:Option (List AV)->Option AV
 |some [v]=>some v
 |some vs=>some<|.tup vs
 |none=>none
def Z0O(v w:AV)(vs:List AV):GS (some<|v::w::vs)=some (.tup<|v::w::vs):=rfl
def Z0P(fr:Fr)(h:Hp)(rs:List ResVar):QO fr h rs=GS (YD fr h rs):=by
 unfold QO GS;rcases YD fr h rs with _|(_|⟨a,_|⟨b,l⟩⟩)<;>rfl
def Z0Q(fr:Fr)(h:Hp):YD fr h []=some []:=rfl
def Z0R(fr:Fr)(h:Hp)(r:ResVar)(rs:List ResVar):YD fr h (r::rs)=Ug (WX fr h r) (YD fr h rs):=by
 simp only[YD,Ug];cases WX fr h r<;>cases YD fr h rs<;>rfl
def Z0S(fr:Fr)(h:Hp)(t:Nat):WX fr h (.tmp t)=some (get fr t):=rfl
attribute [go_sem] Z0M Z0O Z0Q Z0R Z0S Dq
attribute [go_sem 900] Z0P
def Z0T(n:Nat)(a b:List AV):Zd n (a++b)=(Zd n a&&Zd n b):=by
 induction a with
 |nil=>simp[Zd]
 |cons x a ih=>simp[Zd,ih,ZXO]
attribute [go_sem] Z0T XA
def N9:Option (List AV)->Option AV
 |some vs=>some<|.tup vs
 |none=>none
def Z0V(vs:List AV):N9 (some vs)=some (.tup vs):=rfl
def GT(bw ex:Bool)(sz:Nat):Option (List AV)->Option AV
 |some vs=>some<|.isl bw ex sz vs
 |none=>none
def Z0W(bw ex:Bool)(sz:Nat)(vs:List AV):GT bw ex sz (some vs)=some (.isl bw ex sz vs):=rfl
def GU(bw:Bool):Option (List AV)->Option AV
 |some vs=>some<|.iptr bw vs
 |none=>none
def Z0X(bw:Bool)(vs:List AV):GU bw (some vs)=some (.iptr bw vs):=rfl
def Z0Y{bw:Bool}{h:Hp}{n:Nat}{l:List AV}(hc:Z4 l=true):ZC bw h (n+1) l=some l:=by
 unfold ZC;rw[hc];rfl
def Z0Z{bw:Bool}{h:Hp}{n:Nat}{v:AV}(hc:clean v=true):freeze bw h (n+1) v=some v:=by
 unfold freeze;rw[hc];rfl
def Z10(bw:Bool)(h:Hp)(n:Nat)(v:AV)(r:List AV)(hc:Z4 (v::r)=false):ZC bw h (n+1) (v::r)=Ug (freeze bw h n v) (ZC bw h n r):=by
 conv=>lhs;unfold ZC
 rw[hc,cond_false];simp only[Ug];cases freeze bw h n v<;>cases ZC bw h n r<;>rfl
def Z11(bw:Bool)(h:Hp)(n:Nat)(cs:List AV)(hc:Z4 cs=false):freeze bw h (n+1) (.tup cs)=N9 (ZC bw h n cs):=by
 conv=>lhs;unfold freeze
 have:clean (.tup cs)=false:=hc;rw[this,cond_false];simp only[N9];cases ZC bw h n cs<;>rfl
def Z12(bw:Bool)(h:Hp)(n:Nat)(cs:List AV)(hc:Z4 cs=false):freeze bw h (n+1) (.agg cs)=U7 (ZC bw h n cs):=by
 conv=>lhs;unfold freeze
 have:clean (.agg cs)=false:=hc;rw[this,cond_false];simp only[U7];cases ZC bw h n cs<;>rfl
def Na(bw:Bool)(h:Hp)(n off len:Nat)(ex:Bool):Option (Nat×List AV)->Option AV
 |some (sz,es)=>GT bw (bw&&ex) sz<|ZC bw h n<|(es.drop off).take len
 |none=>none
def Z13(bw:Bool)(h:Hp)(n off len:Nat)(ex:Bool)(sz:Nat)(es:List AV):Na bw h n off len ex (some (sz,es))=GT bw (bw&&ex) sz (ZC bw h n<|(es.drop off).take len):=rfl
def Z14(bw:Bool)(h:Hp)(n b g off len:Nat)(ex:Bool):freeze bw h (n+1) (.sl b g off len ex)=Na bw h n off len ex (rowAt h b g):=by
 conv=>lhs;unfold freeze
 simp only[clean,cond_false,rowAt,Na];cases h[b]? with
 |none=>rfl
 |some o=>
  cases o<;>first|rfl|skip
  case row sz es=>
   dsimp only;cases(es.length==g)
   .rfl
   .simp only[cond_true,GT];cases ZC bw h n ((es.drop off).take len)<;>rfl
def GV(bw:Bool)(h:Hp)(n off:Nat):Option AV->Option AV
 |some e=>GU bw<|ZC bw h n<|e.cells.drop off
 |none=>none
def Z15(bw:Bool)(h:Hp)(n off:Nat)(e:AV):GV bw h n off (some e)=GU bw (ZC bw h n<|e.cells.drop off):=rfl
def Nb(bw:Bool)(h:Hp)(n i off:Nat):Option (Nat×List AV)->Option AV
 |some (_,es)=>GV bw h n off es[i]?
 |none=>none
def Z16(bw:Bool)(h:Hp)(n i off sz:Nat)(es:List AV):Nb bw h n i off (some (sz,es))=GV bw h n off es[i]?:=rfl
def Z17(bw:Bool)(h:Hp)(n b i off g:Nat):freeze bw h (n+1) (.ptr b i off g)=Nb bw h n i off (rowAt h b g):=by
 conv=>lhs;unfold freeze
 simp only[clean,cond_false,rowAt,Nb];cases h[b]? with
 |none=>rfl
 |some o=>
  cases o<;>first|rfl|skip
  case row sz es=>
   dsimp only;cases(es.length==g)
   .rfl
   .simp only[cond_true,GV];cases es[i]? with
    |none=>rfl
    |some e=>simp only[GU];cases ZC bw h n (e.cells.drop off)<;>rfl
attribute [go_sem] Z0V Z0W Z0X Z10 Z11 Z12 Z13 Z14 Z15 Z16 Z17
attribute [go_sem 1100] Z0Y Z0Z
def XC{h:Hp}{b g sz bytes:Nat}{es ys:List AV}{bw ex fz:Bool}(hr:rowAt h b g=some (sz,es))(hy:ys.isEmpty=false)(hf:ys.all (fits sz)=true)(h0:0<sz)(h1:0<bytes)(h2:(g+ys.length)*bytes<=140737488355328):
 appW h fz sz bytes (.sl b g 0 g false) (.isl bw ex sz ys)=some (.sl b (g+ys.length) 0 (g+ys.length) false,setH h b<|.row sz<|es++ys):=by
 unfold rowAt at hr;cases hb:h[b]? with
 |none=>rw[hb]at hr;cases hr
 |some o=>
  rw[hb]at hr;cases o with
  |row sz' es'=>
   dsimp only at hr;cases hg:(es'.length==g)with
   |false=>rw[hg]at hr;cases hr
   |true=>
    rw[hg]at hr;simp only[cond_true,Option.some.injEq,Prod.mk.injEq]at hr;obtain⟨rfl,rfl⟩:=hr;have hl:es'.length=g:=by simpa using hg
    have ht:List.take g es'=es':=ZWL<|by omega
    subst hl;simp only[appW,Qt,Q2,hb,hg,cond_true,ZXu,ht,Qq,beq_self_eq_true,ZWC,h0,h1,h2,and_self,if_true,hy,cond_false,ZM,ZH,hf,ZX9]
  |_=>cases hr
def Z9Z{h:Hp}{sz bytes:Nat}{s:AV}{es:List AV}{bw ex fz:Bool}(he:Q2 h s=some es)(hz:Qq h sz s=true)(h0:0<sz)(h1:0<bytes)(h2:es.length*bytes<=140737488355328):
 appW h fz sz bytes s (.isl bw ex sz [])=some (s,h):=by
 have e2:Q2 h (.isl bw ex sz [])=some []:=rfl;have hz2:Qq h sz (.isl bw ex sz [])=true:=by simp[Qq]
 unfold appW Qt;rw[he,e2];dsimp only;rw[if_pos ⟨hz,hz2,h0,h1,by simpa using h2⟩]
 rfl
def Y8{E:Env}{live:List Nat}{b:ACode}(n:Nat)(S:Nat->Fr)(H:Nat->Hp)(hr:∀i,Z2 live (S i)=S i)
 (step:∀i,i<n->∃fr',Zb E b (S i) (H i)=some (.normal,fr',H<|i+1)/\Z2 live fr'=S (i+1))
 {e:AExit} {fr:Fr} {h:Hp} (last:Zb E b (S n) (H n)=some (e,fr,h)) (he:e≠.normal):Zg E live b (S 0) (H 0)=some (e,fr,h):=by
 suffices G:∀k i,k+i=n->Zg E live b (S i) (H i)=some (e,fr,h)from G n 0<|by omega
 intro k;induction k with
 |zero=>
  intro i hi;have:i=n:=by omega
  subst this;exact Q7 (hr _) last he
 |succ k ih=>
  intro i hi;obtain⟨fr',h1,h2⟩:=step i<|by omega
  rw[Yt (hr _) h1,h2];exact ih (i+1)<|by omega
def ZDU{E:Env}{α:Type}{live:List Nat}{b:ACode}{h:Hp}(l:List α)(P:α->Bool)(S:Nat->Fr)(out:Nat)(Q:Nat->Fr->Prop)
 (hr:∀i,Z2 live (S i)=S i)
 (good:∀i x,l[i]?=some x->P x=false->∃fr',Zb E b (S i) h=some (.normal,fr',h)/\Z2 live fr'=S (i+1))
 (hit:∀i x,l[i]?=some x->P x=true->∃fr',Zb E b (S i) h=some (.ret,fr',h)/\Q i fr')
 (last:∃fr',Zb E b (S l.length) h=some (.exit out,fr',h)):
 ∃fr',Zg E live b (S 0) h=some (if Zp P l 0=-1 then .exit out else .ret,fr',h)/\(Zp P l 0≠-1->∃i:Nat,Zp P l 0=(i:Int)/\Q i fr'):=by
 suffices G:∀(post pre:List α),l=pre++post->∃fr',Zg E live b (S pre.length) h=some (if Zp P post pre.length=-1 then .exit out else .ret,fr',h)/\(Zp P post pre.length≠-1->∃i:Nat,Zp P post pre.length=(i:Int)/\Q i fr')from G l [] rfl
 intro post;induction post with
 |nil=>
  intro pre hp;obtain⟨fr',h1⟩:=last;have:l.length=pre.length:=by rw[hp];simp
  rw[this]at h1;exact⟨fr',by simpa[Zp]using Q7 (hr _) h1 (by simp),λh=>by simp[Zp]at h⟩
 |cons x post ih=>
  intro pre hp;have hx:l[pre.length]?=some x:=by rw[hp];simp
  cases hP:P x with
  |false=>
   obtain⟨fr1,h1,h2⟩:=good _ _ hx hP;obtain⟨fr',h3,h4⟩:=ih (pre++[x])<|by simp[hp]
   have e:((pre++[x]).length:Int)=(pre.length:Int)+1:=by simp
   rw[e]at h3 h4;rw[ZWz,ZXs]at h3;refine⟨fr',?_,?_⟩
   .rw[Yt (hr _) h1,h2,h3];simp only[Zp,hP,cond_false]
   .simpa only[Zp,hP,cond_false]using h4
  |true=>
   obtain⟨fr',h1,h2⟩:=hit _ _ hx hP;have e:Zp P (x::post) pre.length=(pre.length:Int):=by simp[Zp,hP]
   have ne:((pre.length:Int)=-1)=False:=by simp
   refine⟨fr',?_,λ_=>⟨pre.length,e,h2⟩⟩
   rw[Q7 (hr _) h1 (by simp),e]
   simp only[ne,if_false]
def QT{E:Env}{α:Type}{live:List Nat}{b:ACode}{h:Hp}(l:List α)(P:Nat->α->Bool)(S:Nat->Fr)(out:Nat)(Q0 Q:Fr->Prop)
 (hr:∀i,Z2 live (S i)=S i)
 (good:∀i x,l[i]?=some x->P i x=true->∃fr',Zb E b (S i) h=some (.normal,fr',h)/\Z2 live fr'=S (i+1))
 (bad:∀i x,l[i]?=some x->P i x=false->∃fr',Zb E b (S i) h=some (.ret,fr',h)/\Q fr')
 (last:∃fr',Zb E b (S l.length) h=some (.exit out,fr',h)/\Q0 fr'):
 ∃fr',Zg E live b (S 0) h=some (if Zu P 0 l=true then .exit out else .ret,fr',h)/\(Zu P 0 l=true->Q0 fr')/\(Zu P 0 l=false->Q fr'):=by
 obtain⟨fr',h1,h2⟩:=Uf (E:=E) (live:=live) (b:=b) (h:=h) l P S out (λfr=>Q fr) hr good bad (by obtain⟨fr',h1,_⟩:=last;exact⟨fr',h1⟩)
 refine⟨fr',h1,λht=>?_,h2⟩
 obtain⟨fr2,h3,h4⟩:=last
 suffices G:∀k i,k+i=l.length->Zu P i (l.drop i)=true->Zg E live b (S i) h=some (.exit out,fr2,h)by
  have:=G l.length 0 (by omega)<|by simpa using ht
  rw[this,if_pos ht]at h1;cases h1;exact h4
 intro k;induction k with
 |zero=>
  intro i hi _;have:i=l.length:=by omega
  subst this;exact Q7 (hr _) h3<|by simp
 |succ k ih=>
  intro i hi ht;have hlt:i<l.length:=by omega
  rw[ZXZ hlt]at ht;simp only[Zu,ZWn]at ht;obtain⟨fr',h1,h2⟩:=good i l[i] (ZWu hlt) ht.1;rw[Yt (hr _) h1,h2];exact ih (i+1) (by omega) ht.2
def Jc(a b:Nat):Int.tmod (a:Int) (b:Int)=((a%b:Nat):Int):=rfl
def nat_ne{n:Nat}(h:0<n):((n:Int)=0)=False:=by simp;omega
def Ds{n i x:Nat}(h:(List.range n)[i]?=some x):x=i/\i<n:=by
 obtain⟨h1,h2⟩:=ZWx.1 h;simp at h1 h2;exact⟨h2.symm,h1⟩
def Dt{a n i x:Nat}(h:(List.range' a n)[i]?=some x):x=a+i/\i<n:=by
 obtain⟨h1,h2⟩:=ZWx.1 h;simp at h1 h2;exact⟨by omega,h1⟩
def Z19(a:AObj)(b:Bool):trimB 1 [a] b=[a]:=by cases b<;>rfl
def Z1a(a a':AObj)(b:Bool):trimB 2 [a,a'] b=[a,a']:=by cases b<;>rfl
def Z1b(a a' a'':AObj)(b:Bool):trimB 3 [a,a',a''] b=[a,a',a'']:=by cases b<;>rfl
attribute [go_sem] decide_true decide_false Bool.not_true Bool.not_false Bool.true_and Bool.false_and Bool.and_true Bool.and_false List.getElem?_cons_zero List.getElem?_cons_succ List.length_append Option.map_none Option.map_some
variable [REdz]
def gOn(p:Pt):Bool:=decide (min p.X p.Y>=0)&&decide (max p.X p.Y<=32767)
def XD(l:List Pt):Bool:=l.all gOn
def Yv(a b:Pt):Pt:=⟨W<|b.X-a.X,W<|b.Y-a.Y⟩
def Uh(v w:Pt):Int:=W<|W (v.X*w.Y)-W (v.Y*w.X)
def Nc(v w:Pt):Int:=W<|W (v.X*w.X)+W (v.Y*w.Y)
structure Seg where
 a:Pt
 b:Pt
 v:Pt
def XE(a b:Pt):Seg:=⟨a,b,Yv a b⟩
def sgn(n:Int):Int:=bif decide (n>0)then 1 else bif decide (n<0)then -1 else 0
def Ve(s:Seg)(p:Pt):Int:=sgn<|Uh s.v<|Yv s.a p
def Jd(a b c:Pt):Int:=bif XD [a,b,c]then Ve (XE a b) c else 0
def QK(a b:Pt):Bool:=a.X==b.X&&a.Y==b.Y
def W7(p a b:Pt):Bool:=
 bif XD [p,a,b]then
  (bif QK p a then true else bif QK p b then true else bif Ve (XE a b) p==0 then decide (Nc (Yv p a) (Yv p b)<0)else false)
 else false
def VV(s:Seg)(a b:Pt):Bool:=decide (W (Ve s a*Ve s b)<0)
def Ui(a b c d:Pt):Int:=
 bif XD [a,b,c,d]then
  (bif W7 a c d||W7 b c d||W7 c a b||W7 d a b then 1
   else bif VV (XE a b) c d&&VV (XE c d) a b then 2 else 0)
 else 0
def Seg.enc(s:Seg):AV:=.agg [I s.a.X,I s.a.Y,I s.b.X,I s.b.Y,I s.v.X,I s.v.Y]
def W8(p:Pt):pfn rE 203 [.agg [I p.X,I p.Y]]=some (.bool<|gOn p):=by
 rw[Z5 (f:=203) rfl rfl];unfold gOn;cases h1:decide (min p.X p.Y>=0)<;>simp only[go_sem,c203,h1]
def Nd(a b:Pt):pfn rE 356 [.agg [I a.X,I a.Y],.agg [I b.X,I b.Y]]=some (.agg [I (Yv a b).X,I (Yv a b).Y]):=by
 rw[Z5 (f:=356) rfl rfl];unfold Yv;simp only[go_sem,c356]
def Z1c(a b:Pt):pfn rE 357 [.agg [I a.X,I a.Y],.agg [I b.X,I b.Y]]=some (I<|Uh a b):=by
 rw[Z5 (f:=357) rfl rfl];unfold Uh;simp only[go_sem,c357]
def Z1d(a b:Pt):pfn rE 358 [.agg [I a.X,I a.Y],.agg [I b.X,I b.Y]]=some (I<|Nc a b):=by
 rw[Z5 (f:=358) rfl rfl];unfold Nc;simp only[go_sem,c358]
def Vf(a b:Pt):pfn rE 344 [.agg [I a.X,I a.Y],.agg [I b.X,I b.Y]]=some (.agg [I a.X,I a.Y,I b.X,I b.Y,I (Yv a b).X,I (Yv a b).Y]):=by
 rw[Z5 (f:=344) rfl rfl];simp only[go_sem,c344,Nd]
def Du(s:Seg)(p:Pt):pfn rE 345 [.agg [I s.a.X,I s.a.Y,I s.b.X,I s.b.Y,I s.v.X,I s.v.Y],.agg [I p.X,I p.Y]]=some (I<|Ve s p):=by
 rw[Z5 (f:=345) rfl rfl];unfold Ve sgn;cases h1:decide (Uh s.v (Yv s.a p)>0)<;>cases h2:decide (Uh s.v (Yv s.a p)<0)<;>simp only[go_sem,c345,Nd,Z1c,h1,h2]
def Nf(bw ex:Bool)(l:List Pt)(hl:l.length<9223372036854775807):pfn rE 343 [.isl bw ex 2<|l.map Pt.enc]=some (.bool<|XD l):=by
 have L:=Uf (E:=rE) (live:=[5,6,7]) (b:=c343L0b) (h:=[]) l (λ_ x=>gOn x) (λi=>[(5,.isl bw ex 2<|l.map Pt.enc),(6,I l.length),(7,I i)]) 0 (λfr=>get fr 2=.bool false) (λi=>rfl)
  (λi x hx hP=>by
   have hg:=Z6 (f:=Pt.enc) hx;have hi:=Zh<|Z7 hx;have hw:=Zx (n:=i) (by have:=Z7 hx;omega)
   refine⟨_,by simp only[go_sem,c343L0b,hg,hi,hw,hP,Pt.enc,W8];rfl,?_⟩
   simp only[go_sem])
  (λi x hx hP=>by
   have hg:=Z6 (f:=Pt.enc) hx;have hi:=Zh<|Z7 hx;refine⟨_,by simp only[go_sem,c343L0b,hg,hi,hP,Pt.enc,W8];rfl,?_⟩
   simp only[go_sem])
  (⟨_,by simp only[go_sem,c343L0b,ZG];rfl⟩)
 rw[Z5 (f:=343) rfl rfl];rw[QE]at L;obtain⟨fr',h1,h2⟩:=L;have h1':Zg rE [5,6,7] c343L0b [(5,.isl bw ex 2<|l.map Pt.enc),(6,I l.length),(7,.int .i64 0)] []=_:=h1;unfold XD;cases hc:l.all gOn with
 |true=>rw[hc]at h1';simp only[go_sem,c343,c343L0,h1']
 |false=>
  rw[hc]at h1';have h2':=h2 hc;simp only[go_sem,c343,c343L0,h1',h2',ZWt]
def Dv(a b c:Pt):pfn rE 343 [.isl false false 2 [.agg [I a.X,I a.Y],.agg [I b.X,I b.Y],.agg [I c.X,I c.Y]]]=some (.bool<|XD [a,b,c]):=Nf false false [a,b,c]<|by simp
def Je(a b c d:Pt):pfn rE 343 [.isl false false 2 [.agg [I a.X,I a.Y],.agg [I b.X,I b.Y],.agg [I c.X,I c.Y],.agg [I d.X,I d.Y]]]=some (.bool<|XD [a,b,c,d]):=Nf false false [a,b,c,d]<|by simp
def Dw(a b p:Pt):pfn rE 345 [.agg [I a.X,I a.Y,I b.X,I b.Y,I (Yv a b).X,I (Yv a b).Y],.agg [I p.X,I p.Y]]=some (I<|Ve (XE a b) p):=Du (XE a b) p
def Ng(a b c:Pt):pfn rE 318 [.agg [I a.X,I a.Y],.agg [I b.X,I b.Y],.agg [I c.X,I c.Y]]=some (I<|Jd a b c):=by
 rw[Z5 (f:=318) rfl rfl];unfold Jd;cases h1:XD [a,b,c]<;>simp only[go_sem,c318,Vf,Dv,Dw,h1]
def Uj(p a b:Pt):pfn rE 346 [.agg [I p.X,I p.Y],.agg [I a.X,I a.Y],.agg [I b.X,I b.Y]]=some (.bool<|W7 p a b):=by
 rw[Z5 (f:=346) rfl rfl];unfold W7;have e1:(p.X==a.X&&p.Y==a.Y)=QK p a:=rfl;have e2:(p.X==b.X&&p.Y==b.Y)=QK p b:=rfl;cases h1:XD [p,a,b]<;>cases h2:QK p a<;>cases h3:QK p b<;>cases h4:Ve (XE a b) p==0<;>simp only[go_sem,c346,Vf,Dv,Dw,Nd,Z1d,e1,e2,h1,h2,h3,h4]
def Z1e(s:Seg)(a b:Pt):pfn rE 347 [.clo (.func 345) [.agg [I s.a.X,I s.a.Y,I s.b.X,I s.b.Y,I s.v.X,I s.v.Y]] [],.agg [I a.X,I a.Y],.agg [I b.X,I b.Y]]=some (.bool<|VV s a b):=by
 rw[Z5 (f:=347) rfl rfl];unfold VV;simp only[go_sem,c347,Du]
def Z1f(a b p q:Pt):pfn rE 347 [.clo (.func 345) [.agg [I a.X,I a.Y,I b.X,I b.Y,I (Yv a b).X,I (Yv a b).Y]] [],.agg [I p.X,I p.Y],.agg [I q.X,I q.Y]]=some (.bool<|VV (XE a b) p q):=Z1e (XE a b) p q
def Dx(a b c d:Pt):pfn rE 319 [.agg [I a.X,I a.Y],.agg [I b.X,I b.Y],.agg [I c.X,I c.Y],.agg [I d.X,I d.Y]]=some (I<|Ui a b c d):=by
 rw[Z5 (f:=319) rfl rfl];unfold Ui;cases h1:XD [a,b,c,d]with
 |false=>simp only[go_sem,c319,Vf,Je,h1]
 |true=>
  cases h2:W7 a c d with
  |true=>simp only[go_sem,c319,Vf,Je,Uj,h1,h2,ZWC]
  |false=>
  cases h3:W7 b c d with
  |true=>simp only[go_sem,c319,Vf,Je,Uj,h1,h2,h3,ZWC,ZX0]
  |false=>
  cases h4:W7 c a b with
  |true=>simp only[go_sem,c319,Vf,Je,Uj,h1,h2,h3,h4,ZWC,ZX0]
  |false=>
  cases h5:W7 d a b with
  |true=>simp only[go_sem,c319,Vf,Je,Uj,h1,h2,h3,h4,h5,ZWC,ZX0]
  |false=>
  cases h6:VV (XE a b) c d<;>cases h7:VV (XE c d) a b<;>simp only[go_sem,c319,Vf,Je,Uj,Z1f,h1,h2,h3,h4,h5,h6,h7,ZXf]
def pAt(l:List Pt)(i:Nat):Pt:=l.getD i ⟨0,0⟩
def Z1g{l:List Pt}{i:Nat}(h:i<l.length):l[i]?=some (pAt l i):=by
 simp[pAt,List.getD,ZWu h]
def YN{l:List Pt}{i:Nat}(h:i<l.length):(l.map Pt.enc)[i]?=some (Pt.enc<|pAt l i):=Z6<|Z1g h
def Jf(p:Pt):Bool:=!gOn p
def Z1h(p:Pt):pfn rE 263 [.agg [I p.X,I p.Y]]=some (.bool<|Jf p):=by
 rw[Z5 (f:=263) rfl rfl];unfold Jf;simp only[go_sem,c263,W8]
def WG{α:Type}(P:α->Bool)(l:List α):Bool:=decide (Zp P l 0>=0)
def Vg{α:Type}(P:α->Bool)(l:List α):WG P l=l.any P:=by
 suffices H:∀(l:List α)(i:Int),0<=i->decide (Zp P l i>=0)=l.any P from H l 0<|by omega
 intro l;induction l with
 |nil=>intro i hi;simp[Zp]
 |cons x r ih=>
  intro i hi;simp only[Zp,ZXq];by_cases h:P x=true
  .simp[h,hi]
  .simp only[ZYQ]at h;simpa[h]using ih (i+1)<|by omega
def Z1i(l:List Pt)(ex:Bool)(hl:l.length<=1000000):pfn rE 262 [.isl false ex 2<|l.map Pt.enc,.clo (.func 263) [] []]=some (.bool<|l.any Jf):=by
 have h1:=WF (E:=rE) (f:=316) (sz:=2) (n:=some 2) (enc:=Pt.enc) (p:=Jf) (g:=263) (cap:=[]) rfl rfl rfl l (by omega) (λx _=>x.el) (λx _=>Z1h x) false ex
 rw[Z5 (f:=262) rfl rfl,<-Vg];unfold WG;simp only[go_sem,c262,h1]
def VW(l:List Pt)(n:Int)(i:Nat):Int:=W<|n+W (W ((pAt l i).X*(pAt l<|(i+1)%l.length).Y)-W ((pAt l<|(i+1)%l.length).X*(pAt l i).Y))
def GW(l:List Pt):Int:=(List.range l.length).foldl (VW l) 0
def XF(v:AV):Fr:=[(7,.clo (.func 342) [] [.iptr false [v]]),(6,v),(3,.ptr 0 0 0 1),(2,I 0),(0,v)]
def twH(v:AV)(n:Int):Hp:=[.row 1 [I n],.loop .ready .normal (XF v) [8,9] c264R0a c264R0b]
def Z1j(v:AV)(hv:Zd 2 [v]=true)(hv4:Zd 5 [v]=true)(n:Int)(p a b:Pt):
 U4 rE 1 [.agg [I a.X,I a.Y],.agg [I b.X,I b.Y]] (twH v n++[.row 2 [.agg [I p.X,I p.Y]]]) =
  some (.bool true,twH v (W<|n+W (W (a.X*b.Y)-W (b.X*a.Y)))++[.row 2 [.agg [I p.X,I p.Y]],.row 2 [.agg [I a.X,I a.Y]],.row 2 [.agg [I b.X,I b.Y]]]):=by
 have hb4:bel 5 v=true:=by simpa[Zd]using hv4
 have h:=Ss (E:=rE) (b:=1) (args:=[.agg [I a.X,I a.Y],.agg [I b.X,I b.Y]]) (h:=twH v n++[.row 2 [.agg [I p.X,I p.Y]]]) (fr:=XF v) (ps:=[8,9]) (assign:=c264R0a) (body:=c264R0b)
  (fr0:=(9,.agg [I b.X,I b.Y])::(8,.agg [I a.X,I a.Y])::XF v) rfl rfl (by simp only[go_sem,c264R0a,twH,XF];rfl) (by rfl)
  (by simp only[go_sem,c264R0b,hb4];rfl) (by rfl)
 exact h
def Z1k{E:Env}{g:Nat}{first cap:List AV}{ps:List Nat}{assign body:ACode}{fr:Fr}{h:Hp}{rs:List ResVar}{c:ACode}(hf:E.fn g=some ⟨rs,c⟩):
 rf E (.clo (.func g) first cap) ps assign body fr h=J0 fr h.length (fnd rs<|Zb E c (QP 0<|first++[.yld h.length]++cap)<|h++[.loop .ready .normal fr ps assign body]):=by
 rw[Sq,LD hf];rfl
def Z1l(ex:Bool)(es:List AV)(h:Hp):fnV rE 317 [.isl false ex 2 es] h=some (.clo (.func 342) [] [.iptr false [.isl false ex 2 es]],h):=by
 rw[Q6 (f:=317) rfl rfl];simp only[go_sem,c317]
def Z1m(l:List Pt)(ex:Bool)(hl:l.length<=1000000):pfn rE 264 [.isl false ex 2<|l.map Pt.enc]=some (I<|GW l):=by
 have L:=Y8 (E:=rE) (live:=[0,1,5,6,7]) (b:=c342L0b) l.length (λi=>[(0,.yld 1),(1,.iptr false [.isl false ex 2<|l.map Pt.enc]),(5,.isl false ex 2<|l.map Pt.enc),(6,I l.length),(7,I i)])
  (λi=>twH (.isl false ex 2<|l.map Pt.enc)<|(List.range i).foldl (VW l) 0) (λi=>rfl)
  (λi hi=>by
   have h0:0<l.length:=by omega
   have hg:=YN hi;have hg2:=YN (l:=l)<|ZXn (i+1) h0;have hi':=Zh hi;have hw:=Zx (n:=i)<|by omega
   have hn:=nat_ne h0;have hy:=Z1j (.isl false ex 2<|l.map Pt.enc) rfl rfl ((List.range i).foldl (VW l) 0) (pAt l i) (pAt l i) (pAt l<|(i+1)%l.length);have hs:(List.range<|i+1).foldl (VW l) 0=W ((List.range i).foldl (VW l) 0+W (W ((pAt l i).X*(pAt l<|(i+1)%l.length).Y)-W ((pAt l<|(i+1)%l.length).X*(pAt l i).Y))):=by
    rw[ZY3,ZXV];rfl
   rw[hs];generalize W ((List.range i).foldl (VW l) 0+W (W ((pAt l i).X*(pAt l<|(i+1)%l.length).Y)-W ((pAt l<|(i+1)%l.length).X*(pAt l i).Y)))=n' at hy⊢;generalize(List.range i).foldl (VW l) 0=n at hy⊢;simp only[twH,ZWO,ZWZ]at hy⊢;refine⟨_,by simp only[go_sem,c342L0b,S3,hg,hg2,hi',hw,hn,Jc,hy,Pt.enc];rfl,?_⟩
   simp only[go_sem])
  (e:=.exit 0) (by simp only[go_sem,twH,c342L0b,ZG];rfl) (by simp)
 have L':Zg rE [0,1,5,6,7] c342L0b [(0,.yld 1),(1,.iptr false [.isl false ex 2<|l.map Pt.enc]),(5,.isl false ex 2<|l.map Pt.enc),(6,I l.length),(7,.int .i64 0)] [.row 1 [.int .i64 0],.loop .ready .normal (XF<|.isl false ex 2<|l.map Pt.enc) [8,9] c264R0a c264R0b]=_:=L;rw[Z5 (f:=264) rfl rfl];have hrf:rf rE (.clo (.func 342) [] [.iptr false [.isl false ex 2<|l.map Pt.enc]]) [8,9] c264R0a c264R0b (XF<|.isl false ex 2<|l.map Pt.enc) [.row 1 [.int .i64 0]]=some (.normal,XF<|.isl false ex 2<|l.map Pt.enc,[.row 1 [I<|GW l],.loop .exhausted .normal (XF<|.isl false ex 2<|l.map Pt.enc) [8,9] c264R0a c264R0b]):=by
  rw[Z1k (c:=c342) rfl];have hb:Zd 2 (frV<|XF<|.isl false ex 2<|l.map Pt.enc)=true:=rfl;simp only[hb,go_sem]at L';simp only[go_sem,c342,c342L0,L',hb];rfl
 unfold XF at hrf;simp only[go_sem,c264,Z1l,Sr,hrf]
def GX(l:List Pt)(i k:Nat):Bool:=!decide (Ui (pAt l i) (pAt l<|(i+1)%l.length) (pAt l k) (pAt l<|(k+1)%l.length)>0)
def Xb(l:List Pt)(i:Nat):Nat:=min l.length<|i+l.length-1
def Jg(l:List Pt)(i:Nat):Bool:=(List.range' (i+2)<|Xb l i-(i+2)).all (GX l i)
def Nh(l:List Pt)(i:Nat):Bool:=Jd (pAt l i) (pAt l<|(i+1)%l.length) (pAt l<|(i+2)%l.length)==0
def Uk(l:List Pt)(i:Nat):Bool:=!Nh l i&&Jg l i
def Ni(l:List Pt):Bool:=(List.range l.length).all (Uk l)
def Dy(l:List Pt)(ex:Bool)(hl:l.length<=1000000)(i:Nat)(hi:i<l.length):
 ∃fr',Zg rE [0,3,4,5,6,7,11,12] c265L0b [(0,.isl false ex 2<|l.map Pt.enc),(3,I l.length),(4,I i),(5,.ptr 0 0 0 1),(6,.ptr 1 0 0 1),(7,I (i+2:Nat)),(11,I l.length),(12,I i)] [.row 2 [.agg [I (pAt l i).X,I (pAt l i).Y]],.row 2 [.agg [I (pAt l<|(i+1)%l.length).X,I (pAt l<|(i+1)%l.length).Y]]] =
  some (if Jg l i=true then .exit 2 else .ret,fr',[.row 2 [.agg [I (pAt l i).X,I (pAt l i).Y]],.row 2 [.agg [I (pAt l<|(i+1)%l.length).X,I (pAt l<|(i+1)%l.length).Y]]])/\(Jg l i=true->(get fr' 2=.bot/\get fr' 0=.isl false ex 2 (l.map Pt.enc)/\get fr' 3=I l.length/\get fr' 11=I l.length/\get fr' 12=I i))/\(Jg l i=false->(get fr' 2=.bool false/\get fr' 0=.isl false ex 2 (l.map Pt.enc)/\get fr' 3=I l.length/\get fr' 11=I l.length/\get fr' 12=I i)):=by
 have h0:0<l.length:=by omega
 have hn:=nat_ne h0;have e1:IntKind.i64.wrap ((i:Int)+(l.length:Int))=((i+l.length:Nat):Int):=by rw[YM (by omega)<|by omega];omega
 have e2:IntKind.i64.wrap (((i+l.length:Nat):Int)-1)=((i+l.length-1:Nat):Int):=by rw[YM (by omega)<|by omega];omega
 have e3:min (l.length:Int) ((i+l.length-1:Nat):Int)=(Xb l i:Int):=by unfold Xb;omega
 have hm:Xb l i<=l.length:=Nat.min_le_left _ _;have L:=QT (E:=rE) (live:=[0,3,4,5,6,7,11,12]) (b:=c265L0b) (h:=[.row 2 [.agg [I (pAt l i).X,I (pAt l i).Y]],.row 2 [.agg [I (pAt l<|(i+1)%l.length).X,I (pAt l<|(i+1)%l.length).Y]]])
  (List.range' (i+2)<|Xb l i-(i+2)) (λ_ k=>GX l i k) (λj=>[(0,.isl false ex 2<|l.map Pt.enc),(3,I l.length),(4,I i),(5,.ptr 0 0 0 1),(6,.ptr 1 0 0 1),(7,I (i+2+j:Nat)),(11,I l.length),(12,I i)]) 2 (λfr=>get fr 2=.bot/\get fr 0=.isl false ex 2 (l.map Pt.enc)/\get fr 3=I l.length/\get fr 11=I l.length/\get fr 12=I i) (λfr=>get fr 2=.bool false/\get fr 0=.isl false ex 2 (l.map Pt.enc)/\get fr 3=I l.length/\get fr 11=I l.length/\get fr 12=I i) (λj=>rfl)
  (λj k hk hP=>by
   obtain⟨rfl,hj⟩:=Dt hk;have hk':i+2+j<Xb l i:=by omega
   have hg:=YN (l:=l) (i:=i+2+j)<|by omega
   have hg2:=YN (l:=l)<|ZXn (i+2+j+1) h0;have hlt:decide (((i+2+j:Nat):Int)<(Xb l i:Int))=true:=decide_eq_true<|by omega
   have hw:=Zx (n:=i+2+j)<|by omega
   have hP':decide (Ui (pAt l i) (pAt l<|(i+1)%l.length) (pAt l<|i+2+j) (pAt l<|(i+2+j+1)%l.length)>0)=false:=by simpa only[GX,ZWG]using hP
   have ea:i+2+(j+1)=i+2+j+1:=by omega
   rw[ea];generalize i+2+j=k at*;refine⟨_,by simp only[go_sem,c265L0b,e1,e2,e3,hlt,hg,hg2,hw,hn,Jc,Pt.enc,Dx,hP'];rfl,?_⟩
   simp only[go_sem])
  (λj k hk hP=>by
   obtain⟨rfl,hj⟩:=Dt hk;have hk':i+2+j<Xb l i:=by omega
   have hg:=YN (l:=l) (i:=i+2+j)<|by omega
   have hg2:=YN (l:=l)<|ZXn (i+2+j+1) h0;have hlt:decide (((i+2+j:Nat):Int)<(Xb l i:Int))=true:=decide_eq_true<|by omega
   have hw:=Zx (n:=i+2+j)<|by omega
   have hP':decide (Ui (pAt l i) (pAt l<|(i+1)%l.length) (pAt l<|i+2+j) (pAt l<|(i+2+j+1)%l.length)>0)=true:=by simpa only[GX,ZXK]using hP
   generalize i+2+j=k at*;refine⟨_,by simp only[go_sem,c265L0b,e1,e2,e3,hlt,hg,hg2,hw,hn,Jc,Pt.enc,Dx,hP'];rfl,?_⟩
   refine⟨?_,?_,?_,?_,?_⟩<;>simp only[go_sem])
  (by
   have hlt:decide (((i+2+(List.range' (i+2)<|Xb l i-(i+2)).length:Nat):Int)<(Xb l i:Int))=false:=by simp;omega
   generalize i+2+(List.range' (i+2)<|Xb l i-(i+2)).length=k at*;exact⟨_,by simp only[go_sem,c265L0b,e1,e2,e3,hlt];rfl,by refine⟨?_,?_,?_,?_,?_⟩<;>simp only[go_sem]⟩)
 rw[QE]at L;exact L
def Z1n(l:List Pt)(ex:Bool)(hl:l.length<=1000000):pfn rE 265 [.isl false ex 2<|l.map Pt.enc]=some (.bool<|Ni l):=by
 have L:=Uf (E:=rE) (live:=[0,3,11,12]) (b:=c265L1b) (h:=[]) (List.range l.length) (λ_ i=>Uk l i) (λi=>[(0,.isl false ex 2<|l.map Pt.enc),(3,I l.length),(11,I l.length),(12,I i)]) 0 (λfr=>get fr 2=.bool false) (λi=>rfl)
  (λi x hx hP=>by
   obtain⟨rfl,hi⟩:=Ds hx;have h0:0<l.length:=by omega
   have hn:=nat_ne h0;have hg:=YN hi;have hg1:=YN (l:=l)<|ZXn (x+1) h0;have hg2:=YN (l:=l)<|ZXn (x+2) h0;have hi':=Zh hi;have hw:=Zx (n:=x)<|by omega
   have hw2:IntKind.i64.wrap ((x:Int)+2)=((x+2:Nat):Int):=by rw[YM (by omega)<|by omega];omega
   have hP':Nh l x=false/\Jg l x=true:=by simpa[Uk]using hP
   have hT:(Jd (pAt l x) (pAt l<|(x+1)%l.length) (pAt l<|(x+2)%l.length)==0)=false:=hP'.1;obtain⟨fr',h1,h2,_⟩:=Dy l ex hl x hi;rw[if_pos hP'.2]at h1;obtain⟨g2,g0,g3,g11,g12⟩:=h2 hP'.2;refine⟨_,by simp only[go_sem,c265L1b,c265L0,hg,hg1,hg2,hi',hw,hw2,hn,Jc,Pt.enc,Ng,hT,h1,g0,g2,g3,g11,g12];rfl,?_⟩
   simp only[go_sem])
  (λi x hx hP=>by
   obtain⟨rfl,hi⟩:=Ds hx;have h0:0<l.length:=by omega
   have hn:=nat_ne h0;have hg:=YN hi;have hg1:=YN (l:=l)<|ZXn (x+1) h0;have hg2:=YN (l:=l)<|ZXn (x+2) h0;have hi':=Zh hi;have hw:=Zx (n:=x)<|by omega
   have hw2:IntKind.i64.wrap ((x:Int)+2)=((x+2:Nat):Int):=by rw[YM (by omega)<|by omega];omega
   cases hT':Nh l x with
   |true=>
    have hT:(Jd (pAt l x) (pAt l<|(x+1)%l.length) (pAt l<|(x+2)%l.length)==0)=true:=hT';refine⟨_,by simp only[go_sem,c265L1b,c265L0,hg,hg1,hg2,hi',hw,hw2,hn,Jc,Pt.enc,Ng,hT];rfl,?_⟩
    simp only[go_sem]
   |false=>
    have hT:(Jd (pAt l x) (pAt l<|(x+1)%l.length) (pAt l<|(x+2)%l.length)==0)=false:=hT';have hI:Jg l x=false:=by simpa[Uk,hT']using hP
    obtain⟨fr',h1,_,h2⟩:=Dy l ex hl x hi;rw[hI]at h1;obtain⟨g2,g0,g3,g11,g12⟩:=h2 hI;refine⟨_,by simp only[go_sem,c265L1b,c265L0,hg,hg1,hg2,hi',hw,hw2,hn,Jc,Pt.enc,Ng,hT,h1,g0,g2,g3,g11,g12,ZWt];rfl,?_⟩
    simp only[go_sem])
  (⟨_,by simp only[go_sem,c265L1b,ZYg,ZG];rfl⟩)
 rw[QE]at L;obtain⟨fr',h1,h2⟩:=L;have h1':Zg rE [0,3,11,12] c265L1b [(0,.isl false ex 2<|l.map Pt.enc),(3,I l.length),(11,I l.length),(12,.int .i64 0)] []=_:=h1;rw[Z5 (f:=265) rfl rfl];unfold Ni;cases hc:(List.range l.length).all (Uk l)with
 |true=>rw[hc]at h1';simp only[go_sem,c265,c265L1,h1']
 |false=>rw[hc]at h1';simp only[go_sem,c265,c265L1,h1',h2 hc,ZWt]
def Vh(l:List Pt):Bool:=decide ((l.length:Int)>=3)&&(decide ((l.length:Int)<=40)&&(!l.any Jf&&(decide (GW l>0)&&Ni l)))
def Dz(l:List Pt)(ex:Bool)(hl:l.length<=1000000):pfn rE 193 [.isl false ex 2<|l.map Pt.enc]=some (.bool<|Vh l):=by
 have h1:=Z1i l ex hl;have h2:=Z1m l ex hl;have h3:=Z1n l ex hl;rw[Z5 (f:=193) rfl rfl];unfold Vh;cases c1:decide ((l.length:Int)>=3)with
 |false=>simp only[go_sem,c193,c1]
 |true=>
 cases c2:decide ((l.length:Int)<=40)with
 |false=>simp only[go_sem,c193,c1,c2]
 |true=>
 cases c10003:l.any Jf with
 |true=>simp only[go_sem,c193,c1,c2,h1,c10003]
 |false=>
 cases c10004:decide (GW l>0)with
 |false=>simp only[go_sem,c193,c1,c2,h1,h2,c10003,c10004]
 |true=>simp only[go_sem,c193,c1,c2,h1,h2,h3,c10003,c10004]
def VX(l:List Pt)(i:Nat)(x:Pt):Bool:=gOn x&&!(decide ((i:Int)>0)&&QK x (pAt l<|i-1))
def Ul(l:List Pt):Bool:=Zu (VX l) 0 l&&(decide ((l.length:Int)>=2)&&decide ((l.length:Int)<=40))
def Z1o(l:List Pt)(ex:Bool)(hl:l.length<=1000000):pfn rE 195 [.isl false ex 2<|l.map Pt.enc]=some (.bool<|Ul l):=by
 have L:=QT (E:=rE) (live:=[0,5,6,7]) (b:=c195L0b) (h:=[]) l (VX l) (λi=>[(0,.isl false ex 2<|l.map Pt.enc),(5,.isl false ex 2<|l.map Pt.enc),(6,I l.length),(7,I i)]) 0 (λfr=>get fr 0=.isl false ex 2 (l.map Pt.enc)) (λfr=>get fr 2=.bool false) (λi=>rfl)
  (λi x hx hP=>by
   have hg:=Z6 (f:=Pt.enc) hx;have hi:=Zh<|Z7 hx;have hw:=Zx (n:=i) (by have:=Z7 hx;omega)
   have hP1:gOn x=true:=by simp only[VX,ZWn]at hP;exact hP.1
   rcases i with _|j
   .have h0:decide (((0:Nat):Int)>0)=false:=rfl;refine⟨_,by simp only[go_sem,c195L0b,hg,hi,hw,Pt.enc,W8,hP1,h0];rfl,?_⟩
    simp only[go_sem]
   .have h0:decide (((j+1:Nat):Int)>0)=true:=decide_eq_true (by omega)
    have hs:IntKind.i64.wrap (((j+1:Nat):Int)-1)=((j:Nat):Int):=by rw[YM (by omega) (by have:=Z7 hx;omega)];omega
    have hg1:=YN (l:=l) (i:=j) (by have:=Z7 hx;omega)
    have hP2:(x.X==(pAt l j).X&&x.Y==(pAt l j).Y)=false:=by
     have:VX l (j+1) x=(gOn x&&!(decide (((j+1:Nat):Int)>0)&&QK x (pAt l j))):=rfl;rw[this,hP1,h0]at hP;simp only[ZWp,ZWG]at hP;exact hP
    refine⟨_,by simp only[go_sem,c195L0b,hg,hg1,hi,hw,hs,Pt.enc,W8,hP1,h0,hP2];rfl,?_⟩
    simp only[go_sem])
  (λi x hx hP=>by
   have hg:=Z6 (f:=Pt.enc) hx;have hi:=Zh<|Z7 hx;cases hP1:gOn x with
   |false=>
    refine⟨_,by simp only[go_sem,c195L0b,hg,hi,Pt.enc,W8,hP1];rfl,?_⟩
    simp only[go_sem]
   |true=>
    rcases i with _|j
    .simp[VX,hP1]at hP
    .have h0:decide (((j+1:Nat):Int)>0)=true:=decide_eq_true (by omega)
     have hs:IntKind.i64.wrap (((j+1:Nat):Int)-1)=((j:Nat):Int):=by rw[YM (by omega) (by have:=Z7 hx;omega)];omega
     have hg1:=YN (l:=l) (i:=j) (by have:=Z7 hx;omega)
     have hP2:(x.X==(pAt l j).X&&x.Y==(pAt l j).Y)=true:=by
      have:VX l (j+1) x=(gOn x&&!(decide (((j+1:Nat):Int)>0)&&QK x (pAt l j))):=rfl;rw[this,hP1,h0]at hP;simp only[ZWp,ZXK]at hP;exact hP
     refine⟨_,by simp only[go_sem,c195L0b,hg,hg1,hi,hs,Pt.enc,W8,hP1,h0,hP2];rfl,?_⟩
     simp only[go_sem])
  (⟨_,by simp only[go_sem,c195L0b,ZG];rfl,by simp only[go_sem]⟩)
 obtain⟨fr',h1,h2,h3⟩:=L;have h1':Zg rE [0,5,6,7] c195L0b [(0,.isl false ex 2<|l.map Pt.enc),(5,.isl false ex 2<|l.map Pt.enc),(6,I l.length),(7,.int .i64 0)] []=_:=h1;rw[Z5 (f:=195) rfl rfl];unfold Ul;cases hc:Zu (VX l) 0 l with
 |true=>
  rw[hc]at h1';cases c1:decide ((l.length:Int)>=2)<;>simp only[go_sem,c195,c195L0,h1',h2 hc,c1]
 |false=>rw[hc]at h1';simp only[go_sem,c195,c195L0,h1',h3 hc,ZWt]
def Vi:List bf:=[⟨0,0⟩,⟨1,9⟩,⟨1,8⟩,⟨1,7⟩,⟨1,6⟩,⟨1,5⟩,⟨2,9⟩,⟨1,4⟩,⟨2,7⟩,⟨1,3⟩,⟨3,8⟩,⟨2,5⟩,⟨3,7⟩,⟨4,9⟩,⟨1,2⟩,⟨5,9⟩,⟨4,7⟩,⟨3,5⟩,⟨5,8⟩,⟨2,3⟩,⟨5,7⟩,⟨3,4⟩,⟨7,9⟩,⟨4,5⟩,⟨5,6⟩,⟨6,7⟩,⟨7,8⟩,⟨8,9⟩]
def Jh(l:List bf):List AV:=l.flatMap λp=>[I p.a,I p.b]
def Nj:∀(l:List bf)(i:Nat)(x:bf),l[i]?=some x->∃r,(Jh l).drop (i*2)=I x.a::I x.b::r
 |[],i,x,h=>by simp at h
 |y::r,0,x,h=>by
  simp at h;subst h;exact⟨Jh r,rfl⟩
 |y::r,i+1,x,h=>by
  obtain⟨t,ht⟩:=Nj r i x<|by simpa using h
  refine⟨t,?_⟩;rw[<-ht];have:(i+1)*2=i*2+1+1:=by omega
  rw[this];rfl
set_option maxRecDepth 4000 in
def DA:pfn rE 323 []=some (.agg<|Jh Vi):=by
 rw[Z5 (f:=323) rfl rfl];simp only[go_sem,c323,Jh,Vi,ZYJ,List.flatMap_nil]
def Nl(a b:Int):Int:=Zp (λp:bf=>p.a==a&&p.b==b) Vi 0
def Z1p(a b:Int):pfn rE 272 [I a,I b]=some (I<|Nl a b):=by
 have L:=ZDU (E:=rE) (live:=[0,1,7,8]) (b:=c272L0b) (h:=[]) Vi (λp:bf=>p.a==a&&p.b==b) (λi=>[(0,I a),(1,I b),(7,.agg<|Jh Vi),(8,I i)]) 0 (λi fr=>get fr 4=I i) (λi=>rfl)
  (λi x hx hP=>by
   have hlt:i<28:=Z7 hx;have hi:decide ((i:Int)<28)=true:=decide_eq_true<|by omega
   have hb:(0<=(i:Int)/\(i:Int)<((28:Nat):Int))=True:=by simp;omega
   have hw:=Zx (n:=i)<|by omega
   have hn:((i:Int)).toNat=i:=rfl;obtain⟨r,hr⟩:=Nj _ i x hx;refine⟨_,by simp only[go_sem,c272L0b,hi,hb,hn,hr,hP,hw,if_true];rfl,?_⟩
   simp only[go_sem])
  (λi x hx hP=>by
   have hlt:i<28:=Z7 hx;have hi:decide ((i:Int)<28)=true:=decide_eq_true<|by omega
   have hb:(0<=(i:Int)/\(i:Int)<((28:Nat):Int))=True:=by simp;omega
   have hn:((i:Int)).toNat=i:=rfl;obtain⟨r,hr⟩:=Nj _ i x hx;refine⟨_,by simp only[go_sem,c272L0b,hi,hb,hn,hr,hP,if_true];rfl,?_⟩
   simp only[go_sem])
  (⟨_,by
    have hi:decide ((Vi.length:Int)<28)=false:=rfl;simp only[go_sem,c272L0b,hi];rfl⟩)
 obtain⟨fr',h1,h2⟩:=L;have h1':Zg rE [0,1,7,8] c272L0b [(0,I a),(1,I b),(7,.agg<|Jh Vi),(8,.int .i64 0)] []=_:=h1;rw[Z5 (f:=272) rfl rfl];unfold Nl;by_cases hc:Zp (λp:bf=>p.a==a&&p.b==b) Vi 0=-1
 .rw[hc]at h1'⊢;simp only[go_sem,c272,c272L0,DA,h1']
 .obtain⟨i,hi,hq⟩:=h2 hc;rw[if_neg hc]at h1';simp only[go_sem,c272,c272L0,DA,h1',hq,hi]
def Vj(s:Str)(i:Nat):Int:=((s.data[i]?).map λb=>((b.toNat:Nat):Int)).getD 0
def letterT(s:Str):Bool:=Z3 s emp||((s.size:Int)==1&&(decide (Vj s 0>=97)&&decide (Vj s 0<=122)))
def Z1q(s:Str):pfn rE 271 [.str s]=some (.bool<|letterT s):=by
 rw[Z5 (f:=271) rfl rfl];unfold letterT;cases c1:Z3 s emp with
 |true=>simp only[go_sem,c271,c1]
 |false=>
 cases c2:((s.size:Int)==1)with
 |false=>simp only[go_sem,c271,c1,c2]
 |true=>
  have hs:0<s.data.size:=by
   have:s.size=1:=by simp at c2;omega
   show 0<s.size;omega
  have h0:s.data[(0:Int).toNat]?=some s.data[0]:=by simp
  have hb:Vj s 0=((s.data[0].toNat:Nat):Int):=by
   have h0':s.data[0]?=some s.data[0]:=h0;unfold Vj;rw[h0'];rfl
  cases c10003:decide (Vj s 0>=97)<;>rw[hb]at c10003⊢<;>simp only[go_sem,c271,c1,c2,h0,c10003,ZWN,ZYK,if_true]
def YO(n:HN):Bool:=decide (n.N>=1)&&(decide (n.N<=9999)&&(letterT n.bm&&decide (Nl n.Num n.Den>=0)))
def Ji(n:HN):pfn rE 202 [.agg [I n.N,.str n.bm,I n.Num,I n.Den]]=some (.bool<|YO n):=by
 rw[Z5 (f:=202) rfl rfl];unfold YO;cases c1:decide (n.N>=1)with
 |false=>simp only[go_sem,c202,c1]
 |true=>
 cases c2:decide (n.N<=9999)with
 |false=>simp only[go_sem,c202,c1,c2]
 |true=>
 cases c10003:letterT n.bm<;>simp only[go_sem,c202,c1,c2,Z1q,Z1p,c10003]
def rOn(p:Pt):Bool:=decide (p.X>=0)&&(decide (p.X<=32767)&&(decide (p.Y>=0)&&decide (p.Y<=32767)))
def ZRl(p:Pt):rOn p=gOn p:=by
 unfold rOn gOn;rw[ZWK];simp only[ZWn,decide_eq_true_eq];omega
def ZO4(p:Pt):pfn rE 108 [.agg [I p.X,I p.Y]]=some (.bool<|gOn p):=by
 rw[<-ZRl,Z5 (f:=108) rfl rfl];unfold rOn;cases h1:decide (p.X>=0)with
 |false=>simp only[go_sem,c108,h1]
 |true=>
  cases h2:decide (p.X<=32767)with
  |false=>simp only[go_sem,c108,h1,h2]
  |true=>cases h3:decide (p.Y>=0)<;>simp only[go_sem,c108,h1,h2,h3]
def ZTc(bw ex:Bool)(l:List Pt)(hl:l.length<9223372036854775807):pfn rE 177 [.isl bw ex 2<|l.map Pt.enc]=some (.bool<|XD l):=by
 have L:=Uf (E:=rE) (live:=[0,3]) (b:=c177L0b) (h:=[]) l (λ_ x=>gOn x) (λi=>[(0,.isl bw ex 2<|l.map Pt.enc),(3,I i)]) 0 (λfr=>get fr 2=.bool false) (λi=>rfl)
  (λi x hx hP=>by
   have hg:=Z6 (f:=Pt.enc) hx;have hi:=Zh<|Z7 hx;have hw:=Zx (n:=i) (by have:=Z7 hx;omega)
   refine⟨_,by simp only[go_sem,c177L0b,hg,hi,hw,hP,Pt.enc,ZO4,ZWm,ZWo];rfl,?_⟩
   simp only[go_sem])
  (λi x hx hP=>by
   have hg:=Z6 (f:=Pt.enc) hx;have hi:=Zh<|Z7 hx;refine⟨_,by simp only[go_sem,c177L0b,hg,hi,hP,Pt.enc,ZO4,ZWm,ZWq];rfl,?_⟩
   simp only[go_sem])
  (⟨_,by simp only[go_sem,c177L0b,ZG,ZWm];rfl⟩)
 rw[Z5 (f:=177) rfl rfl];rw[QE]at L;obtain⟨fr',h1,h2⟩:=L;have h1':Zg rE [0,3] c177L0b [(0,.isl bw ex 2<|l.map Pt.enc),(3,.int .i64 0)] []=_:=h1;unfold XD;cases hc:l.all gOn with
 |true=>rw[hc]at h1';simp only[go_sem,c177,c177L0,h1']
 |false=>
  rw[hc]at h1';have h2':=h2 hc;simp only[go_sem,c177,c177L0,h1',h2',ZWt]
def ZO7(a b c:Pt):Int:=Uh (Yv a b)<|Yv a c
def ZOY(a b c:Pt):pfn rE 257 [.agg [I a.X,I a.Y],.agg [I b.X,I b.Y],.agg [I c.X,I c.Y]]=some (I<|ZO7 a b c):=by
 rw[Z5 (f:=257) rfl rfl];unfold ZO7 Uh Yv;simp only[go_sem,c257]
def ZTd(n:Int):pfn rE 256 [I n]=some (I<|sgn n):=by
 rw[Z5 (f:=256) rfl rfl];unfold sgn;cases h1:decide (n>0)<;>cases h2:decide (n<0)<;>simp only[go_sem,c256,h1,h2]
def ZOZ(a b c:Pt):pfn rE 179 [.agg [I a.X,I a.Y],.agg [I b.X,I b.Y],.agg [I c.X,I c.Y]]=some (I<|Jd a b c):=by
 rw[Z5 (f:=179) rfl rfl];unfold Jd XD;rw[ZX8,ZX8,ZX8,ZYc,ZWv];have e:Ve (XE a b) c=sgn (ZO7 a b c):=rfl;rw[e];cases h1:gOn a with
 |false=>simp only[go_sem,c179,ZO4,h1]
 |true=>
  cases h2:gOn b with
  |false=>simp only[go_sem,c179,ZO4,h1,h2]
  |true=>cases h3:gOn c<;>simp only[go_sem,c179,ZO4,ZOY,ZTd,h1,h2,h3]
def ZPn(p a b:Pt):Bool:=
 bif (!gOn p||(!gOn a||!gOn b))||ZO7 a b p != 0 then false
 else decide (p.X>=min a.X b.X)&&(decide (p.X<=max a.X b.X)&&(decide (p.Y>=min a.Y b.Y)&&decide (p.Y<=max a.Y b.Y)))
def ZTe(p a b:Pt):pfn rE 258 [.agg [I p.X,I p.Y],.agg [I a.X,I a.Y],.agg [I b.X,I b.Y]]=some (.bool<|ZPn p a b):=by
 rw[Z5 (f:=258) rfl rfl];unfold ZPn;cases h1:gOn p with
 |false=>simp only[go_sem,c258,ZO4,h1,ZWq,ZWC]
 |true=>
  cases h2:gOn a with
  |false=>simp only[go_sem,c258,ZO4,h1,h2,ZWq,ZWo,ZWC,ZWB]
  |true=>
   cases h3:gOn b with
   |false=>simp only[go_sem,c258,ZO4,h1,h2,h3,ZWq,ZWo,ZWC,ZWB]
   |true=>
    cases h4:ZO7 a b p != 0 with
    |true=>simp only[go_sem,c258,ZO4,ZOY,h1,h2,h3,h4,ZWo,ZX0,ZWB]
    |false=>
     cases h5:decide (p.X>=min a.X b.X)with
     |false=>simp only[go_sem,c258,ZO4,ZOY,h1,h2,h3,h4,h5,ZWo,ZWB]
     |true=>
      cases h6:decide (p.X<=max a.X b.X)with
      |false=>simp only[go_sem,c258,ZO4,ZOY,h1,h2,h3,h4,h5,h6,ZWo,ZWB]
      |true=>cases h7:decide (p.Y>=min a.Y b.Y)<;>simp only[go_sem,c258,ZO4,ZOY,h1,h2,h3,h4,h5,h6,h7,ZWo,ZWB]
def ZRm{a b:Int}(h:a*b<=0):(a<=0/\0<=b)\/(b<=0/\0<=a):=by
 rcases ZXW a 0 with ha|ha|ha
 .rcases ZXW b 0 with hb|hb|hb
  .have:=Int.mul_pos_of_neg_of_neg ha hb;omega
  .omega
  .omega
 .omega
 .rcases ZXW b 0 with hb|hb|hb
  .omega
  .omega
  .have:=Int.mul_pos ha hb;omega
def ZRn{a b:Int}(h:(a<=0/\0<=b)\/(b<=0/\0<=a)):a*b<=0:=by
 rcases h with⟨h1,h2⟩|⟨h1,h2⟩
 .have:=Int.mul_le_mul_of_nonneg_right h1 h2;rwa[ZY4]at this
 .have:=Int.mul_le_mul_of_nonneg_left h1 h2;rwa[Int.mul_zero]at this
def ZPo{a:Int}:0<=a*a:=by
 rcases ZYL 0 a with h|h
 .exact ZXX h h
 .have:=ZXX (a:=-a) (b:=-a) (by omega) (by omega);rwa[ZZ1]at this
def ZOq{a b:Int}(h:a*b=0):a=0\/b=0:=Int.mul_eq_zero.1 h
def ZRo{ux uy vx vy:Int}(hc:ux*vy=uy*vx):((ux=0/\uy=0)\/(vx=0/\vy=0)\/ux*vx+uy*vy<0)↔((ux<=0/\0<=vx)\/(vx<=0/\0<=ux))/\((uy<=0/\0<=vy)\/(vy<=0/\0<=uy)):=by
 have hs:(ux*vx)*(uy*vy)=(ux*vy)*(ux*vy):=by
  rw[show(ux*vy)*(ux*vy)=(ux*vy)*(uy*vx)by rw[<-hc]]
  simp only[Int.mul_comm,Int.mul_left_comm,Int.mul_assoc]
 have h0:0<=(ux*vx)*(uy*vy):=by rw[hs];exact ZPo
 constructor
 .rintro(⟨rfl,rfl⟩|⟨rfl,rfl⟩|h)
  .omega
  .omega
  .have k1:ux*vx<=0:=by
    by_cases k:0<ux*vx
    .have:=Int.mul_neg_of_pos_of_neg k (show uy*vy<0 by omega);omega
    .omega
   have k2:uy*vy<=0:=by
    by_cases k:0<uy*vy
    .have:=Int.mul_neg_of_neg_of_pos (show ux*vx<0 by omega) k;omega
    .omega
   exact⟨ZRm k1,ZRm k2⟩
 .rintro⟨h1,h2⟩;have k1:=ZRn h1;have k2:=ZRn h2;by_cases hd:ux*vx+uy*vy<0
  .exact .inr<|.inr hd
  .have z1:ux*vx=0:=by omega
   have z2:uy*vy=0:=by omega
   rcases ZOq z1 with e|e
   .rcases ZOq z2 with f|f
    .exact .inl ⟨e,f⟩
    .subst e;subst f;rw[ZY4]at hc;rcases ZOq hc.symm with g|g
     .exact .inl ⟨rfl,g⟩
     .exact .inr<|.inl ⟨g,rfl⟩
   .subst e;rw[Int.mul_zero]at hc;rcases ZOq hc with g|g
    .rcases ZOq z2 with f|f
     .exact .inl ⟨g,f⟩
     .exact .inr<|.inl ⟨rfl,f⟩
    .exact .inr<|.inl ⟨rfl,g⟩
def ZO8{p:Pt}(h:gOn p=true):0<=p.X/\p.X<=32767/\0<=p.Y/\p.Y<=32767:=by
 rw[<-ZRl]at h;unfold rOn at h;simp only[ZWn,decide_eq_true_eq]at h;omega
def ZO5{n:Int}(h1:-9223372036854775808<=n)(h2:n<=9223372036854775807):W n=n:=YM h1 h2
def ZOz{a b:Int}(h1:-65536<=a)(h2:a<=65536)(h3:-65536<=b)(h4:b<=65536):-4294967296<=a*b/\a*b<=4294967296:=by
 have e:∀{x y:Int},0<=x->x<=65536->0<=y->y<=65536->0<=x*y/\x*y<=4294967296:=λh1 h2 h3 h4=>
  ⟨ZXX h1 h3,by have:=Int.mul_le_mul h2 h4 h3 (show(0:Int)<=65536 by decide);omega⟩
 rcases ZYL 0 a with ha|ha
 .rcases ZYL 0 b with hb|hb
  .have:=e ha h2 hb h4;omega
  .have:=e ha h2 (y:=-b) (by omega) (by omega);rw[Int.mul_neg]at this;omega
 .rcases ZYL 0 b with hb|hb
  .have:=e (x:=-a) (by omega) (by omega) hb h4;rw[Int.neg_mul]at this;omega
  .have:=e (x:=-a) (y:=-b) (by omega) (by omega) (by omega) (by omega);rw[ZZ1]at this;omega
def ZPI{a b:Pt}(ha:gOn a=true)(hb:gOn b=true):Yv a b=⟨b.X-a.X,b.Y-a.Y⟩:=by
 have:=ZO8 ha;have:=ZO8 hb;unfold Yv;rw[ZO5 (by omega) (by omega),ZO5 (by omega)<|by omega]
def ZQc{a b c:Pt}(ha:gOn a=true)(hb:gOn b=true)(hc:gOn c=true):ZO7 a b c=(b.X-a.X)*(c.Y-a.Y)-(b.Y-a.Y)*(c.X-a.X):=by
 have h1:=ZO8 ha;have h2:=ZO8 hb;have h3:=ZO8 hc;unfold ZO7 Uh;rw[ZPI ha hb,ZPI ha hc];have k1:=ZOz (a:=b.X-a.X) (b:=c.Y-a.Y) (by omega) (by omega) (by omega)<|by omega
 have k2:=ZOz (a:=b.Y-a.Y) (b:=c.X-a.X) (by omega) (by omega) (by omega)<|by omega
 dsimp only;rw[ZO5 (n:=(b.X-a.X)*(c.Y-a.Y)) (by omega) (by omega),ZO5 (n:=(b.Y-a.Y)*(c.X-a.X)) (by omega) (by omega),ZO5 (by omega)<|by omega]
def ZTf{p a b:Pt}(hp:gOn p=true)(ha:gOn a=true)(hb:gOn b=true):Nc (Yv p a) (Yv p b)=(a.X-p.X)*(b.X-p.X)+(a.Y-p.Y)*(b.Y-p.Y):=by
 have h1:=ZO8 hp;have h2:=ZO8 ha;have h3:=ZO8 hb;unfold Nc;rw[ZPI hp ha,ZPI hp hb];have k1:=ZOz (a:=a.X-p.X) (b:=b.X-p.X) (by omega) (by omega) (by omega)<|by omega
 have k2:=ZOz (a:=a.Y-p.Y) (b:=b.Y-p.Y) (by omega) (by omega) (by omega)<|by omega
 dsimp only;rw[ZO5 (n:=(a.X-p.X)*(b.X-p.X)) (by omega) (by omega),ZO5 (n:=(a.Y-p.Y)*(b.Y-p.Y)) (by omega) (by omega),ZO5 (by omega)<|by omega]
def ZTg(n:Int):(sgn n==0)=(n==0):=by
 unfold sgn;rw[ZWK];simp only[beq_iff_eq];rcases ZXW n 0 with h|h|h
 .rw[decide_eq_false (by omega),decide_eq_true h];simp;omega
 .subst h;simp
 .rw[decide_eq_true (show n>0 from h)];simp;omega
def ZRp(p a b:Pt):ZPn p a b=W7 p a b:=by
 unfold ZPn W7 XD;rw[ZX8,ZX8,ZX8,ZYc,ZWv];cases hp:gOn p with
 |false=>rfl
 |true=>
  cases ha:gOn a with
  |false=>rfl
  |true=>
   cases hb:gOn b with
   |false=>rfl
   |true=>
    have e:Ve (XE a b) p=sgn (ZO7 a b p):=rfl;rw[e,ZTg,ZTf hp ha hb,ZQc ha hb hp];have hc:(b.X-a.X)*(p.Y-a.Y)-(b.Y-a.Y)*(p.X-a.X)=(a.X-p.X)*(b.Y-p.Y)-(a.Y-p.Y)*(b.X-p.X):=by
     simp only[Int.sub_mul,Int.mul_sub,Int.mul_comm];omega
    rw[hc];have hk:=λh=>ZRo (ux:=a.X-p.X) (uy:=a.Y-p.Y) (vx:=b.X-p.X) (vy:=b.Y-p.Y) h
    generalize hu:a.X-p.X=ux at*;generalize hv:a.Y-p.Y=uy at*;generalize hw:b.X-p.X=vx at*;generalize hz:b.Y-p.Y=vy at*;simp only[ZWo,ZWB,cond_true,ZX9];have e1:QK p a=(decide (ux=0)&&decide (uy=0)):=by
     unfold QK;rw[ZWK];simp only[ZWn,beq_iff_eq,decide_eq_true_eq];omega
    have e2:QK p b=(decide (vx=0)&&decide (vy=0)):=by
     unfold QK;rw[ZWK];simp only[ZWn,beq_iff_eq,decide_eq_true_eq];omega
    rw[e1,e2];by_cases h0:ux*vy-uy*vx=0
    .have hk':=hk (by omega)
     rw[show(ux*vy-uy*vx != 0)=false by rw[h0];rfl,show(ux*vy-uy*vx==0)=true by rw[h0];rfl,cond_false,cond_true]
     rw[ZWK];simp only[ZWn,decide_eq_true_eq,Bool.cond_eq_ite];constructor
     .intro h;rcases hk'.2 ⟨by omega,by omega⟩with k|k|k
      .rw[if_pos k]
      .rw[if_pos k];split<;>rfl
      .rw[decide_eq_true k];split<;>first|rfl|(split<;>rfl)
     .intro h;have:(ux=0/\uy=0)\/(vx=0/\vy=0)\/ux*vx+uy*vy<0:=by
       split at h
       .left;assumption
       .split at h
        .right;left;assumption
        .right;right;exact of_decide_eq_true h
      have:=hk'.1 this;omega
    .rw[show(ux*vy-uy*vx != 0)=true by simpa using h0,show(ux*vy-uy*vx==0)=false by simpa using h0,cond_true]
     have n1:(decide (ux=0)&&decide (uy=0))=false:=by
      rw[ZYe];by_cases k:ux=0
      .right;rw[decide_eq_false_iff_not];intro k2;apply h0;rw[k,k2];simp
      .left;exact decide_eq_false k
     have n2:(decide (vx=0)&&decide (vy=0))=false:=by
      rw[ZYe];by_cases k:vx=0
      .right;rw[decide_eq_false_iff_not];intro k2;apply h0;rw[k,k2];simp
      .left;exact decide_eq_false k
     rw[n1,n2];rfl
def ZPJ(p a b:Pt):pfn rE 258 [.agg [I p.X,I p.Y],.agg [I a.X,I a.Y],.agg [I b.X,I b.Y]]=some (.bool<|W7 p a b):=by
 rw[ZTe,ZRp]
def ZRq(a b c d:Pt):pfn rE 180 [.agg [I a.X,I a.Y],.agg [I b.X,I b.Y],.agg [I c.X,I c.Y],.agg [I d.X,I d.Y]]=some (I<|Ui a b c d):=by
 have hb1:=ZPJ a c d;have hb2:=ZPJ b c d;have hb3:=ZPJ c a b;have hb4:=ZPJ d a b;have t1:=ZOZ a b c;have t2:=ZOZ a b d;have t3:=ZOZ c d a;have t4:=ZOZ c d b;rw[Z5 (f:=180) rfl rfl];unfold Ui;have ho:XD [a,b,c,d]=(gOn a&&(gOn b&&(gOn c&&gOn d))):=by unfold XD;simp
 rw[ho];cases h1:gOn a with
 |false=>simp only[go_sem,c180,ZO4,h1,ZWq,ZWr]
 |true=>
  cases h2:gOn b with
  |false=>simp only[go_sem,c180,ZO4,h1,h2,ZWq,ZWo,ZWr,ZWp]
  |true=>
   cases h3:gOn c with
   |false=>simp only[go_sem,c180,ZO4,h1,h2,h3,ZWq,ZWo,ZWr,ZWp]
   |true=>
    cases h4:gOn d with
    |false=>simp only[go_sem,c180,ZO4,h1,h2,h3,h4,ZWq,ZWo,ZWr,ZWp]
    |true=>
     have e1:Jd a b c=Ve (XE a b) c:=by unfold Jd XD;simp[h1,h2,h3]
     have e2:Jd a b d=Ve (XE a b) d:=by unfold Jd XD;simp[h1,h2,h4]
     have e3:Jd c d a=Ve (XE c d) a:=by unfold Jd XD;simp[h1,h3,h4]
     have e4:Jd c d b=Ve (XE c d) b:=by unfold Jd XD;simp[h2,h3,h4]
     rw[e1]at t1;rw[e2]at t2;rw[e3]at t3;rw[e4]at t4;unfold VV;cases k1:W7 a c d with
     |true=>simp only[go_sem,c180,ZO4,h1,h2,h3,h4,hb1,hb2,hb3,hb4,k1,ZWo,ZWp,ZWC]
     |false=>
      cases k2:W7 b c d with
      |true=>simp only[go_sem,c180,ZO4,h1,h2,h3,h4,hb1,hb2,hb3,hb4,k1,k2,ZWo,ZWp,ZWC,ZWB]
      |false=>
       cases k3:W7 c a b with
       |true=>simp only[go_sem,c180,ZO4,h1,h2,h3,h4,hb1,hb2,hb3,hb4,k1,k2,k3,ZWo,ZWp,ZWC,ZWB]
       |false=>
        cases k4:W7 d a b with
        |true=>simp only[go_sem,c180,ZO4,h1,h2,h3,h4,hb1,hb2,hb3,hb4,k1,k2,k3,k4,ZWo,ZWp,ZWC,ZWB]
        |false=>
         cases k5:decide (W (Ve (XE a b) c*Ve (XE a b) d)<0)with
         |false=>simp only[go_sem,c180,ZO4,h1,h2,h3,h4,hb1,hb2,hb3,hb4,t1,t2,t3,t4,k1,k2,k3,k4,k5,ZWo,ZWp,ZWC,ZWB]
         |true=>cases k6:decide (W (Ve (XE c d) a*Ve (XE c d) b)<0)<;>simp only[go_sem,c180,ZO4,h1,h2,h3,h4,hb1,hb2,hb3,hb4,t1,t2,t3,t4,k1,k2,k3,k4,k5,k6,ZWo,ZWp,ZWC,ZWB]
def ZPa(bw ex:Bool)(l:List Pt)(hl:l.length<=1000000)(i:Nat)(hi:i<l.length):pfn rE 181 [.isl bw ex 2<|l.map Pt.enc,I i]=some (.agg [I (pAt l<|(i+1)%l.length).X,I (pAt l<|(i+1)%l.length).Y]):=by
 have h0:0<l.length:=by omega
 have hn:=nat_ne h0;have hg:=YN (l:=l)<|ZXn (i+1) h0;have hw:=Zx (n:=i)<|by omega
 rw[Z5 (f:=181) rfl rfl];simp only[go_sem,c181,hg,hw,hn,Jc,Pt.enc,ZWm]
def ZTh(ex:Bool)(l:List Pt)(hl:l.length<=1000000):pfn rE 178 [.isl false ex 2<|l.map Pt.enc]=some (I<|GW l):=by
 have L:=Y8 (E:=rE) (live:=[0,3,4]) (b:=c178L0b) l.length (λi=>[(0,.isl false ex 2<|l.map Pt.enc),(3,I<|(List.range i).foldl (VW l) 0),(4,I i)]) (λ_=>[]) (λ_=>rfl)
  (λi hi=>by
   have hg:=YN (l:=l) hi;have hx:=ZPa false ex l hl i hi;have hlt:=Zh hi;have hw:=Zx (n:=i)<|by omega
   rw[ZY3,ZXV,ZXd,List.foldl_nil];generalize(List.range i).foldl (VW l) 0=n;have hs:VW l n i=W (n+W (W ((pAt l i).X*(pAt l<|(i+1)%l.length).Y)-W ((pAt l<|(i+1)%l.length).X*(pAt l i).Y))):=rfl;rw[hs];refine⟨_,by simp only[go_sem,c178L0b,hg,hx,hlt,hw,Pt.enc,ZWm];rfl,?_⟩
   simp only[go_sem])
  (e:=.exit 0) (fr:=[(0,.isl false ex 2<|l.map Pt.enc),(3,I<|GW l),(4,I l.length)]) (h:=[]) (by
   have hlt:=ZG l.length;show Zb rE c178L0b [(0,.isl false ex 2<|l.map Pt.enc),(3,I<|GW l),(4,I l.length)] []=_
   simp only[go_sem,c178L0b,hlt,ZWm]) (by simp)
 have L':Zg rE [0,3,4] c178L0b [(0,.isl false ex 2<|l.map Pt.enc),(3,.int .i64 0),(4,.int .i64 0)] []=_:=L;rw[Z5 (f:=178) rfl rfl];simp only[go_sem,c178,c178L0,L']
def rCk(l:List Pt)(i k:Nat):Bool:=!(((((k+1)%l.length:Nat):Int) != (i:Int))&&(Ui (pAt l i) (pAt l<|(i+1)%l.length) (pAt l k) (pAt l<|(k+1)%l.length) != 0))
def rIn(l:List Pt)(i:Nat):Bool:=(List.range' (i+2)<|l.length-(i+2)).all (rCk l i)
def ZQd(a b c d:Pt):decide (Ui a b c d>0)=(Ui a b c d != 0):=by
 unfold Ui;cases XD [a,b,c,d]with
 |false=>rfl
 |true=>
  cases W7 a c d||W7 b c d||W7 c a b||W7 d a b with
  |true=>rfl
  |false=>cases VV (XE a b) c d&&VV (XE c d) a b<;>rfl
def ZRr(l:List Pt)(h3:3<=l.length)(i:Nat)(hi:i<l.length):rIn l i=Jg l i:=by
 unfold rIn Jg;rw[ZWK,ZWF,ZWF];have key:∀k,i+2<=k->k<l.length->((k+1)%l.length=i↔¬k<Xb l i):=by
  intro k h1 h2;unfold Xb;by_cases hk:k+1=l.length
  .rw[hk,Nat.mod_self];omega
  .rw[ZY1<|by omega];omega
 constructor
 .intro h k hk;rw[ZYM]at hk;have hm:Xb l i<=l.length:=Nat.min_le_left _ _;have h1:=h k (by rw[ZYM];omega)
  have h2:¬(k+1)%l.length=i:=λe=>((key k (by omega)<|by omega).1 e) (by omega)
  unfold rCk at h1;unfold GX;rw[ZQd];have h3:((((k+1)%l.length:Nat):Int) != (i:Int))=true:=by rw[bne_iff_ne];omega
  rw[h3,ZWp]at h1;exact h1
 .intro h k hk;rw[ZYM]at hk;unfold rCk;by_cases h2:(k+1)%l.length=i
  .have h3:((((k+1)%l.length:Nat):Int) != (i:Int))=false:=by rw[bne_eq_false_iff_eq];omega
   rw[h3];rfl
  .have h4:k<Xb l i:=Decidable.byContradiction λe=>h2 ((key k (by omega)<|by omega).2 e)
   have h1:=h k<|by rw[ZYM];omega
   unfold GX at h1;rw[ZQd]at h1;rw[ZWG]at h1⊢;rw[h1,ZWw]
def ZRs(l:List Pt)(ex:Bool)(hl:l.length<=1000000)(i:Nat)(hi:i<l.length):
 ∃fr',Zg rE [0,3,4,5] c103L0b [(0,.isl false ex 2<|l.map Pt.enc),(3,I l.length),(4,I i),(5,I (i+2:Nat))] []=some (if rIn l i=true then .exit 2 else .ret,fr',[])/\(rIn l i=true->(get fr' 2=.bot/\get fr' 0=.isl false ex 2 (l.map Pt.enc)/\get fr' 3=I l.length/\get fr' 4=I i))/\(rIn l i=false->get fr' 2=.bool false):=by
 have h0:0<l.length:=by omega
 have hn:=nat_ne h0;have hgi:=YN (l:=l) hi;have hxi:=ZPa false ex l hl i hi;have L:=QT (E:=rE) (live:=[0,3,4,5]) (b:=c103L0b) (h:=[])
  (List.range' (i+2)<|l.length-(i+2)) (λ_ k=>rCk l i k) (λj=>[(0,.isl false ex 2<|l.map Pt.enc),(3,I l.length),(4,I i),(5,I (i+2+j:Nat))]) 2 (λfr=>get fr 2=.bot/\get fr 0=.isl false ex 2 (l.map Pt.enc)/\get fr 3=I l.length/\get fr 4=I i) (λfr=>get fr 2=.bool false) (λj=>rfl)
  (λj k hk hP=>by
   obtain⟨rfl,hj⟩:=Dt hk;have hk':i+2+j<l.length:=by omega
   have hg:=YN (l:=l) (i:=i+2+j)<|by omega
   have hx:=ZPa false ex l hl (i+2+j) hk';have hlt:=Zh hk';have hw:=Zx (n:=i+2+j)<|by omega
   have ea:i+2+(j+1)=i+2+j+1:=by omega
   rw[ea];unfold rCk at hP;generalize i+2+j=k at*;cases c1:((((k+1)%l.length:Nat):Int) != (i:Int))with
   |false=>
    refine⟨_,by simp only[go_sem,c103L0b,hlt,hw,hn,Jc,c1];rfl,?_⟩
    simp only[go_sem]
   |true=>
    rw[c1,ZWp,ZWG]at hP;refine⟨_,by simp only[go_sem,c103L0b,hlt,hw,hn,Jc,c1,hg,hgi,hx,hxi,Pt.enc,ZRq,hP];rfl,?_⟩
    simp only[go_sem])
  (λj k hk hP=>by
   obtain⟨rfl,hj⟩:=Dt hk;have hk':i+2+j<l.length:=by omega
   have hg:=YN (l:=l) (i:=i+2+j)<|by omega
   have hx:=ZPa false ex l hl (i+2+j) hk';have hlt:=Zh hk';have hw:=Zx (n:=i+2+j)<|by omega
   unfold rCk at hP;generalize i+2+j=k at*;rw[ZXK,ZWn]at hP;obtain⟨c1,c2⟩:=hP;refine⟨_,by simp only[go_sem,c103L0b,hlt,hw,hn,Jc,c1,c2,hg,hgi,hx,hxi,Pt.enc,ZRq];rfl,?_⟩
   simp only[go_sem])
  (by
   have hlt:decide (((i+2+(List.range' (i+2)<|l.length-(i+2)).length:Nat):Int)<(l.length:Int))=false:=by simp;omega
   generalize i+2+(List.range' (i+2)<|l.length-(i+2)).length=k at*;exact⟨_,by simp only[go_sem,c103L0b,hlt];rfl,by refine⟨?_,?_,?_,?_⟩<;>simp only[go_sem]⟩)
 rw[QE]at L;exact L
def ZTi(l:List Pt)(ex:Bool)(hl:l.length<=1000000)(hl3:3<=l.length):∃fr',Zg rE [0,3,4] c103L1b [(0,.isl false ex 2<|l.map Pt.enc),(3,I l.length),(4,.int .i64 0)] []=some (if Ni l=true then .exit 0 else .ret,fr',[])/\(Ni l=false->get fr' 2=.bool false):=by
 have L:=Uf (E:=rE) (live:=[0,3,4]) (b:=c103L1b) (h:=[]) (List.range l.length) (λ_ i=>Uk l i) (λi=>[(0,.isl false ex 2<|l.map Pt.enc),(3,I l.length),(4,I i)]) 0 (λfr=>get fr 2=.bool false) (λi=>rfl)
  (λi x hx hP=>by
   obtain⟨rfl,hi⟩:=Ds hx;have h0:0<l.length:=by omega
   have hn:=nat_ne h0;have hg:=YN hi;have hg1:=YN (l:=l)<|ZXn (x+1) h0;have hg2:=YN (l:=l)<|ZXn (x+2) h0;have hi':=Zh hi;have hw:=Zx (n:=x)<|by omega
   have hw2:IntKind.i64.wrap ((x:Int)+2)=((x+2:Nat):Int):=by rw[YM (by omega)<|by omega];omega
   have hP':Nh l x=false/\Jg l x=true:=by simpa[Uk]using hP
   have hT:(Jd (pAt l x) (pAt l<|(x+1)%l.length) (pAt l<|(x+2)%l.length)==0)=false:=hP'.1;obtain⟨fr',h1,h2,_⟩:=ZRs l ex hl x hi;rw[<-ZRr l hl3 x hi]at hP';rw[if_pos hP'.2]at h1;obtain⟨g2,g0,g3,g4⟩:=h2 hP'.2;refine⟨_,by simp only[go_sem,c103L1b,c103L0,hg,hg1,hg2,hi',hw,hw2,hn,Jc,Pt.enc,ZOZ,hT,h1,g0,g2,g3,g4];rfl,?_⟩
   simp only[go_sem])
  (λi x hx hP=>by
   obtain⟨rfl,hi⟩:=Ds hx;have h0:0<l.length:=by omega
   have hn:=nat_ne h0;have hg:=YN hi;have hg1:=YN (l:=l)<|ZXn (x+1) h0;have hg2:=YN (l:=l)<|ZXn (x+2) h0;have hi':=Zh hi;have hw:=Zx (n:=x)<|by omega
   have hw2:IntKind.i64.wrap ((x:Int)+2)=((x+2:Nat):Int):=by rw[YM (by omega)<|by omega];omega
   cases hT':Nh l x with
   |true=>
    have hT:(Jd (pAt l x) (pAt l<|(x+1)%l.length) (pAt l<|(x+2)%l.length)==0)=true:=hT';refine⟨_,by simp only[go_sem,c103L1b,c103L0,hg,hg1,hg2,hi',hw,hw2,hn,Jc,Pt.enc,ZOZ,hT];rfl,?_⟩
    simp only[go_sem]
   |false=>
    have hT:(Jd (pAt l x) (pAt l<|(x+1)%l.length) (pAt l<|(x+2)%l.length)==0)=false:=hT';have hI:rIn l x=false:=by rw[ZRr l hl3 x hi];simpa[Uk,hT']using hP
    obtain⟨fr',h1,_,h2⟩:=ZRs l ex hl x hi;rw[hI]at h1;have g2:=h2 hI;refine⟨_,by simp only[go_sem,c103L1b,c103L0,hg,hg1,hg2,hi',hw,hw2,hn,Jc,Pt.enc,ZOZ,hT,h1,g2,ZWt];rfl,?_⟩
    simp only[go_sem])
  (⟨_,by simp only[go_sem,c103L1b,ZYg,ZG];rfl⟩)
 rw[QE]at L;exact L
def ZPK(l:List Pt)(ex:Bool)(hl:l.length<=1000000):pfn rE 103 [.isl false ex 2<|l.map Pt.enc]=some (.bool<|Vh l):=by
 have hA:=ZTc false ex l<|by omega
 have hS:=ZTh ex l hl;have eo:l.any Jf = !XD l:=by
  unfold XD Jf;rw[<-List.not_all_eq_any_not]
 unfold Vh;rw[eo];have e3:decide ((l.length:Int)>=3) = !decide ((l.length:Int)<3):=by rw[ZWK];simp
 have e4:decide ((l.length:Int)<=40) = !decide ((l.length:Int)>40):=by rw[ZWK];simp
 have e5:decide (GW l>0) = !decide (GW l<=0):=by rw[ZWK];simp
 rw[e3,e4,e5];rw[Z5 (f:=103) rfl rfl];cases h1:decide ((l.length:Int)<3)with
 |true=>simp only[go_sem,c103,h1,ZWm,ZWo,ZWr]
 |false=>
  cases h2:decide ((l.length:Int)>40)with
  |true=>simp only[go_sem,c103,h1,h2,ZWm,ZWo,ZWq,ZWr,ZWp]
  |false=>
   cases h3:XD l with
   |false=>rw[h3]at hA;simp only[go_sem,c103,h1,h2,hA,ZWm,ZWo,ZWq,ZWr,ZWp]
   |true=>
    rw[h3]at hA;cases h4:decide (GW l<=0)with
    |true=>simp only[go_sem,c103,h1,h2,hA,hS,h4,ZWm,ZWo,ZWq,ZWr,ZWp]
    |false=>
     have hl3:3<=l.length:=by have:=of_decide_eq_false h1;omega
     obtain⟨fr',L,hf⟩:=ZTi l ex hl hl3;cases h5:Ni l with
     |true=>rw[h5]at L;simp only[go_sem,c103,c103L1,h1,h2,hA,hS,h4,L,ZWm,ZWo,ZWq,ZWv]
     |false=>rw[h5]at L;simp only[go_sem,c103,c103L1,h1,h2,hA,hS,h4,L,hf h5,ZWm,ZWo,ZWq,ZWv,ZWt]
def ZRt{a b c d:Pt}(ha:gOn a=true)(hb:gOn b=true)(hc:gOn c=true)(hd:gOn d=true)(h:Ui a b c d=0):
 W7 a c d=false/\W7 b c d=false/\W7 c a b=false/\W7 d a b=false/\¬(ZO7 a b c*ZO7 a b d<0/\ZO7 c d a*ZO7 c d b<0):=by
 have hl:XD [a,b,c,d]=true:=by simp[XD,ha,hb,hc,hd]
 unfold Ui at h;rw[hl,cond_true]at h;cases h1:W7 a c d with
 |true=>rw[h1]at h;cases h
 |false=>
 cases h2:W7 b c d with
 |true=>rw[h1,h2]at h;cases h
 |false=>
 cases h3:W7 c a b with
 |true=>rw[h1,h2,h3]at h;cases h
 |false=>
 cases h4:W7 d a b with
 |true=>rw[h1,h2,h3,h4]at h;cases h
 |false=>
 refine⟨rfl,rfl,rfl,rfl,λ⟨k1,k2⟩=>?_⟩
 have sg:∀m n:Int,m*n<0->W (sgn m*sgn n)<0:=λm n hm=>by
  have e:(m>0/\n<0)\/(m<0/\n>0):=by
   rcases ZXW m 0 with q|q|q
   .rcases ZXW n 0 with r|r|r
    .have:=Int.mul_pos_of_neg_of_neg q r;omega
    .subst r;simp at hm
    .exact .inr ⟨q,r⟩
   .subst q;simp at hm
   .rcases ZXW n 0 with r|r|r
    .exact .inl ⟨q,r⟩
    .subst r;simp at hm
    .have:=Int.mul_pos q r;omega
  have s1:∀z:Int,z>0->sgn z=1:=λz hz=>by unfold sgn;rw[decide_eq_true hz];rfl
  have s2:∀z:Int,z<0->sgn z=-1:=λz hz=>by unfold sgn;rw[decide_eq_false (by omega),decide_eq_true hz];rfl
  rcases e with⟨q,r⟩|⟨q,r⟩
  .rw[s1 m q,s2 n r];decide
  .rw[s2 m q,s1 n r];decide
 have p1:VV (XE a b) c d=true:=decide_eq_true<|sg _ _ k1;have p2:VV (XE c d) a b=true:=decide_eq_true<|sg _ _ k2;rw[h1,h2,h3,h4,p1,p2]at h;cases h
def qi(n:Int):Rat:=n
def rX(a:Pt):Rat:=qi a.X
def rY(a:Pt):Rat:=131072*qi a.Y-qi a.X
def ZPL{a b:Int}:qi a<qi b↔a<b:=Rat.intCast_lt_intCast
def ZPb{a b:Int}:qi a<=qi b↔a<=b:=Rat.intCast_le_intCast
def ZPM{a b:Int}:qi a=qi b↔a=b:=Rat.intCast_inj
def ZP0(a b:Int):qi (a*b)=qi a*qi b:=Rat.intCast_mul a b
def ZP1(a b:Int):qi (a-b)=qi a-qi b:=Rat.intCast_sub a b
def ZPp:qi 0=0:=rfl
def ZPN(a:Pt):rY a=qi (131072*a.Y-a.X):=by rw[ZP1,ZP0];rfl
def ZRu{a b:Pt}(ha:gOn a=true)(hb:gOn b=true)(h:rY a=rY b):a=b:=by
 rw[ZPN,ZPN,ZPM]at h;have:=ZO8 ha;have:=ZO8 hb;obtain⟨x,y⟩:=a;obtain⟨z,w⟩:=b;simp only at*;have e:y=w:=by omega
 subst e;simp;omega
def rM(a b:Pt):Rat:=(rX b-rX a)/(rY b-rY a)
def ZOO{a b:Pt}(h:rY a≠rY b):rM a b*(rY b-rY a)=rX b-rX a:=by
 unfold rM;exact Rat.div_mul_cancel<|by grind
def ZPc{a b c:Pt}(ha:gOn a=true)(hb:gOn b=true)(hc:gOn c=true)(h:rY a≠rY b):
 (rY b-rY a)*((rX a-rM a b*rY a+rM a b*rY c)-rX c)=131072*qi (ZO7 a b c):=by
 have hm:=ZOO h;rw[ZQc ha hb hc,ZP1,ZP0,ZP0,ZP1,ZP1,ZP1,ZP1];unfold rX rY at*
 grind
def ZOP{a b c:Pt}(ha:gOn a=true)(hb:gOn b=true)(hc:gOn c=true)(h:rY a≠rY b)(hz:rX a-rM a b*rY a+rM a b*rY c=rX c)(hb2:Bt (rY a) (rY b)<|rY c):W7 c a b=true:=by
 rw[<-ZRp];have hA:ZO7 a b c=0:=by
  have:=ZPc ha hb hc h;rw[hz]at this;have e:qi (ZO7 a b c)=qi 0:=by rw[ZPp];grind
  exact ZPM.1 e
 have hm:=ZOO h;obtain⟨s,hs⟩:∃s:Rat,s=(rY c-rY a)/(rY b-rY a):=⟨_,rfl⟩;have hs1:s*(rY b-rY a)=rY c-rY a:=by rw[hs];exact Rat.div_mul_cancel<|by grind
 have hX:rX c-rX a=s*(rX b-rX a):=by
  rw[<-hm];have:rX c-rX a=rM a b*(rY c-rY a):=by grind
  rw[this,<-hs1];grind
 have hY:qi c.Y-qi a.Y=s*(qi b.Y-qi a.Y):=by unfold rX rY at*;grind
 have s01:0<=s/\s<=1:=by
  rcases hb2 with⟨q1,q2⟩|⟨q1,q2⟩
  .have hp:0<rY b-rY a:=by grind
   constructor
   .rcases Rat.le_total (a:=0) (b:=s)with k|k
    .exact k
    .have:=Rat.mul_nonneg (show 0<=-s by grind) (show 0<=rY b-rY a by grind)
     have e:s*(rY b-rY a)=0:=by grind
     rcases Rat.mul_eq_zero.1 e with e|e<;>grind
   .rcases Rat.le_total (a:=s) (b:=1)with k|k
    .exact k
    .have:=Rat.mul_nonneg (show 0<=s-1 by grind) (show 0<=rY b-rY a by grind)
     have e:(s-1)*(rY b-rY a)=0:=by grind
     rcases Rat.mul_eq_zero.1 e with e|e<;>grind
  .have hp:0<rY a-rY b:=by grind
   constructor
   .rcases Rat.le_total (a:=0) (b:=s)with k|k
    .exact k
    .have:=Rat.mul_nonneg (show 0<=-s by grind) (show 0<=rY a-rY b by grind)
     have e:s*(rY b-rY a)=0:=by grind
     rcases Rat.mul_eq_zero.1 e with e|e<;>grind
   .rcases Rat.le_total (a:=s) (b:=1)with k|k
    .exact k
    .have:=Rat.mul_nonneg (show 0<=s-1 by grind) (show 0<=rY a-rY b by grind)
     have e:(s-1)*(rY a-rY b)=0:=by grind
     rcases Rat.mul_eq_zero.1 e with e|e<;>grind
 have box:∀z a b:Int,qi z-qi a=s*(qi b-qi a)->min a b<=z/\z<=max a b:=λz a b e=>by
  rcases ZYL a b with k|k
  .have k':=ZPb.2 k;have e1:=Rat.mul_nonneg s01.1 (show 0<=qi b-qi a by grind)
   have e2:=Rat.mul_nonneg (show 0<=1-s by grind) (show 0<=qi b-qi a by grind)
   have:=ZPb.1 (show qi a<=qi z by grind)
   have:=ZPb.1 (show qi z<=qi b by grind)
   omega
  .have k':=ZPb.2 k;have e1:=Rat.mul_nonneg s01.1 (show 0<=qi a-qi b by grind)
   have e2:=Rat.mul_nonneg (show 0<=1-s by grind) (show 0<=qi a-qi b by grind)
   have:=ZPb.1 (show qi z<=qi a by grind)
   have:=ZPb.1 (show qi b<=qi z by grind)
   omega
 obtain⟨b1,b2⟩:=box c.X a.X b.X hX;obtain⟨b3,b4⟩:=box c.Y a.Y b.Y hY;have hl:XD [c,a,b]=true:=by simp[XD,ha,hb,hc]
 unfold ZPn;simp[hl,hA,b1,b2,b3,b4,ha,hb,hc]
def ZRv{T c d z p q:Rat}(hT:T≠0)(h:(c<z/\z<d)\/(d<z/\z<c))(h1:131072*p=-T*(c-z))(h2:131072*q=-T*(d-z)):p*q<0:=by
 have t:0<T*T:=by
  rcases Rat.le_total (a:=0) (b:=T)with k|k
  .exact Rat.mul_pos (by grind)<|by grind
  .have:=Rat.mul_pos (a:=-T) (b:=-T) (by grind) (by grind)
   grind
 have s:0<(z-c)*(d-z):=by
  rcases h with⟨a,b⟩|⟨a,b⟩
  .exact Rat.mul_pos (by grind)<|by grind
  .have:=Rat.mul_pos (a:=c-z) (b:=z-d) (by grind) (by grind)
   grind
 have:=Rat.mul_pos t s;have e:(131072*p)*(131072*q)=-(T*T*((z-c)*(d-z))):=by rw[h1,h2];grind
 grind
def bt_end{a b c d z:Rat}(h1:Bt a b z)(h2:Bt c d z):Bt a b c\/Bt a b d\/Bt c d a\/Bt c d b:=by unfold Bt at*;grind
def ZRw{a b c d:Pt}(ha:gOn a=true)(hb:gOn b=true)(hc:gOn c=true)(hd:gOn d=true)(h:Ui a b c d=0)(n1:rY a≠rY b)(n2:rY c≠rY d){z:Rat}
 (h1:Bt (rY a) (rY b) z) (h2:Bt (rY c) (rY d) z) (e:rX a-rM a b*rY a+rM a b*z=rX c-rM c d*rY c+rM c d*z):False:=by
 obtain⟨b1,b2,b3,b4,hx⟩:=ZRt ha hb hc hd h;have m1:=ZOO n1;have m2:=ZOO n2;have q1:=ZPc ha hb hc n1;have q2:=ZPc ha hb hd n1;have q3:=ZPc hc hd ha n2;have q4:=ZPc hc hd hb n2;by_cases hM:rM a b=rM c d
 .rcases bt_end h1 h2 with k|k|k|k
  .rw[ZOP ha hb hc n1 (by grind) k]at b3;cases b3
  .rw[ZOP ha hb hd n1 (by grind) k]at b4;cases b4
  .rw[ZOP hc hd ha n2 (by grind) k]at b1;cases b1
  .rw[ZOP hc hd hb n2 (by grind) k]at b2;cases b2
 .by_cases c1:rY c=z
  .rw[ZOP ha hb hc n1 (by grind)<|by rw[c1];exact h1]at b3;cases b3
  .by_cases c2:rY d=z
   .rw[ZOP ha hb hd n1 (by grind)<|by rw[c2];exact h1]at b4;cases b4
   .by_cases c3:rY a=z
    .rw[ZOP hc hd ha n2 (by grind)<|by rw[c3];exact h2]at b1;cases b1
    .by_cases c4:rY b=z
     .rw[ZOP hc hd hb n2 (by grind)<|by rw[c4];exact h2]at b2;cases b2
     .have T1:(rY b-rY a)*(rM c d-rM a b)≠0:=λk=>by rcases Rat.mul_eq_zero.1 k with k|k<;>grind
      have T2:(rY d-rY c)*(rM a b-rM c d)≠0:=λk=>by rcases Rat.mul_eq_zero.1 k with k|k<;>grind
      have s1:=ZRv (p:=qi<|ZO7 a b c) (q:=qi<|ZO7 a b d) T1 (show(rY c<z/\z<rY d)\/(rY d<z/\z<rY c)by unfold Bt at h2;grind) (by rw[<-q1];grind)<|by rw[<-q2];grind
      have s2:=ZRv (p:=qi<|ZO7 c d a) (q:=qi<|ZO7 c d b) T2 (show(rY a<z/\z<rY b)\/(rY b<z/\z<rY a)by unfold Bt at h1;grind) (by rw[<-q3];grind)<|by rw[<-q4];grind
      rw[<-ZP0,<-ZPp,ZPL]at s1 s2;exact hx ⟨s1,s2⟩
def ZTj{a b c:Pt}(ha:gOn a=true)(hb:gOn b=true)(hc:gOn c=true)(n1:rY a≠rY b)(n2:rY b≠rY c)(h:Jd a b c≠0):rM a b≠rM b c:=by
 intro e;have m1:=ZOO n1;have m2:=ZOO n2;have q:=ZPc ha hb hc n1;have:qi (ZO7 a b c)=qi 0:=by rw[ZPp];grind
 rw[ZPM]at this;apply h;have hl:XD [a,b,c]=true:=by simp[XD,ha,hb,hc]
 have es:Ve (XE a b) c=sgn (ZO7 a b c):=rfl;unfold Jd;rw[hl,cond_true,es,this];rfl
def ZQe{a b c:Pt}(h:Jd a b c≠0):a≠b/\b≠c:=by
 unfold Jd at h;cases hl:XD [a,b,c]with
 |false=>rw[hl]at h;exact absurd rfl h
 |true=>
  rw[hl,cond_true]at h;have es:Ve (XE a b) c=sgn (ZO7 a b c):=rfl;simp only[XD,ZX8,ZYc,ZWv,ZWn]at hl;rw[es,ZQc hl.1 hl.2.1 hl.2.2]at h;constructor
  .rintro rfl;apply h;rw[show(a.X-a.X)*(c.Y-a.Y)-(a.Y-a.Y)*(c.X-a.X)=0 by rw[Int.sub_self,Int.sub_self,ZY4,ZY4];rfl]
   rfl
  .rintro rfl;apply h;rw[show(b.X-a.X)*(b.Y-a.Y)-(b.Y-a.Y)*(b.X-a.X)=0 by rw[Int.mul_comm];omega]
   rfl
def uP(l:List Pt)(k:Nat):Pt:=pAt l<|k%l.length
structure RingV(l:List Pt):Prop where
 n3:3<=l.length
 n40:l.length<=40
 on:∀k,gOn (uP l k)=true
 turn:∀i,i<l.length->Jd (uP l i) (uP l<|i+1) (uP l<|i+2)≠0
 cross:∀i k,i<k->k<l.length->k≠i+1->¬(k+1=l.length/\i=0)->Ui (uP l i) (uP l<|i+1) (uP l k) (uP l<|k+1)=0
def ZQf{l:List Pt}(h:Vh l=true):RingV l:=by
 unfold Vh at h;simp only[ZWn,decide_eq_true_iff,ZWG]at h;obtain⟨h1,h2,h3,_,h5⟩:=h;have h3':∀x∈l,gOn x=true:=λx hx=>by
  rw[ZZ2]at h3;have:=h3 x hx;unfold Jf at this;simpa using this
 have hlen:3<=l.length:=by omega
 have hon:∀k,gOn (uP l k)=true:=λk=>h3' _<|ZWA<|Z1g<|ZXn k<|by omega
 have hS:∀i,i<l.length->Nh l i=false/\Jg l i=true:=λi hi=>by
  unfold Ni at h5;have:=ZWF.1 h5 i<|ZXQ.2 hi;unfold Uk at this;simpa using this
 refine⟨hlen,by omega,hon,λi hi=>?_,λi k hik hk k1 k2=>?_⟩
 .have:=(hS i hi).1;unfold Nh at this;unfold uP;rw[ZY1 hi];simpa using this
 .have h6:=(hS i<|by omega).2
  unfold Jg Xb at h6;have h7:=ZWF.1 h6 k<|ZYM.2<|by omega
  unfold GX at h7;rw[ZQd]at h7;unfold uP;rw[ZY1 hk,ZY1 (show i<l.length by omega)]
  simpa using h7
def uX(l:List Pt)(k:Nat):Rat:=rX<|uP l k
def uY(l:List Pt)(k:Nat):Rat:=rY<|uP l k
def uM(l:List Pt)(k:Nat):Rat:=rM (uP l k)<|uP l<|k+1
def uQ(l:List Pt)(k:Nat):Rat:=uX l k-uM l k*uY l k
def ZQg(l:List Pt)(k:Nat):uP l (l.length+k)=uP l k:=by unfold uP;rw[Nat.add_mod_left]
def ZRx{l:List Pt}{i:Nat}(k:Nat):uP l (nx l.length i+k)=uP l (i+1+k):=by
 unfold nx;split
 .rename_i e;rw[e,ZQg,ZWD]
 .rfl
def RingV.ne{l:List Pt}(g:RingV l){a b:Nat}(ha:a<b)(hb:b<l.length):uP l a≠uP l b:=by
 by_cases h1:b=a+1
 .subst h1;exact(ZQe<|g.turn a<|by omega).1
 .by_cases h2:b+1=l.length/\a=0
  .obtain⟨h2,rfl⟩:=h2;have:=(ZQe<|g.turn b hb).1;rw[h2,<-ZWV l.length,ZQg]at this;exact λe=>this e.symm
  .have hc:=ZRt (g.on _) (g.on _) (g.on _) (g.on _)<|g.cross a b ha hb h1 h2;intro e;have h3:=hc.1;rw[e]at h3;unfold W7 at h3;have hl:XD [uP l b,uP l b,uP l<|b+1]=true:=by simp[XD,g.on]
   have hp:QK (uP l b) (uP l b)=true:=by simp[QK]
   rw[hl,hp]at h3;cases h3
def RingV.gen{l:List Pt}(g:RingV l):GenP l.length (uX l) (uY l) (uQ l) (uM l):=by
 have dist:∀a b,a<l.length->b<l.length->a≠b->uY l a≠uY l b:=λa b ha hb hab e=>by
  have:=ZRu (g.on a) (g.on b) e;rcases ZXL a b with k|k
  .exact g.ne k hb this
  .exact g.ne (show b<a by omega) ha this.symm
 have e0:uP l l.length=uP l 0:=ZQg l 0;have yne:∀k,k<l.length->rY (uP l k)≠rY (uP l<|k+1):=λk hk e=>(ZQe<|g.turn k hk).1 (ZRu (g.on _) (g.on _) e)
 have slope:∀i,i<l.length->uM l i≠uM l (nx l.length i):=λi hi=>by
  have h2:=ZRx (l:=l) (i:=i) 0;have h3:=ZRx (l:=l) (i:=i) 1;have hn:=yne _<|ZOH hi;unfold uM;rw[h3]at hn⊢;simp only[ZWV]at h2;rw[h2]at hn⊢;exact ZTj (g.on _) (g.on _) (g.on _) (yne i hi) hn<|g.turn i hi
 have on1:∀k,k<l.length->uX l (k+1)=uQ l k+uM l k*uY l (k+1):=λk hk=>by
  have:=ZOO<|yne k hk;unfold uQ uM uX uY at*
  grind
 have on0:∀k,k<l.length->uX l k=uQ l k+uM l k*uY l k:=λk hk=>by unfold uQ;grind
 have adj:∀i,i<l.length->∀c,uQ l i+uM l i*c=uQ l (nx l.length i)+uM l (nx l.length i)*c->c=uY l (i+1):=λi hi c e=>by
  have h1:=on1 i hi;have h2:=on0 _<|ZOH hi;have ex:uX l (nx l.length i)=uX l (i+1):=ZOk (f:=uX l) (by unfold uX;rw[e0]) hi
  have ey:uY l (nx l.length i)=uY l (i+1):=ZOk (f:=uY l) (by unfold uY;rw[e0]) hi
  rw[ex,ey]at h2;have:(uM l i-uM l (nx l.length i))*(c-uY l (i+1))=0:=by grind
  rcases Rat.mul_eq_zero.1 this with k|k
  .exact absurd (show uM l i=uM l (nx l.length i)by grind)<|slope i hi
  .grind
 refine⟨g.n3,by unfold uX;rw[e0],by unfold uY;rw[e0],on0,on1,dist,?_,slope⟩
 intro i k hi hk hik c h1 h2 e;by_cases c1:k=nx l.length i
 .subst c1;exact .inl ⟨rfl,adj i hi c e⟩
 .by_cases c2:i=nx l.length k
  .refine .inr ⟨c2,?_⟩;have:=adj k hk c (by rw[<-c2];exact e.symm)
   rw[this,c2];exact(ZOk (f:=uY l) (by unfold uY;rw[e0]) hk).symm
  .exfalso;have far:∀a b,a<b->b<l.length->b≠nx l.length a->a≠nx l.length b->b≠a+1/\¬(b+1=l.length/\a=0):=λa b hab hb h1 h2=>by
    unfold nx at h1 h2;split at h1<;>split at h2<;>omega
   rcases ZXL i k with q|q
   .obtain⟨f1,f2⟩:=far i k q hk c1 c2;exact ZRw (g.on _) (g.on _) (g.on _) (g.on _) (g.cross i k q hk f1 f2) (yne i hi) (yne k hk) h1 h2 e
   .obtain⟨f1,f2⟩:=far k i (by omega) hi c2 c1
    exact ZRw (g.on _) (g.on _) (g.on _) (g.on _) (g.cross k i (by omega) hi f1 f2) (yne k hk) (yne i hi) h2 h1 e.symm
def ZO3(P a b:Pt):Int:=(2*a.X-P.X)*(2*b.Y-P.Y)-(2*a.Y-P.Y)*(2*b.X-P.X)
def wUp(P a b:Pt):Bool:=decide (2*a.Y-P.Y<=0)&&(decide (2*b.Y-P.Y>0)&&decide (ZO3 P a b>0))
def wDn(P a b:Pt):Bool:=decide (2*a.Y-P.Y>0)&&(decide (2*b.Y-P.Y<=0)&&decide (ZO3 P a b<0))
def wS(P a b:Pt):Int:=bif wUp P a b then 1 else bif wDn P a b then -1 else 0
def pL(P:Pt):Rat:=qi (131072*P.Y-P.X)/2
def ZRy{a P:Pt}(ha:gOn a=true)(hP:0<=P.X/\P.X<=65534):decide (rY a<pL P)=(decide (2*a.Y-P.Y<0)||(decide (2*a.Y-P.Y=0)&&decide (2*a.X-P.X>0))):=by
 have e:rY a<pL P↔2*(131072*a.Y-a.X)<131072*P.Y-P.X:=by
  rw[<-ZPL,ZPN,ZP0,show qi 2=2 from rfl]
  unfold pL
  grind
 have:=ZO8 ha;rw[ZWK,decide_eq_true_iff,e];simp only[ZXt,ZWn,decide_eq_true_iff];omega
def ZTk{a b P:Pt}(ha:gOn a=true)(hb:gOn b=true)(hP:0<=P.X/\P.X<=65534)(hn:rY a≠rY b)(na:rY a≠pL P)(nb:rY b≠pL P):
 wS P a b=bif (decide (rY a<pL P) ^^ decide (rY b<pL P))&&decide (qi P.X/2<rX a-rM a b*rY a+rM a b*pL P)then(bif decide (rY a<rY b)then 1 else -1)else 0:=by
 have hm:=ZOO hn;have ht:(rY b-rY a)*((rX a-rM a b*rY a+rM a b*pL P)-qi P.X/2)=32768*qi (ZO3 P a b):=by
  unfold ZO3 pL;simp only[ZP1,ZP0,show qi 2=2 from rfl,show qi 131072=131072 from rfl]
  unfold rX rY at*
  grind
 generalize hX:rX a-rM a b*rY a+rM a b*pL P=X at*;have sd:∀{d X t:Rat},0<d->(0<d*(X-t)↔t<X):=λ{d X t}hd=>by
  constructor
  .intro h;rcases Rat.le_total (a:=X) (b:=t)with k|k
   .have:=Rat.mul_nonneg (show 0<=d by grind) (show 0<=t-X by grind);grind
   .grind
  .intro h;exact Rat.mul_pos hd<|by grind
 have la:=ZRy ha hP;have lb:=ZRy hb hP;have mz:∀m n:Int,m=0->m*n=0:=λm n h=>by rw[h,ZY4]
 have mz':∀m n:Int,n=0->m*n=0:=λm n h=>by rw[h,Int.mul_zero]
 by_cases ab:rY a<rY b
 .have hs:(qi P.X/2<X)↔ZO3 P a b>0:=by
   rw[<-sd (show 0<rY b-rY a by grind),ht,gt_iff_lt,<-ZPL,ZPp]
   grind
  rw[decide_eq_true ab,cond_true];by_cases hA:rY a<pL P
  .by_cases hB:rY b<pL P
   ·
    rw[decide_eq_true hA,decide_eq_true hB];rw[decide_eq_true hA,eq_comm]at la;rw[decide_eq_true hB,eq_comm]at lb;simp only[ZXt,ZWn,decide_eq_true_iff]at la lb;have u:wUp P a b=false:=by unfold wUp;rw[decide_eq_false (show ¬2*b.Y-P.Y>0 by omega)];simp
    have d:wDn P a b=false:=by unfold wDn;rw[decide_eq_false (show ¬2*a.Y-P.Y>0 by omega)];simp
    unfold wS;rw[u,d];rfl
   .rw[decide_eq_true hA,decide_eq_false hB];rw[decide_eq_true hA,eq_comm]at la;rw[decide_eq_false hB,eq_comm]at lb;simp only[ZXt,ZWn,decide_eq_true_iff,ZXE,ZYe,decide_eq_false_iff_not]at la lb;have d:wDn P a b=false:=by unfold wDn;rw[decide_eq_false (show ¬2*a.Y-P.Y>0 by omega)];simp
    have u:wUp P a b=decide (qi P.X/2<X):=by
     rw[ZWK,decide_eq_true_iff,hs];unfold wUp;simp only[ZWn,decide_eq_true_iff];constructor
     .exact λh=>h.2.2
     .intro h;refine⟨by omega,?_,h⟩
      rcases ZXW (2*b.Y-P.Y) 0 with k|k|k
      .omega
      .exfalso;have e1:=mz' (2*a.X-P.X) _ k;have e2:0<=(2*a.Y-P.Y)*(2*b.X-P.X):=by
        have:=ZXX (show 0<=-(2*a.Y-P.Y)by omega) (show 0<=-(2*b.X-P.X)by omega)
        rwa[ZZ1]at this
       unfold ZO3 at h;omega
      .exact k
    unfold wS;rw[u,d];simp
  .have hB:¬rY b<pL P:=by grind
   rw[decide_eq_false hA,decide_eq_false hB];rw[decide_eq_false hA,eq_comm]at la;rw[decide_eq_false hB,eq_comm]at lb;simp only[ZXE,ZYe,decide_eq_false_iff_not]at la lb;have u:wUp P a b=false:=by
    unfold wUp;cases hq:(decide (2*a.Y-P.Y<=0)&&(decide (2*b.Y-P.Y>0)&&decide (ZO3 P a b>0)))with
    |false=>rfl
    |true=>
     exfalso;simp only[ZWn,decide_eq_true_iff]at hq;have e0:2*a.Y-P.Y=0:=by omega
     have e1:=mz _ (2*b.X-P.X) e0;have e2:(2*a.X-P.X)*(2*b.Y-P.Y)<=0:=by
      have:=ZXX (show 0<=-(2*a.X-P.X)by omega) (show 0<=2*b.Y-P.Y by omega)
      rw[Int.neg_mul]at this;omega
     unfold ZO3 at hq;omega
   have d:wDn P a b=false:=by
    unfold wDn;cases hq:(decide (2*a.Y-P.Y>0)&&(decide (2*b.Y-P.Y<=0)&&decide (ZO3 P a b<0)))with
    |false=>rfl
    |true=>
     exfalso;simp only[ZWn,decide_eq_true_iff]at hq;have e0:2*b.Y-P.Y=0:=by omega
     have e1:=mz' (2*a.X-P.X) _ e0;have e2:(2*a.Y-P.Y)*(2*b.X-P.X)<=0:=by
      have:=ZXX (show 0<=2*a.Y-P.Y by omega) (show 0<=-(2*b.X-P.X)by omega)
      rw[Int.mul_neg]at this;omega
     unfold ZO3 at hq;omega
   unfold wS;rw[u,d];simp
 .have ab':rY b<rY a:=by grind
  have hs:(qi P.X/2<X)↔ZO3 P a b<0:=by
   rw[<-sd (show 0<rY a-rY b by grind),<-ZPL,ZPp]
   grind
  rw[decide_eq_false ab,cond_false];by_cases hB:rY b<pL P
  .by_cases hA:rY a<pL P
   .rw[decide_eq_true hA,decide_eq_true hB];rw[decide_eq_true hA,eq_comm]at la;rw[decide_eq_true hB,eq_comm]at lb;simp only[ZXt,ZWn,decide_eq_true_iff]at la lb;have u:wUp P a b=false:=by unfold wUp;rw[decide_eq_false (show ¬2*b.Y-P.Y>0 by omega)];simp
    have d:wDn P a b=false:=by unfold wDn;rw[decide_eq_false (show ¬2*a.Y-P.Y>0 by omega)];simp
    unfold wS;rw[u,d];rfl
   .rw[decide_eq_false hA,decide_eq_true hB];rw[decide_eq_false hA,eq_comm]at la;rw[decide_eq_true hB,eq_comm]at lb;simp only[ZXt,ZWn,decide_eq_true_iff,ZXE,ZYe,decide_eq_false_iff_not]at la lb;have u:wUp P a b=false:=by unfold wUp;rw[decide_eq_false (show ¬2*b.Y-P.Y>0 by omega)];simp
    have d:wDn P a b=decide (qi P.X/2<X):=by
     rw[ZWK,decide_eq_true_iff,hs];unfold wDn;simp only[ZWn,decide_eq_true_iff];constructor
     .exact λh=>h.2.2
     .intro h;refine⟨?_,by omega,h⟩
      rcases ZXW (2*a.Y-P.Y) 0 with k|k|k
      .omega
      .exfalso;have e1:=mz _ (2*b.X-P.X) k;have e2:0<=(2*a.X-P.X)*(2*b.Y-P.Y):=by
        have:=ZXX (show 0<=-(2*a.X-P.X)by omega) (show 0<=-(2*b.Y-P.Y)by omega)
        rwa[ZZ1]at this
       unfold ZO3 at h;omega
      .exact k
    unfold wS;rw[u,d];simp
  .have hA:¬rY a<pL P:=by grind
   rw[decide_eq_false hA,decide_eq_false hB];rw[decide_eq_false hA,eq_comm]at la;rw[decide_eq_false hB,eq_comm]at lb;simp only[ZXE,ZYe,decide_eq_false_iff_not]at la lb;have u:wUp P a b=false:=by
    unfold wUp;cases hq:(decide (2*a.Y-P.Y<=0)&&(decide (2*b.Y-P.Y>0)&&decide (ZO3 P a b>0)))with
    |false=>rfl
    |true=>
     exfalso;simp only[ZWn,decide_eq_true_iff]at hq;have e0:2*a.Y-P.Y=0:=by omega
     have e1:=mz _ (2*b.X-P.X) e0;have e2:(2*a.X-P.X)*(2*b.Y-P.Y)<=0:=by
      have:=ZXX (show 0<=-(2*a.X-P.X)by omega) (show 0<=2*b.Y-P.Y by omega)
      rw[Int.neg_mul]at this;omega
     unfold ZO3 at hq;omega
   have d:wDn P a b=false:=by
    unfold wDn;cases hq:(decide (2*a.Y-P.Y>0)&&(decide (2*b.Y-P.Y<=0)&&decide (ZO3 P a b<0)))with
    |false=>rfl
    |true=>
     exfalso;simp only[ZWn,decide_eq_true_iff]at hq;have e0:2*b.Y-P.Y=0:=by omega
     have e1:=mz' (2*a.X-P.X) _ e0;have e2:(2*a.Y-P.Y)*(2*b.X-P.X)<=0:=by
      have:=ZXX (show 0<=2*a.Y-P.Y by omega) (show 0<=-(2*b.X-P.X)by omega)
      rw[Int.mul_neg]at this;omega
     unfold ZO3 at hq;omega
   unfold wS;rw[u,d];simp
def ZTl{l:List Pt}(h:Vh l=true){P:Pt}(hP:0<=P.X/\P.X<=65534)(hn:∀k,k<l.length->¬(2*(uP l k).X=P.X/\2*(uP l k).Y=P.Y)):
 (sm (λk=>wS P (uP l k)<|uP l<|k+1) l.length=0)↔xs (λk=>wUp P (uP l k) (uP l<|k+1)||wDn P (uP l k) (uP l<|k+1)) l.length=false:=by
 have g:=ZQf h;have G:=g.gen;have gen:∀k,k<l.length->uY l k≠pL P:=λk hk e=>by
  have e2:2*(131072*(uP l k).Y-(uP l k).X)=131072*P.Y-P.X:=by
   rw[<-ZPM,ZP0,show qi 2=2 from rfl]
   unfold uY pL at e;rw[ZPN]at e
   grind
  have:=ZO8<|g.on k;exact hn k hk<|by omega
 have gen2:=ZPH G.hy gen;have eq:∀k,k<l.length->wS P (uP l k) (uP l<|k+1)=(λk=>bif crs (uY l) k (pL P)&&decide (qi P.X/2<uQ l k+uM l k*pL P)then(bif upE (uY l) k then 1 else -1)else 0) k:=λk hk=>
  ZTk (g.on k) (g.on<|k+1) hP (G.ne hk) (gen2 k hk).1 (gen2 k hk).2
 have eq2:∀k,k<l.length->(wUp P (uP l k) (uP l<|k+1)||wDn P (uP l k) (uP l<|k+1))=(λk=>crs (uY l) k (pL P)&&decide (qi P.X/2<uQ l k+uM l k*pL P)) k:=λk hk=>by
  have e:=eq k hk;unfold wS at e;show _=(crs (uY l) k (pL P)&&decide (qi P.X/2<uQ l k+uM l k*pL P))
  simp only at e;revert e;cases wUp P (uP l k) (uP l<|k+1)<;>cases wDn P (uP l k) (uP l<|k+1)<;>cases(crs (uY l) k (pL P)&&decide (qi P.X/2<uQ l k+uM l k*pL P))<;>cases upE (uY l) k<;>simp
 rw[ZRh eq,ZPG eq2];exact G.wind gen _
attribute [go_sem] Z19 Z1a Z1b
@[irreducible] def Qj:List AV:=List.replicate 256<|.int .i64 0
def VY:Qj.length=256:=by unfold Qj;exact ZY2
def GY:Qj.all scalar=true:=by
 unfold Qj;rw[ZWF];intro x hx;rw[ZYS hx];rfl
def VZ(l:List AV)(b:Nat)(c:Int):List AV:=l.take b++[I c]++l.drop (b+1)
def ZT(c:Int)(bs:List UInt8)(l:List AV):List AV:=bs.foldl (λl b=>VZ l b.toNat c) l
def Z1r{l:List AV}{b:Nat}(c:Int)(h:b<l.length):(VZ l b c).length=l.length:=by
 simp[VZ];omega
def XG(c:Int):∀(bs:List UInt8)(l:List AV),l.length=256->(ZT c bs l).length=256
 |[],l,h=>h
 |b::r,l,h=>by
  have hb:b.toNat<256:=b.toNat_lt;exact XG c r _<|by rw[Z1r c<|by omega];exact h
def Z1s(s:Str)(c:Int)(l0:List AV)(h0:l0.length=256)(hs:s.data.size<1000000):
 fnV rE 246 [.str s,I c,.ptr 1 0 0 1] [.row 256 [.agg Qj],.row 256 [.agg l0]]=some (.tup [],[.row 256 [.agg Qj],.row 256 [.agg<|ZT c s.data.toList l0]]):=by
 have L:=Y8 (E:=rE) (live:=[0,1,2,5]) (b:=c246L0b) s.size (λi=>[(0,.str s),(1,I c),(2,.ptr 1 0 0 1),(5,I i)]) (λi=>[.row 256 [.agg Qj],.row 256 [.agg<|ZT c (s.data.toList.take i) l0]]) (λi=>rfl)
  (λi hi=>by
   have hi0:i<s.data.size:=hi;have hi':=Zh hi;have hw:=Zx (n:=i)<|by omega
   have hg:s.data[i]?=some s.data[i]:=by simp[hi0]
   have hn:((i:Int)).toNat=i:=rfl;have e1:s.data.toList.take (i+1)=s.data.toList.take i++[s.data[i]]:=by
    rw[ZY9];congr 1;simp[hi0]
   have e2:ZT c (s.data.toList.take<|i+1) l0=VZ (ZT c (s.data.toList.take i) l0) s.data[i].toNat c:=by
    rw[e1];simp[ZT]
   rw[e2];have hl:=XG c (s.data.toList.take i) l0 h0;generalize ZT c (s.data.toList.take i) l0=l at hl⊢;generalize s.data[i]=b at hg⊢;have hb:b.toNat<256:=b.toNat_lt;have hb':(0<=((b.toNat:Nat):Int)/\((b.toNat:Nat):Int)<((256:Nat):Int))=True:=by simp;omega
   have hbn:(((b.toNat:Nat):Int)).toNat=b.toNat:=rfl;have hle:decide (b.toNat+1<=l.length)=true:=decide_eq_true<|by omega
   have hi0':(0<=(i:Int))=True:=by simp
   refine⟨_,by simp only[go_sem,c246L0b,hi',hi0',hw,hn,hg,hb',hbn,hle,if_true,ZWN,ZWD,ZX1];rfl,?_⟩
   simp only[go_sem])
  (e:=.exit 0) (by simp only[go_sem,c246L0b,ZG];rfl) (by simp)
 have L':Zg rE [0,1,2,5] c246L0b [(0,.str s),(1,I c),(2,.ptr 1 0 0 1),(5,.int .i64 0)] [.row 256 [.agg Qj],.row 256 [.agg l0]]=_:=L;rw[Q6 (f:=246) rfl rfl];have e3:s.data.toList.take s.size=s.data.toList:=by
  apply ZWL;exact Nat.le_of_eq<|ZX7
 rw[e3]at L';simp only[go_sem,c246,c246L0,L']
def WH(l:List UInt8)(c:Int)(l0:List AV)(hl:l.length<100)(h0:l0.length=256):
 fnV rE 246 [.str<|B l,I c,.ptr 1 0 0 1] [.row 256 [.agg Qj],.row 256 [.agg l0]]=some (.tup [],[.row 256 [.agg Qj],.row 256 [.agg<|ZT c l l0]]):=
 Z1s (B l) c l0 h0 (Nat.lt_trans hl<|by decide)
def Um:List UInt8:=[97,98,99,100,101,102,103,104,105,106,107,108,109,110,111,112,113,114,115,116,117,118,119,120,121,122,65,66,67,68,69,70,71,72,73,74,75,76,77,78,79,80,81,82,83,84,85,86,87,88,89,90]
def Qe:List AV:=ZT 9 [59,44,46,58,40,41,91,93,123,125,61,43,45]<|ZT 8 [60,62]<|ZT 7 [33]<|ZT 6 [34]<|ZT 2 [35]<|ZT 1 [32,9,10]<|ZT 5 [95]<|ZT 4 [48,49,50,51,52,53,54,55,56,57]<|ZT 3 Um Qj
def DB:ACode:=
 .seq (.region [o 3<|.mkf (.func 246) [] [(.t 1)],
  o 2 (.mv<|.t 3)])<|
.seq (.region [o 4<|.mv<|.t 2,
 o 5 (.callv false (.t 4) [(.c<|.str<|B Um),(.c<|.int .i64 3)])])<|
.seq (.region [o 6<|.mv<|.t 2,
 o 7 (.callv false (.t 6) [(.c<|.str<|B [48,49,50,51,52,53,54,55,56,57]),(.c<|.int .i64 4)])])<|
.seq (.region [o 8<|.mv<|.t 2,
 o 9 (.callv false (.t 8) [(.c<|.str<|B [95]),(.c<|.int .i64 5)])])<|
.seq (.region [o 10<|.mv<|.t 2,
 o 11 (.callv false (.t 10) [(.c<|.str<|B [32,9,10]),(.c<|.int .i64 1)])])<|
.seq (.region [o 12<|.mv<|.t 2,
 o 13 (.callv false (.t 12) [(.c<|.str<|B [35]),(.c<|.int .i64 2)])])<|
.seq (.region [o 14<|.mv<|.t 2,
 o 15 (.callv false (.t 14) [(.c<|.str<|B [34]),(.c<|.int .i64 6)])])<|
.seq (.region [o 16<|.mv<|.t 2,
 o 17 (.callv false (.t 16) [(.c<|.str<|B [33]),(.c<|.int .i64 7)])])<|
.seq (.region [o 18<|.mv<|.t 2,
 o 19 (.callv false (.t 18) [(.c<|.str<|B [60,62]),(.c<|.int .i64 8)])])<|
.seq (.region [o 20<|.mv<|.t 2,
 o 21 (.callv false (.t 20) [(.c<|.str<|B [59,44,46,58,40,41,91,93,123,125,61,43,45]),(.c<|.int .i64 9)])])<|
.seq (.region [o 22<|.load (some 256)<|.t 1,
 ⟨none,.store 256 (.t 0)<|.t 22,none⟩])<|
.ret
def GZ:ACode:=.seq (.region [o 0<|.box 256<|.c<|.agg Qj])<|.seq (.region [o 1<|.box 256<|.c<|.agg Qj]) DB
def c166_eq:c166=GZ:=by
 unfold GZ Qj;kernel_rfl
def W9(c:Int):∀(bs:List UInt8)(l:List AV),l.all scalar=true->(ZT c bs l).all scalar=true
 |[],l,h=>h
 |b::r,l,h=>by
  refine W9 c r _ ?_;simp only[VZ,List.all_append,ZX8,ZYc,scalar_int,ZWv,ZWn];rw[ZWF]at h⊢;exact⟨λx hx=>h x<|ZXT hx,ZWF.2 λx hx=>h x<|ZYC hx⟩
def cl0:List AV:=ZT 3 Um Qj
def Nn:cl0.length=256:=XG _ _ _ VY
def DC:cl0.all scalar=true:=W9 _ _ _ GY
def Z1t:ZT 3 Um Qj=cl0:=rfl
def cl1:List AV:=ZT 4 [48,49,50,51,52,53,54,55,56,57] cl0
def Np:cl1.length=256:=XG _ _ _ Nn
def DD:cl1.all scalar=true:=W9 _ _ _ DC
def Z1u:ZT 4 [48,49,50,51,52,53,54,55,56,57] cl0=cl1:=rfl
def cl2:List AV:=ZT 5 [95] cl1
def Nq:cl2.length=256:=XG _ _ _ Np
def DE:cl2.all scalar=true:=W9 _ _ _ DD
def Z1v:ZT 5 [95] cl1=cl2:=rfl
def cl3:List AV:=ZT 1 [32,9,10] cl2
def Nr:cl3.length=256:=XG _ _ _ Nq
def DF:cl3.all scalar=true:=W9 _ _ _ DE
def Z1w:ZT 1 [32,9,10] cl2=cl3:=rfl
def cl4:List AV:=ZT 2 [35] cl3
def Ns:cl4.length=256:=XG _ _ _ Nr
def DG:cl4.all scalar=true:=W9 _ _ _ DF
def Z1x:ZT 2 [35] cl3=cl4:=rfl
def cl5:List AV:=ZT 6 [34] cl4
def Nt:cl5.length=256:=XG _ _ _ Ns
def DH:cl5.all scalar=true:=W9 _ _ _ DG
def Z1y:ZT 6 [34] cl4=cl5:=rfl
def cl6:List AV:=ZT 7 [33] cl5
def Nu:cl6.length=256:=XG _ _ _ Nt
def DI:cl6.all scalar=true:=W9 _ _ _ DH
def Z1z:ZT 7 [33] cl5=cl6:=rfl
def cl7:List AV:=ZT 8 [60,62] cl6
def Nv:cl7.length=256:=XG _ _ _ Nu
def DJ:cl7.all scalar=true:=W9 _ _ _ DI
def Z1A:ZT 8 [60,62] cl6=cl7:=rfl
def cl8:List AV:=ZT 9 [59,44,46,58,40,41,91,93,123,125,61,43,45] cl7
def Nw:cl8.length=256:=XG _ _ _ Nv
def DK:cl8.all scalar=true:=W9 _ _ _ DJ
def Z1B:ZT 9 [59,44,46,58,40,41,91,93,123,125,61,43,45] cl7=cl8:=rfl
def Z1C:Qe=cl8:=rfl
def Ny:Qe.length=256:=Nw
def DL:Qe.all scalar=true:=DK
def Z1D{l:List AV}(h:l.length=256):List.take 256 l=l:=ZWL<|by omega
def DM{l:List AV}(h:l.length=256):List.drop 256 l=[]:=List.drop_of_length_le<|by omega
def Wa(c:Int):∀(bs:List UInt8)(l:List AV),Z4 l=true->Z4 (ZT c bs l)=true
 |[],l,h=>h
 |b::r,l,h=>by
  refine Wa c r _ ?_;have h2:Z4 (l.take b.toNat)=true/\Z4 (l.drop b.toNat)=true:=by
   rw[<-ZWn,<-XA,ZXB];exact h
  have h3:Z4 (l.drop<|b.toNat+1)=true:=by
   cases hd:l.drop b.toNat with
   |nil=>have:l.drop (b.toNat+1)=[]:=by rw[<-ZXA,hd];rfl
         rw[this];rfl
   |cons x t=>have:l.drop (b.toNat+1)=t:=by rw[<-ZXA,hd];rfl
              rw[this];have:=h2.2;rw[hd]at this;simp[Z4]at this;exact this.2
  simp only[VZ,XA,h2.1,h3,N1,Dk,Dj,ZX9]
def DN:Z4 Qj=true:=by unfold Qj;kernel_rfl
def Un:Z4 Qe=true:=by
 unfold Qe;exact Wa _ _ _<|Wa _ _ _<|Wa _ _ _<|Wa _ _ _<|Wa _ _ _<|Wa _ _ _<|Wa _ _ _<|Wa _ _ _<|Wa _ _ _ DN
def DO:pfn rE 166 []=some (.agg Qe):=by
 have hz:List.take 256 cl8=cl8:=Z1D Nw;have hz2:List.drop 256 Qj=[]:=DM VY;have hc:Z4 cl8=true:=Un;have f0:=WH Um 3 Qj (by decide) VY
 have f1:=WH [48,49,50,51,52,53,54,55,56,57] 4 cl0 (by decide) Nn
 have f2:=WH [95] 5 cl1 (by decide) Np
 have f3:=WH [32,9,10] 1 cl2 (by decide) Nq
 have f4:=WH [35] 2 cl3 (by decide) Nr
 have f5:=WH [34] 6 cl4 (by decide) Ns
 have f6:=WH [33] 7 cl5 (by decide) Nt
 have f7:=WH [60,62] 8 cl6 (by decide) Nu
 have f8:=WH [59,44,46,58,40,41,91,93,123,125,61,43,45] 9 cl7 (by decide) Nv
 rw[Z5 (f:=166) (c:=GZ) rfl (by rw[<-c166_eq];rfl),Z1C]
 simp only[go_sem,GZ,DB,VY,GY,RL,f0,f1,f2,f3,f4,f5,f6,f7,f8,Nw,DK,Z1t,Z1u,Z1v,Z1w,Z1x,Z1y,Z1z,Z1A,Z1B,hz,hz2,hc,ZXe]
def isI(v:AV):Bool:=match v with| .int .i64 _=>true|_=>false
def Z1E{v:AV}(h:isI v=true):∃n,v=I n:=by
 cases v with
 |int k n=>cases k<;>first|exact⟨n,rfl⟩|simp[isI]at h
 |_=>simp[isI]at h
def Wb(c:Int):∀(bs:List UInt8)(l:List AV),l.all isI=true->(ZT c bs l).all isI=true
 |[],l,h=>h
 |b::r,l,h=>by
  refine Wb c r _ ?_;simp only[VZ,List.all_append,ZX8,ZYc,ZWv,ZWn];rw[ZWF]at h;exact⟨⟨ZWF.2 λx hx=>h x<|ZXT hx,rfl⟩,ZWF.2 λx hx=>h x<|ZYC hx⟩
def Z1F:Qe.all isI=true:=by
 have hz:Qj.all isI=true:=by
  unfold Qj;rw[ZWF];intro x hx;rw[ZYS hx];rfl
 unfold Qe;exact Wb _ _ _<|Wb _ _ _<|Wb _ _ _<|Wb _ _ _<|Wb _ _ _<|Wb _ _ _<|Wb _ _ _<|Wb _ _ _<|Wb _ _ _ hz
def intOf(v:AV):Int:=match v with| .int _ n=>n|_=>0
def K1(k:Nat):Int:=intOf<|Qe.getD k .bot
def Z1G{k:Nat}(h:k<256):Qe.drop k=I (K1 k)::Qe.drop (k+1):=by
 have hk:k<Qe.length:=by rw[Ny];exact h
 rw[ZXZ hk];have h1:=ZWF.1 Z1F _<|ZYm hk;obtain⟨n,hn⟩:=Z1E h1;have:K1 k=n:=by
  unfold K1;rw[List.getD,ZWu hk,hn];rfl
 rw[this,hn]
def Xc(s:Str)(i:Nat):Nat:=(s.data.getD i 0).toNat
def atT(s:Str)(i:Nat):Int:=bif decide ((i:Int)>=(s.size:Int))then 0 else K1<|Xc s i
def DP(s:Str)(i:Nat):Xc s i<256:=UInt8.toNat_lt _
def DQ{s:Str}{i:Nat}(h:i<s.size):s.data[i]?=some (s.data.getD i 0):=by
 have h':i<s.data.size:=h;have e:s.data[i]?=some s.data[i]:=ZXc h';rw[ZX3,e];rfl
def H0(s:Str)(i:Nat):pfn rE 248 [.iptr true<|.str s::Qe,I i]=some (I<|atT s i):=by
 rw[Z5 (f:=248) rfl rfl];unfold atT;cases hc:decide ((i:Int)>=(s.size:Int))with
 |true=>simp only[go_sem,c248,hc]
 |false=>
  have hi:i<s.size:=by have:=of_decide_eq_false hc;omega
  have hg:=DQ hi;have h0:(0<=(i:Int))=True:=by simp
  have hn:((i:Int)).toNat=i:=rfl;have hb:=DP s i;have hd:=Z1G hb;have hb':(0<=((Xc s i:Nat):Int)/\((Xc s i:Nat):Int)<((256:Nat):Int))=True:=by simp;omega
  have hbn:(((Xc s i:Nat):Int)).toNat=Xc s i:=rfl;have e:(s.data.getD i 0).toNat=Xc s i:=rfl;simp only[go_sem,c248,hc,h0,hn,hg,if_true,ZWN,e,hb',hbn,ZX1,hd]
def Jj(n:Option Nat)(sz:Nat)(q:AOp):ACode:=
 .keep [0,1,4,7,8]<|.seq (.region [o 9<|.bin .lss (.t 8)<|.t 7])<|
  .seq (.cond (.t 9) (.skip)<|.exit 0)<|
  .seq (.keep [0,1,4,7,8]<|.block 1<|
   .seq (.region [o 10<|.mv<|.t 8,o 5<|.mv<|.t 10])<|
   .seq (.keep [0,1,5,7,8,16]<|.region [o 11<|.mv<|.t 1,o 12<|.mv<|.t 0,o 13<|.mv<|.t 5,o 14<|.iadr sz (.t 12)<|.t 13,o 15<|.load n<|.t 14,o 16 q])<|
   .cond (.t 16) (.seq (.region [o 17<|.mv<|.t 5,o 4<|.mv<|.t 17])<|.ret) (.skip))<|
  .region [o 18<|.bin .add (.t 8)<|.c<|.int .i64 1,o 8<|.mv<|.t 18]
def ixC(n:Option Nat)(sz:Nat)(q:AOp):ACode:=
 .seq (.region [o 4<|.mv<|.c<|.int .i64 0])<|
 .seq (.seq (.keep [0,1,7,8]<|.region [o 6<|.mv<|.t 0,o 7<|.len 1<|.t 6,o 8<|.mv<|.c<|.int .i64 0])<|
 .keep [4]<|.block 0<|.loop [0,1,7,8]<|Jj n sz q)<|
 .seq (.region [o 4<|.mv<|.c<|.int .i64<|-1])<|
 .ret
def Nz{α:Type}{f:Nat}{enc:α->AV}{p:α->Bool}{v:AV}(hs:rE.sum f=none)(hf:rE.fn f=some ⟨[.tmp 4],ixC none 1<|.bin .eql (.t 11)<|.t 15⟩)(l:List α)(hl:l.length<=4611686018427387904)
 (henc:∀x∈l,(enc x).cells=[enc x]) (hv:clean v=true) (hp:∀x∈l,YZ .eql v (enc x)=some (.bool<|p x)) (bw ex:Bool):pfn rE f [.isl bw ex 1<|l.map enc,v]=some (I<|Zp p l 0):=by
 have L:=ZDU (E:=rE) (live:=[0,1,7,8]) (b:=Jj none 1<|.bin .eql (.t 11)<|.t 15) (h:=[]) l p (λi=>[(0,.isl bw ex 1<|l.map enc),(1,v),(7,I l.length),(8,I i)]) 0 (λi fr=>get fr 4=I i) (λi=>rfl)
  (λi x hx hP=>by
   have hg:=Z6 (f:=enc) hx;have hi:=Zh<|Z7 hx;have hw:=Zx (n:=i) (by have:=Z7 hx;omega)
   have hm:=ZWA hx;have he:=henc x hm;have hq:=hp x hm;rw[hP]at hq;simp only[go_sem]at hq;refine⟨_,by simp only[go_sem,Jj,hg,hi,hw,he,hq];rfl,?_⟩
   simp only[go_sem])
  (λi x hx hP=>by
   have hg:=Z6 (f:=enc) hx;have hi:=Zh<|Z7 hx;have hm:=ZWA hx;have he:=henc x hm;have hq:=hp x hm;rw[hP]at hq;simp only[go_sem]at hq;refine⟨_,by simp only[go_sem,Jj,hg,hi,he,hq];rfl,?_⟩
   simp only[go_sem])
  (⟨_,by simp only[go_sem,Jj,ZG];rfl⟩)
 obtain⟨fr',h1,h2⟩:=L;have h1':Zg rE [0,1,7,8] (Jj none 1<|.bin .eql (.t 11)<|.t 15) [(0,.isl bw ex 1<|l.map enc),(1,v),(7,I l.length),(8,.int .i64 0)] []=_:=h1;rw[Z5 (f:=f) hs hf];by_cases hc:Zp p l 0=-1
 .rw[hc]at h1'⊢;simp only[go_sem,ixC,h1']
 .obtain⟨i,hi,hq⟩:=h2 hc;rw[if_neg hc]at h1';simp only[go_sem,ixC,h1',hq,hi]
def DR(l:List Int)(ex:Bool)(v:Int)(hl:l.length<=1000000):pfn rE 145 [.isl false ex 1<|l.map I,I v]=some (.bool<|l.any<|λx=>v==x):=by
 have h:=Nz (f:=223) (enc:=I) (p:=λx=>v==x) (v:=I v) rfl rfl l (by omega) (λx _=>rfl) rfl (λx _=>rfl) false ex
 rw[Z5 (f:=145) rfl rfl,<-Vg];unfold WG;simp only[go_sem,c145,h]
def Xd(s:Str)(cs:List Int):Nat->Nat->Nat
 |0,i=>i
 |k+1,i=>bif decide ((i:Int)<(s.size:Int))&&cs.any (λx=>atT s i==x)then Xd s cs k (i+1)else i
def ZI(s:Str)(cs:List Int)(i:Nat):Nat:=Xd s cs (s.size-i) i
def NA(s:Str)(cs:List Int):∀k i,i<=Xd s cs k i/\Xd s cs k i<=i+k
 |0,i=>by simp[Xd]
 |k+1,i=>by
  unfold Xd;cases decide ((i:Int)<(s.size:Int))&&cs.any (λx=>atT s i==x)with
  |true=>have:=NA s cs k<|i+1;simp only[cond_true];omega
  |false=>simp
def K2(s:Str)(cs:List Int)(i:Nat):i<=ZI s cs i:=(NA s cs _ i).1
def K3(s:Str)(cs:List Int){i:Nat}(h:i<=s.size):ZI s cs i<=s.size:=by
 have:=(NA s cs (s.size-i) i).2;unfold ZI;omega
def NB(s:Str)(cs:List Int){i:Nat}(h:i<s.size):ZI s cs i=bif cs.any (λx=>atT s i==x)then ZI s cs (i+1)else i:=by
 unfold ZI;have e:s.size-i=(s.size-(i+1))+1:=by omega
 rw[e,Xd];have:decide ((i:Int)<(s.size:Int))=true:=Zh h;rw[this,ZWp]
def H1(s:Str)(cs:List Int)(i:Nat)(hs:s.size<=1000000)(hi:i<=s.size)(hc:cs.length<=1000):pfn rE 247 [.iptr true<|.str s::Qe,I i,.isl false false 1<|cs.map I]=some (I<|ZI s cs i):=by
 have L:∀k i,s.size-i=k->i<=s.size->Zg rE [0,1,2] c247L0b [(0,.iptr true<|.str s::Qe),(1,I i),(2,.isl false false 1<|cs.map I)] []=some (.exit 0,[(0,.iptr true<|.str s::Qe),(1,I (Xd s cs k i:Nat)),(2,.isl false false 1<|cs.map I)],[]):=by
  intro k;induction k with
  |zero=>
   intro i hk hi;have:i=s.size:=by omega
   subst this;exact Q7 rfl (by simp only[go_sem,c247L0b,ZG];rfl) (by simp)
  |succ k ih=>
   intro i hk hi;have hlt:decide ((i:Int)<(s.size:Int))=true:=Zh<|by omega
   have ha:=H0 s i;have hh:=DR cs false (atT s i)<|by omega
   have hw:=Zx (n:=i)<|by omega
   unfold Xd;rw[hlt,ZWp];cases hb:cs.any (λx=>atT s i==x)with
   |true=>
    rw[hb]at hh;rw[cond_true,<-ih (i+1) (by omega) (by omega)]
    refine(Yt rfl (by simp only[go_sem,c247L0b,hlt,ha,hh,hw];rfl)).trans ?_
    simp only[go_sem]
   |false=>
    rw[hb]at hh;rw[cond_false];exact Q7 rfl (by simp only[go_sem,c247L0b,hlt,ha,hh]) (by simp)
 have L':=L _ i rfl hi;rw[Z5 (f:=247) rfl rfl];unfold ZI;simp only[go_sem,c247,c247L0,L']
def nlB(c:UInt8):Bool:=((c.toNat:Nat):Int)==10
def Wd(s:Str)(i:Nat):Int:=Yc nlB (s.extract i s.size).data.toList 0
def K4(s:Str):Nat->Nat->Nat
 |0,i=>i
 |k+1,i=>bif atT s i==2 then(bif decide (Wd s i<0)then s.size else K4 s k<|ZI s [1]<|i+(Wd s i).toNat)else i
def YP(s:Str)(i:Nat):Nat:=K4 s (s.size+1)<|ZI s [1] i
def H2(p:UInt8->Bool):∀(l:List UInt8)(k:Nat),Yc p l k=-1\/∃j:Nat,Yc p l k=((k+j:Nat):Int)/\j<l.length/\∃c,l[j]?=some c/\p c=true
 |[],k=>Or.inl rfl
 |c::r,k=>by
  unfold Yc;cases hp:p c with
  |true=>right;exact⟨0,by simp,by simp,c,by simp,hp⟩
  |false=>
   rw[cond_false];have e:(k:Int)+1=((k+1:Nat):Int):=by omega
   rw[e];rcases H2 p r (k+1)with h|⟨j,h1,h2,c2,h3,h4⟩
   .exact Or.inl h
   .right;refine⟨j+1,?_,by simp;omega,c2,by simpa using h3,h4⟩
    rw[h1];omega
def ext_list(s:Str)(i j:Nat):(s.extract i j).data.toList=(s.data.toList.drop i).take (j-i):=by
 rw[ByteArray.data_extract,Array.toList_extract,List.extract_eq_take_drop]
def Z1H(s:Str)(i:Nat):Wd s i=-1\/∃j:Nat,Wd s i=(j:Int)/\i+j<s.size/\Xc s (i+j)=10:=by
 unfold Wd;rcases H2 nlB (s.extract i s.size).data.toList 0 with h|⟨j,h1,h2,c,h3,h4⟩
 .exact Or.inl h
 .right;rw[ext_list]at h2 h3;have hsz:s.data.toList.length=s.size:=ZX7;refine⟨j,by exact h1.trans (by simp),?_,?_⟩
  .simp at h2;have:s.data.size=s.size:=rfl;omega
  .have h5:s.data.toList[i+j]?=some c:=by
    rw[List.getElem?_take,ZY0]at h3;split at h3
    .exact h3
    .cases h3
   have h6:s.data[i+j]?=some c:=by simpa using h5
   have:Xc s (i+j)=c.toNat:=by unfold Xc;rw[ZX3,h6];rfl
   rw[this];have:((c.toNat:Nat):Int)=10:=by simpa[nlB]using h4
   omega
def Z1I:K1 10=1:=by unfold K1 Qe Qj;kernel_rfl
def Z1J{s:Str}{i:Nat}(h:i<s.size)(hb:Xc s i=10):atT s i=1:=by
 unfold atT;have:decide ((i:Int)>=(s.size:Int))=false:=decide_eq_false<|by omega
 rw[this,cond_false,hb,Z1I]
def DS{i n:Nat}(h:i<=n):bounds (some<|I i) none none n=some (i,n,none):=by
 simp[bounds,Vz,Wl,VA,numOf,VB,Ue,h]
def DT{i n:Nat}(h:i<=n):bounds none (some<|I i) none n=some (0,i,none):=by
 simp[bounds,Vz,Wl,VA,numOf,VB,Ue,h]
def Uo{i j n:Nat}(h:i<=j)(h2:j<=n):bounds (some<|I i) (some<|I j) none n=some (i,j,none):=by
 simp[bounds,Vz,Wl,VA,numOf,VB,Ue,h,h2]
def Z1K(s:Str):pfn rE 249 [.str s,.int .u8 10]=some (I<|Yc (λx=>(x.toNat:Int)==10) s.data.toList 0):=by
 unfold pfn;rw[V8 (s:=U9) rfl];rfl
def DU(s:Str)(i:Nat)(hs:s.size<=1000000)(hi:i<=s.size):pfn rE 167 [.iptr true<|.str s::Qe,I i]=some (I<|YP s i)/\YP s i<=s.size/\i<=YP s i:=by
 have L:∀k i,s.size+1-i<=k->i<=s.size->∃e fr',Zg rE [0,1] c167L0b [(0,.iptr true<|.str s::Qe),(1,I i)] []=some (e,fr',[])/\((e=.exit 0/\get fr' 1=I (K4 s k i))\/(e=.ret/\get fr' 4=I (K4 s k i)))/\K4 s k i<=s.size/\i<=K4 s k i:=by
  intro k;induction k with
  |zero=>intro i hk hi;omega
  |succ k ih=>
   intro i hk hi;have ha:=H0 s i;unfold K4;cases h2:atT s i==2 with
   |false=>
    rw[cond_false];refine⟨_,_,Q7 rfl (by simp only[go_sem,c167L0b,ha,h2];rfl) (by simp),Or.inl ⟨rfl,?_⟩,hi,ZWs _⟩
    simp only[go_sem]
   |true=>
    have hlt:i<s.size:=by
     cases hd:decide ((i:Int)>=(s.size:Int))with
     |false=>have:=of_decide_eq_false hd;omega
     |true=>unfold atT at h2;rw[hd]at h2;simp at h2
    have hbd:=DS (i:=i) (n:=s.size) hi;have hib:=Z1K<|s.extract i s.size;have hib':pfn rE 249 [.str<|s.extract i s.size,.int .u8 10]=some (I<|Wd s i):=hib;rw[cond_true];rcases Z1H s i with hn|⟨j,hn,hj,hb⟩
    .have hneg:decide (Wd s i<0)=true:=by rw[hn];rfl
     rw[hneg,cond_true];refine⟨_,_,Q7 rfl (by simp only[go_sem,c167L0b,ha,h2,hbd,hib',hneg];rfl) (by simp),Or.inr ⟨rfl,?_⟩,ZWs _,hi⟩
     simp only[go_sem]
    .have hneg:decide (Wd s i<0)=false:=by rw[hn];exact decide_eq_false (by omega)
     rw[hneg,cond_false];have e1:(Wd s i).toNat=j:=by rw[hn];rfl
     rw[e1];have hw:IntKind.i64.wrap ((i:Int)+Wd s i)=((i+j:Nat):Int):=by rw[hn,YM (by omega)<|by omega];omega
     have hwh:pfn rE 247 [.iptr true<|.str s::Qe,I (i+j:Nat),.isl false false 1 [I 1]]=some (I<|ZI s [1]<|i+j):=H1 s [1] (i+j) hs (by omega)<|by simp
     have hge:i+j+1<=ZI s [1] (i+j):=by
      rw[NB s [1] hj];have:([1]:List Int).any (λx=>atT s (i+j)==x)=true:=by simp[Z1J hj hb]
      rw[this,cond_true];exact K2 s [1]<|i+j+1
     have hle:=K3 s [1] (i:=i+j)<|by omega
     generalize hwt:ZI s [1] (i+j)=w at hwh hge hle⊢;obtain⟨e,fr',h3,h4,h5,h6⟩:=ih w (by omega) hle
     refine⟨e,fr',?_,h4,h5,by omega⟩
     rw[<-h3];refine(Yt rfl (by simp only[go_sem,c167L0b,ha,h2,hbd,hib',hneg,hw,hwh];rfl)).trans ?_
     simp only[go_sem]
 have hwh:pfn rE 247 [.iptr true<|.str s::Qe,I i,.isl false false 1 [I 1]]=some (I<|ZI s [1] i):=H1 s [1] i hs hi<|by simp
 have hge:=K2 s [1] i;have hle:=K3 s [1] hi;obtain⟨e,fr',h1,h2,h3,h4⟩:=L (s.size+1) (ZI s [1] i) (by omega) hle
 refine⟨?_,h3,by unfold YP;omega⟩
 rw[Z5 (f:=167) rfl rfl];unfold YP;rcases h2 with⟨rfl,h2⟩|⟨rfl,h2⟩<;>simp only[go_sem,c167,c167L0,hwh,h1,h2]
def Xe(s p:Str):Bool:=decide ((s.size:Int)>=(p.size:Int))&&Z3 (s.extract 0 p.size) p
def Z1L(s p:Str):pfn rE 252 [.str s,.str p]=some (.bool<|Xe s p):=by
 have h:pfn rE 297 [.str s,.str p]=some (.bool<|Xe s p):=by
  rw[Z5 (f:=297) rfl rfl];unfold Xe;cases hc:decide ((s.size:Int)>=(p.size:Int))with
  |false=>simp only[go_sem,c297,hc]
  |true=>
   have hb:=DT (i:=p.size) (n:=s.size) (by have:=of_decide_eq_true hc;omega)
   simp only[go_sem,c297,hc,hb]
 rw[Z5 (f:=252) rfl rfl];simp only[go_sem,c252,h]
def qnB(c:UInt8):Bool:=[34,10].any (·==c)
def Z1M(s:Str)(hs:s.size<4294967281):pfn rE 251 [.str s,.str<|B [34,10]]=some (I<|Yc qnB s.data.toList 0):=by
 have e:J6 [.str s,.str<|B [34,10]] []=some (.int .i64<|Yc qnB s.data.toList 0,[]):=by
  have hb:Nat.blt s.size 4294967281=true:=ZXG hs;show(bif (Nat.blt s.size 4294967281&&_)then some _ else none)=_
  rw[hb];rfl
 unfold pfn;rw[V8 (s:=J6) rfl,e];rfl
def NC(s:Str):Int:=J4 s.data.toList 0
def H3(s:Str):Bool:=s.data.toList.all W6&&(!s.data.toList.isEmpty&&Nat.ble s.size 18)
def Z1N(s:Str)(h:H3 s=true):pfn rE 250 [.str s]=some (.tup [I<|NC s,.nilif]):=by
 have e:J5 [.str s] []=some (.tup [I<|NC s,.nilif],[]):=by
  unfold H3 at h;show(bif (s.data.toList.all W6&&(!s.data.toList.isEmpty&&Nat.ble s.size 18))then some _ else none)=_
  rw[h];rfl
 unfold pfn;rw[V8 (s:=J5) rfl,e];rfl
def Z1O:∀k:Fin 256,K1 k.val=4->48<=k.val/\k.val<=57:=by decide +kernel
def Z1P{s:Str}{i:Nat}(h:atT s i=4):i<s.size/\W6 (s.data.getD i 0)=true:=by
 unfold atT at h;cases c:decide ((i:Int)>=(s.size:Int))with
 |true=>rw[c]at h;cases h
 |false=>
  rw[c,cond_false]at h;have h1:=of_decide_eq_false c;obtain⟨h2,h3⟩:=Z1O ⟨Xc s i,DP s i⟩ h;refine⟨by omega,?_⟩
  unfold W6;rw[ZWn];exact⟨decide_eq_true h2,decide_eq_true h3⟩
def DV(s:Str):∀k i j,i<=j->j<Xd s [4] k i->atT s j=4
 |0,i,j,h1,h2=>by rw[Xd]at h2;omega
 |k+1,i,j,h1,h2=>by
  rw[Xd]at h2;cases c:decide ((i:Int)<(s.size:Int))&&[4].any (λx=>atT s i==x)with
  |false=>rw[c,cond_false]at h2;omega
  |true=>
   rw[c,cond_true]at h2;by_cases e:i=j
   .subst e;rw[ZWn]at c;simpa using c.2
   .exact DV s k (i+1) j (by omega) h2
def Z1Q(s:Str)(i:Nat)(hi:i<s.size)(hs:s.size<=1000000)(h4:(atT s i==4)=true)(h13:decide (W ((ZI s [4] i:Int)-(i:Int))>13)=false):H3 (s.extract i<|ZI s [4] i)=true:=by
 have hge:=K2 s [4] i;have hle:=K3 s [4] (i:=i)<|by omega
 have hgt:i<ZI s [4] i:=by
  rw[NB s [4] hi];have:[4].any (λx=>atT s i==x)=true:=by simpa using h4
  rw[this,cond_true];exact K2 s [4]<|i+1
 have hW:W ((ZI s [4] i:Int)-(i:Int))=(ZI s [4] i:Int)-(i:Int):=YM (by omega)<|by omega
 rw[hW]at h13;have h13':=of_decide_eq_false h13;have hsz:(s.extract i<|ZI s [4] i).size=ZI s [4] i-i:=by
  rw[ByteArray.size_extract];omega
 have hlen:(s.extract i<|ZI s [4] i).data.toList.length=ZI s [4] i-i:=by
  rw[<-hsz];exact ZX7
 unfold H3;simp only[ZWn];refine⟨?_,?_,ZXG<|by omega⟩
 .rw[ZWF];intro b hb;obtain⟨m,hm⟩:=ZYl.1 hb;have hml:m<ZI s [4] i-i:=by rw[<-hlen];exact(ZWx.1 hm).1
  have h5:=Z1P<|DV s (s.size-i) i (i+m) (by omega)<|by unfold ZI at hml;omega
  have h6:s.data[i+m]?=some b:=by
   have h7:(s.extract i<|ZI s [4] i).data[m]?=some b:=by
    rw[<-ZXI];exact hm
   rw[ByteArray.data_extract,Array.getElem?_extract]at h7;split at h7
   .exact h7
   .cases h7
  have h8:s.data.getD (i+m) 0=b:=by
   rw[ZX3,h6];rfl
  rw[h8]at h5;exact h5.2
 .cases h:(s.extract i<|ZI s [4] i).data.toList with
  |nil=>rw[h]at hlen;simp at hlen;omega
  |cons a r=>rfl
structure Tok where
 bq:Int
 At:Int
 N:Int
 Text:Str
def Tok.enc(t:Tok):AV:=.agg [I t.bq,I t.At,I t.N,.str t.Text]
def Yw:Tok:=⟨0,0,0,emp⟩
structure Nx where
 tok:Tok
 stop:Int
 err:Int
abbrev ZX(s:Str)(i j:Nat):Str:=s.extract i j
def quN(s:Str)(i:Nat):Int:=Yc qnB (ZX s (i+1) s.size).data.toList 0
def H4(s:Str)(i:Nat):Bool:=decide (quN s i<0)||Vj (ZX s (i+1) s.size) (quN s i).toNat==10
def We(s:Str)(i:Nat):Nx:=
 bif atT s i==3 then
  (bif decide (W ((ZI s [3,4,5] i:Int)-(i:Int))>24)then⟨Yw,0,2⟩else⟨⟨1,i,0,ZX s i<|ZI s [3,4,5] i⟩,ZI s [3,4,5] i,0⟩)
 else bif atT s i==4 then
  (bif decide (W ((ZI s [4] i:Int)-(i:Int))>13)||(atT s (ZI s [4] i)==3||atT s (ZI s [4] i)==5)then⟨Yw,0,4⟩
   else⟨⟨2,i,NC<|ZX s i<|ZI s [4] i,ZX s i<|ZI s [4] i⟩,ZI s [4] i,0⟩)
 else bif atT s i==6 then
  (bif H4 s i then⟨Yw,0,6⟩else bif decide (quN s i>400)then⟨Yw,0,2⟩else⟨⟨3,i,0,ZX (ZX s (i+1) s.size) 0 (quN s i).toNat⟩,i+(quN s i).toNat+2,0⟩)
 else bif atT s i==7||atT s i==8 then
  (bif Xe (ZX s (i+1) s.size) (B [61])then⟨⟨4,i,0,ZX s i<|i+2⟩,i+2,0⟩else bif atT s i==7 then⟨Yw,0,3⟩else⟨⟨4,i,0,ZX s i<|i+1⟩,i+1,0⟩)
 else bif atT s i==9 then⟨⟨4,i,0,ZX s i<|i+1⟩,i+1,0⟩
 else⟨Yw,0,3⟩
def Nx.val(n:Nx):AV:=.tup [.agg [I n.tok.bq,I n.tok.At,I n.tok.N,.str n.tok.Text],I n.stop,I n.err]
def Z1R(s:Str)(i:Nat)(hs:s.size<=1000000)(hi:i<s.size):pfn rE 168 [.iptr true<|.str s::Qe,I i]=some (We s i).val:=by
 have ha:=H0 s i;have hw1:IntKind.i64.wrap ((i:Int)+1)=(i:Int)+1:=YM (by omega)<|by omega
 have hw2:IntKind.i64.wrap ((i:Int)+2)=(i:Int)+2:=YM (by omega)<|by omega
 have e1:((i:Int)+1)=((i+1:Nat):Int):=by omega
 have e2:((i:Int)+2)=((i+2:Nat):Int):=by omega
 have hb1:bounds (some<|I<|(i:Int)+1) none none s.size=some (i+1,s.size,none):=by rw[e1];exact DS<|by omega
 have hb3:bounds (some<|I i) (some<|I<|(i:Int)+1) none s.size=some (i,i+1,none):=by rw[e1];exact Uo (by omega)<|by omega
 rw[Z5 (f:=168) rfl rfl];unfold We;cases c10003:atT s i==3 with
 |true=>
  have hwh:pfn rE 247 [.iptr true<|.str s::Qe,I i,.isl false false 1 [I 3,I 4,I 5]]=some (I<|ZI s [3,4,5] i):=H1 s [3,4,5] i hs (by omega)<|by simp
  have hb:=Uo (n:=s.size) (K2 s [3,4,5] i)<|K3 s [3,4,5]<|by omega
  cases c:decide (W ((ZI s [3,4,5] i:Int)-(i:Int))>24)<;>simp only[go_sem,c168,ha,c10003,hwh,c,hb,Nx.val,Yw,ZX]
 |false=>
 cases c10004:atT s i==4 with
 |true=>
  have hwh:pfn rE 247 [.iptr true<|.str s::Qe,I i,.isl false false 1 [I 4]]=some (I<|ZI s [4] i):=H1 s [4] i hs (by omega)<|by simp
  have hb:=Uo (n:=s.size) (K2 s [4] i)<|K3 s [4]<|by omega
  have ha2:=H0 s<|ZI s [4] i;cases c:decide (W ((ZI s [4] i:Int)-(i:Int))>13)with
  |true=>simp only[go_sem,c168,ha,c10003,c10004,hwh,c,ha2,Nx.val,Yw]
  |false=>
  cases d3:atT s (ZI s [4] i)==3 with
  |true=>simp only[go_sem,c168,ha,c10003,c10004,hwh,c,ha2,d3,Nx.val,Yw]
  |false=>
  cases d5:atT s (ZI s [4] i)==5 with
  |true=>simp only[go_sem,c168,ha,c10003,c10004,hwh,c,ha2,d3,d5,Nx.val,Yw]
  |false=>
   have hat:=Z1N _<|Z1Q s i hi hs c10004 c;simp only[go_sem,c168,ha,c10003,c10004,hwh,c,ha2,d3,d5,hb,hat,Nx.val,ZX]
 |false=>
 cases c10006:atT s i==6 with
 |true=>
  have hia:pfn rE 251 [.str<|s.extract (i+1) s.size,.str<|B [34,10]]=some (I<|quN s i):=Z1M _<|by rw[ByteArray.size_extract];omega
  unfold H4;cases d1:decide (quN s i<0)with
  |true=>simp only[go_sem,c168,ha,c10003,c10004,c10006,hw1,hb1,hia,d1,Nx.val,Yw]
  |false=>
   have hrs:(s.extract (i+1) s.size).data.toList=(s.data.toList.drop<|i+1).take (s.size-(i+1)):=ext_list _ _ _;have hsz:s.data.toList.length=s.size:=ZX7;obtain⟨j,hj1,hj2,hj3⟩:∃j:Nat,quN s i=(j:Int)/\j<(s.extract (i+1) s.size).size/\i+1+j<s.size:=by
    rcases H2 qnB (ZX s (i+1) s.size).data.toList 0 with h|⟨j,h1,h2,_⟩
    .have h':quN s i=-1:=h;rw[h']at d1;simp at d1
    .refine⟨j,h1.trans (by simp),?_,?_⟩
     .have:(ZX s (i+1) s.size).data.toList.length=(s.extract (i+1) s.size).size:=ZX7;omega
     .have h3:(ZX s (i+1) s.size).data.toList=(s.data.toList.drop<|i+1).take (s.size-(i+1)):=hrs;rw[h3]at h2;simp at h2;have:s.data.size=s.size:=rfl;omega
   have hn:(quN s i).toNat=j:=by rw[hj1];rfl
   have h0:(0<=(j:Int))=True:=by simp
   have hnn:((j:Int)).toNat=j:=rfl;have hg:=DQ hj2;have hby:Vj (ZX s (i+1) s.size) j=((((s.extract (i+1) s.size).data.getD j 0).toNat:Nat):Int):=by
    unfold Vj ZX;rw[hg];rfl
   rw[hj1]at hia d1;have hb4:=DT (i:=j) (n:=(s.extract (i+1) s.size).size)<|by omega
   have hw5:IntKind.i64.wrap ((i:Int)+(j:Int))=(i:Int)+(j:Int):=YM (by omega)<|by omega
   have hw6:IntKind.i64.wrap ((i:Int)+(j:Int)+2)=(i:Int)+(j:Int)+2:=YM (by omega)<|by omega
   rw[hj1,hnn,hby];cases d2:((((s.extract (i+1) s.size).data.getD j 0).toNat:Nat):Int)==10 with
   |true=>simp only[go_sem,c168,ha,c10003,c10004,c10006,hw1,hb1,hia,d1,h0,if_true,hnn,hg,ZWN,d2,Nx.val,Yw]
   |false=>
   cases d3:decide ((j:Int)>400)with
   |true=>simp only[go_sem,c168,ha,c10003,c10004,c10006,hw1,hb1,hia,d1,h0,if_true,hnn,hg,ZWN,d2,d3,Nx.val,Yw]
   |false=>simp only[go_sem,c168,ha,c10003,c10004,c10006,hw1,hb1,hia,d1,h0,if_true,hnn,hg,ZWN,d2,d3,hb4,hw5,hw6,Nx.val,ZX]
 |false=>
 have hpr:pfn rE 252 [.str<|s.extract (i+1) s.size,.str<|B [61]]=some (.bool<|Xe (ZX s (i+1) s.size)<|B [61]):=Z1L _ _;have hpb:Xe (ZX s (i+1) s.size) (B [61])=true->i+2<=s.size:=by
  intro h;unfold Xe at h;have h1:=(ZWn _ _▸h).1;have h2:=of_decide_eq_true h1;have h3:(B [61]).size=1:=rfl;have h4:(ZX s (i+1) s.size).size=(ZX s (i+1) s.size).data.toList.length:=ZX7.symm;have h5:(ZX s (i+1) s.size).data.toList=(s.data.toList.drop<|i+1).take (s.size-(i+1)):=ext_list _ _ _;rw[h3,h4,h5]at h2;simp at h2;have:s.data.size=s.size:=rfl;omega
 cases c10007:atT s i==7 with
 |true=>
  cases d:Xe (ZX s (i+1) s.size) (B [61])with
  |true=>
   have hb:bounds (some<|I i) (some<|I<|(i:Int)+2) none s.size=some (i,i+2,none):=by rw[e2];exact Uo (by omega)<|hpb d
   simp only[go_sem,c168,ha,c10003,c10004,c10006,c10007,hw1,hw2,hb1,hpr,d,hb,Nx.val,ZX]
  |false=>simp only[go_sem,c168,ha,c10003,c10004,c10006,c10007,hw1,hb1,hpr,d,Nx.val,Yw]
 |false=>
 cases c10008:atT s i==8 with
 |true=>
  cases d:Xe (ZX s (i+1) s.size) (B [61])with
  |true=>
   have hb:bounds (some<|I i) (some<|I<|(i:Int)+2) none s.size=some (i,i+2,none):=by rw[e2];exact Uo (by omega)<|hpb d
   simp only[go_sem,c168,ha,c10003,c10004,c10006,c10007,c10008,hw1,hw2,hb1,hpr,d,hb,Nx.val,ZX]
  |false=>simp only[go_sem,c168,ha,c10003,c10004,c10006,c10007,c10008,hw1,hb1,hpr,d,hb3,Nx.val,ZX]
 |false=>
 cases c10009:atT s i==9 with
 |true=>simp only[go_sem,c168,ha,c10003,c10004,c10006,c10007,c10008,c10009,hw1,hb3,Nx.val,ZX]
 |false=>simp only[go_sem,c168,ha,c10003,c10004,c10006,c10007,c10008,c10009,Nx.val,Yw]
def Z1S{s:Str}{i:Nat}{c:UInt8}(h:Xe (ZX s i s.size) (B [c])=true):i+1<=s.size:=by
 unfold Xe at h;have h1:=(ZWn _ _▸h).1;have h2:=of_decide_eq_true h1;have h3:(B [c]).size=1:=rfl;have h4:(ZX s i s.size).size=(ZX s i s.size).data.toList.length:=ZX7.symm;have h5:(ZX s i s.size).data.toList=(s.data.toList.drop i).take (s.size-i):=ext_list _ _ _;rw[h3,h4,h5]at h2;simp at h2;have:s.data.size=s.size:=rfl;omega
def Z1T(s:Str)(i:Nat):quN s i=-1\/∃j:Nat,quN s i=(j:Int)/\i+1+j<s.size:=by
 rcases H2 qnB (ZX s (i+1) s.size).data.toList 0 with h|⟨j,h1,h2,_⟩
 .exact Or.inl h
 .right;refine⟨j,h1.trans (by simp),?_⟩
  have h3:(ZX s (i+1) s.size).data.toList=(s.data.toList.drop<|i+1).take (s.size-(i+1)):=ext_list _ _ _;rw[h3]at h2;simp at h2;have:s.data.size=s.size:=rfl;omega
def DW{s:Str}{cs:List Int}{i:Nat}(h:i<s.size)(hc:cs.any (λx=>atT s i==x)=true):i<ZI s cs i:=by
 rw[NB s cs h,hc,cond_true];exact K2 s cs<|i+1
def Z1U(s:Str)(i:Nat)(hi:i<s.size)(he:(We s i).err=0):∃j:Nat,(We s i).stop=(j:Int)/\i<j/\j<=s.size:=by
 unfold We at he⊢;cases c10003:atT s i==3 with
 |true=>
  rw[c10003,cond_true]at he;rw[cond_true];cases c:decide (W ((ZI s [3,4,5] i:Int)-(i:Int))>24)with
  |true=>rw[c]at he;cases he
  |false=>exact⟨_,rfl,DW hi (by simp[c10003]),K3 _ _<|by omega⟩
 |false=>
 rw[c10003,cond_false]at he;rw[cond_false];cases c10004:atT s i==4 with
 |true=>
  rw[c10004,cond_true]at he;rw[cond_true];cases c:decide (W ((ZI s [4] i:Int)-(i:Int))>13)||(atT s (ZI s [4] i)==3||atT s (ZI s [4] i)==5)with
  |true=>rw[c]at he;cases he
  |false=>exact⟨_,rfl,DW hi (by simp[c10004]),K3 _ _<|by omega⟩
 |false=>
 rw[c10004,cond_false]at he;rw[cond_false];cases c10006:atT s i==6 with
 |true=>
  rw[c10006,cond_true]at he;rw[cond_true];cases c:H4 s i with
  |true=>rw[c]at he;cases he
  |false=>
   rw[c,cond_false]at he;rw[cond_false];cases d:decide (quN s i>400)with
   |true=>rw[d]at he;cases he
   |false=>
    rcases Z1T s i with h|⟨j,h1,h2⟩
    .unfold H4 at c;rw[h]at c;simp at c
    .refine⟨i+j+2,?_,by omega,by omega⟩
     have:(quN s i).toNat=j:=by rw[h1];rfl
     rw[this];simp only[cond_false];omega
 |false=>
 rw[c10006,cond_false]at he;rw[cond_false];cases c10007:atT s i==7||atT s i==8 with
 |true=>
  rw[c10007,cond_true]at he;rw[cond_true];cases c:Xe (ZX s (i+1) s.size) (B [61])with
  |true=>exact⟨i+2,rfl,by omega,Z1S c⟩
  |false=>
   rw[c,cond_false]at he;rw[cond_false];cases d:atT s i==7 with
   |true=>rw[d]at he;cases he
   |false=>exact⟨i+1,rfl,by omega,by omega⟩
 |false=>
 rw[c10007,cond_false]at he;rw[cond_false];cases c10009:atT s i==9 with
 |true=>exact⟨i+1,rfl,by omega,by omega⟩
 |false=>rw[c10009]at he;cases he
structure Lx where
 toks:List Tok
 err:Int
 pos:Int
def ND(n:Nx)(out:List Tok):Int:=bif n.err==0&&(out.length:Int)==5000 then 2 else n.err
def Xf(s:Str):Nat->Nat->List Tok->Lx
 |0,_,_=>⟨[],0,0⟩
 |k+1,i,out=>bif decide ((i:Int)<(s.size:Int))then(bif ND (We s i) out != 0 then⟨[],ND (We s i) out,i⟩else Xf s k (YP s (We s i).stop.toNat)<|out++[(We s i).tok])else⟨out,0,0⟩
def Up(s:Str):Lx:=bif decide ((s.size:Int)>20000)then⟨[],2,-1⟩else Xf s (s.size+1) (YP s 0) []
def Lx.val(x:Lx):AV:=.tup [.isl false false 4<|x.toks.map Tok.enc,I x.err,I x.pos]
def Yx(s:Str)(out:List Tok):Hp:=[.row 257 [.agg<|.str s::Qe],.row 4<|out.map Tok.enc]
def Tok.el(t:Tok):Yu (some 4) t.enc:=⟨rfl,rfl⟩
def Z1V(s:Str)(hs:s.size<=20000):∀k i out,s.size-i<=k->i<=s.size->out.length<=i->∃e fr' h',Zg rE [0,5,6,7] c90L0b [(0,.str s),(5,.ptr 0 0 0 1),(6,.sl 1 out.length 0 out.length false),(7,I i)] (Yx s out)=some (e,fr',h')/\
 ((e=.exit 0/\∃ts:List Tok,Xf s (k+1) i out=⟨ts,0,0⟩/\get fr' 6=.sl 1 ts.length 0 ts.length false/\get fr' 2=.bot/\get fr' 3=.bot/\get fr' 4=.bot/\h'=Yx s ts)\/
  (e=.ret/\(Xf s (k+1) i out).toks=[]/\get fr' 2=.isl false false 4 []/\get fr' 3=I (Xf s (k+1) i out).err/\get fr' 4=I (Xf s (k+1) i out).pos/\get fr' 6=.bot/\∃ts,h'=Yx s ts)):=by
 intro k;have hcc:=Un;have hb2:∀n,Zd n Qe=true:=λn=>ZN _ Un
 have hbt:∀n(l:List Tok),Zd n (l.map Tok.enc)=true:=λn l=>ZN _<|Zw (λt=>rfl) l
 induction k with
 |zero=>
  intro i out hk hi ho;have:i=s.size:=by omega
  subst this;have hf:decide ((s.size:Int)<(s.size:Int))=false:=ZG _;refine⟨_,_,_,Q7 rfl (by simp only[go_sem,Yx,c90L0b,hf];rfl) (by simp),Or.inl ⟨rfl,out,?_,?_,?_,?_,?_,?_⟩⟩
  .unfold Xf;rw[hf];rfl
  .simp only[go_sem]
  .simp only[go_sem]
  .simp only[go_sem]
  .simp only[go_sem]
  .simp only[go_sem,Yx]
 |succ k ih=>
  intro i out hk hi ho;rw[Xf];cases hf:decide ((i:Int)<(s.size:Int))with
  |false=>
   refine⟨_,_,_,Q7 rfl (by simp only[go_sem,Yx,c90L0b,hf];rfl) (by simp),Or.inl ⟨rfl,out,rfl,?_,?_,?_,?_,?_⟩⟩
   .simp only[go_sem]
   .simp only[go_sem]
   .simp only[go_sem]
   .simp only[go_sem]
   .simp only[go_sem,Yx]
  |true=>
   have hi':i<s.size:=by have:=of_decide_eq_true hf;omega
   have hn:=Z1R s i (by omega) hi'
   have hst:=Z1U s i hi';rw[cond_true];generalize hgn:We s i=n at hn hst⊢;obtain⟨⟨tk,ta,tn,tt⟩,stop,err⟩:=n;unfold Nx.val at hn;simp only at hn hst⊢;unfold ND;simp only;have hrow:((out.map Tok.enc).length==out.length)=true:=by simp
   cases c0:err==0 with
   |false=>
    have c1:(err != 0)=true:=by simp[bne,c0]
    simp only[ZWr,cond_false,c1,cond_true];refine⟨_,_,_,Q7 rfl (by simp only[go_sem,Yx,c90L0b,hf,hcc,hn,c0,c1,beq_self_eq_true,hb2,hbt];rfl) (by simp),Or.inr ⟨rfl,by first|rfl|trivial,?_,?_,?_,?_,out,?_⟩⟩
    .simp only[go_sem]
    .simp only[go_sem]
    .simp only[go_sem]
    .simp only[go_sem]
    .simp only[go_sem,Yx]
   |true=>
    have he:err=0:=by simpa using c0
    subst he;cases c10005:(out.length:Int)==5000 with
    |true=>
     have h20:((2:Int) != 0)=true:=rfl;simp only[ZX9,cond_true,h20];refine⟨_,_,_,Q7 rfl (by simp only[go_sem,Yx,c90L0b,hf,hcc,hn,c10005,beq_self_eq_true,hb2,hbt,h20];rfl) (by simp),Or.inr ⟨rfl,by first|rfl|trivial,?_,?_,?_,?_,out,?_⟩⟩
     .simp only[go_sem]
     .simp only[go_sem]
     .simp only[go_sem]
     .simp only[go_sem]
     .simp only[go_sem,Yx]
    |false=>
     obtain⟨j,hj,hij,hjs⟩:=hst rfl;subst hj;have hjn:((j:Int)).toNat=j:=rfl;have hg:=DU s j (by omega) hjs
     simp only[ZWw,cond_false,hjn];have hz:((0:Int) != 0)=false:=rfl;rw[hz,cond_false];obtain⟨e,fr',h',h1,h2⟩:=ih (YP s j) (out++[⟨tk,ta,tn,tt⟩]) (by omega) hg.2.1<|by simp;omega
     refine⟨e,fr',h',?_,h2⟩;rw[<-h1];have happ:=λ(h:Hp)(hr:rowAt h 1 out.length=some (4,out.map Tok.enc))=>XC (fz:=false) (bw:=false) (ex:=false) (ys:=[.agg [I tk,I ta,I tn,.str tt]]) (bytes:=40) hr rfl (by rfl) (by omega) (by omega) (by simp;omega)
     have happ':=happ [.row 257 [.agg<|.str s::Qe],.row 4<|out.map Tok.enc,.row 4 [.agg [I tk,I ta,I tn,.str tt]]]<|by simp[rowAt]
     refine(Yt rfl (by simp only[go_sem,Yx,c90L0b,hf,hcc,hn,c10005,beq_self_eq_true,hb2,hbt,hz,happ',hg.1];rfl)).trans ?_
     simp only[go_sem,Yx,ZWM,Tok.enc]
def c233a:ACode:=
 .seq (.seq (.keep [0,13]<|.region [o 11<|.mv<|.t 0,
  o 12 (.len 0<|.t 11),
  o 13 (.bin .gtr (.t 12)<|.c<|.int .i64 20000)])<|
 .cond (.t 13)
  (.seq (.keep [2,3,4]<|.region [o 2<|.mv<|.c<|.isl false false 4 [],
    o 3 (.mv<|.c<|.int .i64 2),
    o 4 (.mv<|.c<|.int .i64<|-1)])<|
   .ret)
  (.skip))<|
 .seq (.keep [0,5]<|.region [o 14<|.mv<|.t 0,
  o 15 (.call true 166 []),
  o 16 (.build (.str emp::Qj) [(0,1,(.t 14)),(1,256,(.t 15))]),
  o 5 (.box 257<|.c<|.agg<|.str emp::Qj),
  ⟨none,.store 257 (.t 5)<|.t 16,none⟩])<|
 .seq (.region [o 6<|.own 4])<|
 .seq (.seq (.region [o 17<|.call true 167 [(.t 5),(.c<|.int .i64 0)],
  o 7 (.mv<|.t 17)])<|
 .keep [2,3,4,6]<|.block 0<|
  c90L0)<|
 .seq (.keep [2,3,4]<|.region [o 46<|.mv<|.t 6,
  o 2 (.mv<|.t 46),
  o 3 (.mv<|.c<|.int .i64 0),
  o 4 (.mv<|.c<|.int .i64 0)])<|
 .ret
def c233z:ACode:=
 .seq (.keep [0]<|.region [o 2<|.mv<|.c<|.isl false false 4 [],
  o 3 (.mv<|.c<|.int .i64 0),
  o 4 (.mv<|.c<|.int .i64 0)]) c233a
def c90_eq:c90=c233z:=by
 unfold c233z c233a Qj;kernel_rfl
def Z1W(s:Str):pfn rE 90 [.str s]=some (Up s).val:=by
 have hcc:=Un;have hb2:∀n,Zd n Qe=true:=λn=>ZN _ Un
 have hbz:∀n,Zd n Qj=true:=λn=>ZN _ DN
 have hbt:∀n(l:List Tok),Zd n (l.map Tok.enc)=true:=λn l=>ZN _<|Zw (λt=>rfl) l
 have hct:∀(l:List Tok),Z4 (l.map Tok.enc)=true:=λl=>Zw (λt=>rfl) l
 rw[Z5 (f:=90) (c:=c233z) rfl (by rw[<-c90_eq];rfl)]
 unfold Up;cases hc:decide ((s.size:Int)>20000)with
 |true=>simp only[go_sem,c233z,c233a,hc,Lx.val]
 |false=>
  have hs:s.size<=20000:=by have:=of_decide_eq_false hc;omega
  have hd1:List.drop 256 Qj=[]:=DM VY;have hg:=DU s 0 (by omega)<|by omega
  have hg1:pfn rE 167 [.iptr true<|.str s::Qe,.int .i64 0]=_:=hg.1;obtain⟨e,fr',h',h1,h2⟩:=Z1V s hs s.size (YP s 0) [] (by omega) hg.2.1<|by simp
  have h1':Zg rE [0,5,6,7] c90L0b [(0,.str s),(5,.ptr 0 0 0 1),(6,.sl 1 0 0 0 false),(7,I<|YP s 0)] [.row 257 [.agg<|.str s::Qe],.row 4 []]=_:=h1;rcases h2 with⟨rfl,ts,h3,h6,g2,g3,g4,rfl⟩|⟨rfl,ht,g2,h3,h4,g6,ts,rfl⟩
  .rw[h3];unfold Yx at h1';have htk:List.take ts.length (List.map Tok.enc ts)=List.map Tok.enc ts:=ZWL (by simp)
   simp only[go_sem,c233z,c233a,c90L0,hc,DO,Ny,DL,VY,GY,hd1,hcc,hb2,hg1,h1',h6,g2,g3,g4,hbt,hct,htk,beq_self_eq_true,ZXe,Lx.val]
  .unfold Yx at h1';have e:Xf s (s.size+1) (YP s 0) []=⟨[],(Xf s (s.size+1) (YP s 0) []).err,(Xf s (s.size+1) (YP s 0) []).pos⟩:=by
    generalize Xf s (s.size+1) (YP s 0) []=x at ht⊢;cases x;simp only at ht;subst ht;rfl
   rw[e];simp only[go_sem,c233z,c233a,c90L0,hc,DO,Ny,DL,VY,GY,hd1,hcc,hb2,hg1,h1',g2,h3,h4,g6,hbt,beq_self_eq_true,ZXe,Lx.val]
def Jk{E:Env}{α:Type}{live:List Nat}{b:ACode}(l:List α)(P:Nat->α->Bool)(S:Nat->Fr)(H:Nat->Hp)(out:Nat)(Q0 Q:Fr->Hp->Prop)
 (hr:∀i,Z2 live (S i)=S i)
 (good:∀i x,l[i]?=some x->P i x=true->∃fr',Zb E b (S i) (H i)=some (.normal,fr',H<|i+1)/\Z2 live fr'=S (i+1))
 (bad:∀i x,l[i]?=some x->P i x=false->∃fr' h',Zb E b (S i) (H i)=some (.ret,fr',h')/\Q fr' h')
 (last:∃fr' h',Zb E b (S l.length) (H l.length)=some (.exit out,fr',h')/\Q0 fr' h'):
 ∃fr' h',Zg E live b (S 0) (H 0)=some (if Zu P 0 l=true then .exit out else .ret,fr',h')/\(Zu P 0 l=true->Q0 fr' h')/\(Zu P 0 l=false->Q fr' h'):=by
 suffices G:∀k i,k+i=l.length->∃fr' h',Zg E live b (S i) (H i)=some (if Zu P i (l.drop i)=true then .exit out else .ret,fr',h')/\(Zu P i (l.drop i)=true->Q0 fr' h')/\(Zu P i (l.drop i)=false->Q fr' h')by
  have:=G l.length 0<|by omega
  simpa using this
 intro k;induction k with
 |zero=>
  intro i hi;have:i=l.length:=by omega
  subst this;obtain⟨fr',h',h1,h2⟩:=last;refine⟨fr',h',?_,?_,?_⟩
  .rw[Q7 (hr _) h1<|by simp];simp[Zu]
  .intro _;exact h2
  .intro h;simp[Zu]at h
 |succ k ih=>
  intro i hi;have hlt:i<l.length:=by omega
  have hx:l[i]?=some l[i]:=ZWu hlt;rw[ZXZ hlt];cases hP:P i l[i]with
  |true=>
   obtain⟨fr1,h1,h2⟩:=good _ _ hx hP;obtain⟨fr',h',h3,h4,h5⟩:=ih (i+1)<|by omega
   refine⟨fr',h',?_,?_,?_⟩
   .rw[Yt (hr _) h1,h2,h3];simp only[Zu,hP,ZWp]
   .simpa only[Zu,hP,ZWp]using h4
   .simpa only[Zu,hP,ZWp]using h5
  |false=>
   obtain⟨fr',h',h1,h2⟩:=bad _ _ hx hP;refine⟨fr',h',?_,?_,λ_=>h2⟩
   .rw[Q7 (hr _) h1<|by simp];simp[Zu,hP]
   .intro h;simp[Zu,hP]at h
def Qi{α:Type}(eq:α->α->Bool)(K:List α)(x:α):List α:=bif K.any (eq x)then K else K++[x]
def ZO(n:Nat):List AV:=List.replicate n<|.bool true
def Uq{α:Type}{ag:Bool}{kk:List Nat}{enc:α->AV}{eq:α->α->Bool}(he:∀x y,Zz ag kk (enc x) (enc y)=some (eq x y))(x:α):
 ∀(K:List α)(i:Nat),(ZW ag kk (enc x) (K.map enc) i=some none/\K.any (eq x)=false)\/(∃j,ZW ag kk (enc x) (K.map enc) i=some (some j)/\i<=j/\j<i+K.length/\K.any (eq x)=true)
 |[],i=>Or.inl ⟨rfl,rfl⟩
 |y::r,i=>by
  simp only[ZWI,ZW,he,ZXq,ZWH];rcases Uq he x r (i+1)with⟨h1,h2⟩|⟨j,h1,h2,h3,h4⟩
  .rw[h1];cases eq x y with
   |true=>right;exact⟨i,rfl,by omega,by omega,rfl⟩
   |false=>left;exact⟨rfl,by simp[h2]⟩
  .rw[h1];right;cases eq x y with
   |true=>exact⟨i,rfl,by omega,by omega,rfl⟩
   |false=>exact⟨j,rfl,by omega,by omega,by simp[h4]⟩
def Ur{α:Type}{ag:Bool}{kk:List Nat}{enc:α->AV}{eq:α->α->Bool}(he:∀x y,Zz ag kk (enc x) (enc y)=some (eq x y))(K:List α)(x:α){h:Hp}{b:Nat}(hb:h[b]?=some (.map (K.map enc)<|ZO K.length)):
 YK h ag kk (.mp b) (enc x) (.bool true)=some (.bot,setH h b<|.map ((Qi eq K x).map enc)<|ZO (Qi eq K x).length):=by
 simp only[YK,hb,Yo,he];rcases Uq he x K 0 with⟨h1,h2⟩|⟨j,h1,h2,h3,h4⟩
 .have ht:ZO K.length++[.bool true]=ZO (K.length+1):=by simp[ZO,List.replicate_succ']
  rw[h1];simp only[Qi,h2,cond_false,ZM,ZH,ZWM,ZWI,ZX6,ZWz,ZXs,ht]
 .have:(ZO K.length).set j (.bool true)=ZO K.length:=by
   apply ZZ3
   .simp
   .intro n hn hm;by_cases hj:j=n
    .subst hj;simp[ZO]
    .simp[ZO]
  rw[h1];simp only[Qi,h4,cond_true,ZM,ZH,this]
def H5{α:Type}{ag:Bool}{kk:List Nat}{enc:α->AV}{eq:α->α->Bool}(he:∀x y,Zz ag kk (enc x) (enc y)=some (eq x y))(K:List α)(x:α){h:Hp}{b:Nat}(hb:h[b]?=some (.map (K.map enc)<|ZO K.length)):
 W5 h ag kk false (.bool false) (.mp b) (enc x)=some (.bool<|K.any<|eq x):=by
 simp only[W5,hb,QW,he];rcases Uq he x K 0 with⟨h1,h2⟩|⟨j,h1,h2,h3,h4⟩
 .rw[h1,h2];rfl
 .have:(ZO K.length)[j]?=some (.bool true):=by
   unfold ZO;rw[ZYd];simp;omega
  rw[h1,h4];simp only[this];rfl
def Z1X(ks vs:List AV)(h:Hp):lnM (.map ks vs::h) 0=some (.int .i64 ks.length):=rfl
attribute [go_sem] Z1X
def XH{α:Type}(eq:α->α->Bool)(l:List α):Bool:=(((l.foldl (Qi eq) []).length:Nat):Int)==(l.length:Int)
def Z1Y(x y:Str):Zz false [2] (.str x) (.str y)=some (Z3 x y):=by simp only[go_sem,ZWv]
def QL(a b:HN):Bool:=a.N==b.N&&(Z3 a.bm b.bm&&(a.Num==b.Num&&a.Den==b.Den))
def Xg(a b:Nm):Bool:=Z3 a.Lang b.Lang&&(a.Script==b.Script&&Z3 a.Text b.Text)
def Z1Z(x y:HN):Zz true [1,2,1,1] x.enc y.enc=some (QL x y):=by simp only[go_sem,HN.enc,QL]
def Z20(x y:Nm):Zz true [2,1,2] x.enc y.enc=some (Xg x y):=by simp only[go_sem,Nm.enc,Xg]
def Us{α β:Type}(f:β->α->β)(b:β){l:List α}{i:Nat}{x:α}(h:l[i]?=some x):(l.take<|i+1).foldl f b=f ((l.take i).foldl f b) x:=by
 rw[ZY9,h];simp
def Z21(l:List Str)(bw ex:Bool)(hl:l.length<=1000000):pfn rE 268 [.isl bw ex 1<|l.map encS]=some (.bool<|XH Z3 l):=by
 have L:=Y8 (E:=rE) (live:=[0,3,7,8,9]) (b:=c268L0b) l.length (λi=>[(0,.isl bw ex 1<|l.map encS),(3,.mp 0),(7,.isl bw ex 1<|l.map encS),(8,I l.length),(9,I i)])
  (λi=>[.map (((l.take i).foldl (Qi Z3) []).map encS)<|ZO ((l.take i).foldl (Qi Z3) []).length]) (λi=>rfl)
  (λi hi=>by
   obtain⟨x,hx⟩:∃x,l[i]?=some x:=⟨_,ZWu hi⟩;have hg:=Z6 (f:=encS) hx;have hi':=Zh hi;have hw:=Zx (n:=i)<|by omega
   have hf:=Us (Qi Z3) [] hx;rw[hf];have hp:=Ur (ag:=false) (kk:=[2]) (enc:=encS) (eq:=Z3) Z1Y ((l.take i).foldl (Qi Z3) []) x (h:=[.map (((l.take i).foldl (Qi Z3) []).map encS)<|ZO ((l.take i).foldl (Qi Z3) []).length]) (b:=0) rfl;generalize(l.take i).foldl (Qi Z3) []=K at hp⊢;have hp':YK [.map (K.map encS)<|ZO K.length] false [2] (.mp 0) (.str x) (.bool true)=_:=hp;refine⟨_,by simp only[go_sem,c268L0b,hg,hi',hw,encS,hp'];rfl,?_⟩
   simp only[go_sem])
  (e:=.exit 0) (by simp only[go_sem,c268L0b,ZG];rfl) (by simp)
 have ht:l.take l.length=l:=ZWR;rw[ht]at L;have L':Zg rE [0,3,7,8,9] c268L0b [(0,.isl bw ex 1<|l.map encS),(3,.mp 0),(7,.isl bw ex 1<|l.map encS),(8,I l.length),(9,.int .i64 0)] [.map [] []]=_:=L;rw[Z5 (f:=268) rfl rfl];unfold XH;simp only[go_sem,c268,c268L0,L']
def Ut:∀n,Z4 (ZO n)=true
 |0=>rfl
 |n+1=>by
  have:ZO (n+1)=.bool true::ZO n:=rfl;rw[this];simp only[N1,Di,Ut n,ZX9]
def Z22(l:List HN)(bw ex:Bool)(hl:l.length<=1000000):pfn rE 275 [.isl bw ex 4<|l.map HN.enc]=some (.bool<|XH QL l):=by
 have L:=Y8 (E:=rE) (live:=[0,3,7,8,9]) (b:=c275L0b) l.length (λi=>[(0,.isl bw ex 4<|l.map HN.enc),(3,.mp 0),(7,.isl bw ex 4<|l.map HN.enc),(8,I l.length),(9,I i)])
  (λi=>[.map (((l.take i).foldl (Qi QL) []).map HN.enc)<|ZO ((l.take i).foldl (Qi QL) []).length]) (λi=>rfl)
  (λi hi=>by
   obtain⟨x,hx⟩:∃x,l[i]?=some x:=⟨_,ZWu hi⟩;have hg:=Z6 (f:=HN.enc) hx;have hi':=Zh hi;have hw:=Zx (n:=i)<|by omega
   have hf:=Us (Qi QL) [] hx;rw[hf];have hb2:∀n(K:List HN),Zd n (K.map HN.enc)=true:=λn K=>ZN _<|Zw (λt=>rfl) K
   have hb3:∀n k,Zd n (ZO k)=true:=λn k=>ZN _<|Ut k
   have hp:=λhh=>Ur (ag:=true) (kk:=[1,2,1,1]) (enc:=HN.enc) (eq:=QL) Z1Z ((l.take i).foldl (Qi QL) []) x (h:=.map (((l.take i).foldl (Qi QL) []).map HN.enc) (ZO ((l.take i).foldl (Qi QL) []).length)::hh) (b:=0) rfl
   generalize(l.take i).foldl (Qi QL) []=K at hp⊢;have hp':YK [.map (K.map HN.enc)<|ZO K.length,.row 4 [.agg [I x.N,.str x.bm,I x.Num,I x.Den]]] true [1,2,1,1] (.mp 0) (.agg [I x.N,.str x.bm,I x.Num,I x.Den]) (.bool true)=_:=hp [.row 4 [.agg [I x.N,.str x.bm,I x.Num,I x.Den]]];refine⟨_,by simp only[go_sem,c275L0b,hg,hi',hw,HN.enc,hp',hb2,hb3];rfl,?_⟩
   simp only[go_sem])
  (e:=.exit 0) (by simp only[go_sem,c275L0b,ZG];rfl) (by simp)
 have ht:l.take l.length=l:=ZWR;rw[ht]at L;have L':Zg rE [0,3,7,8,9] c275L0b [(0,.isl bw ex 4<|l.map HN.enc),(3,.mp 0),(7,.isl bw ex 4<|l.map HN.enc),(8,I l.length),(9,.int .i64 0)] [.map [] []]=_:=L;rw[Z5 (f:=275) rfl rfl];unfold XH;simp only[go_sem,c275,c275L0,L']
def Z23(l:List Nm)(bw ex:Bool)(hl:l.length<=1000000):pfn rE 267 [.isl bw ex 3<|l.map Nm.enc]=some (.bool<|XH Xg l):=by
 have L:=Y8 (E:=rE) (live:=[0,3,7,8,9]) (b:=c267L0b) l.length (λi=>[(0,.isl bw ex 3<|l.map Nm.enc),(3,.mp 0),(7,.isl bw ex 3<|l.map Nm.enc),(8,I l.length),(9,I i)])
  (λi=>[.map (((l.take i).foldl (Qi Xg) []).map Nm.enc)<|ZO ((l.take i).foldl (Qi Xg) []).length]) (λi=>rfl)
  (λi hi=>by
   obtain⟨x,hx⟩:∃x,l[i]?=some x:=⟨_,ZWu hi⟩;have hg:=Z6 (f:=Nm.enc) hx;have hi':=Zh hi;have hw:=Zx (n:=i)<|by omega
   have hf:=Us (Qi Xg) [] hx;rw[hf];have hb2:∀n(K:List Nm),Zd n (K.map Nm.enc)=true:=λn K=>ZN _<|Zw (λt=>rfl) K
   have hb3:∀n k,Zd n (ZO k)=true:=λn k=>ZN _<|Ut k
   have hp:=λhh=>Ur (ag:=true) (kk:=[2,1,2]) (enc:=Nm.enc) (eq:=Xg) Z20 ((l.take i).foldl (Qi Xg) []) x (h:=.map (((l.take i).foldl (Qi Xg) []).map Nm.enc) (ZO ((l.take i).foldl (Qi Xg) []).length)::hh) (b:=0) rfl
   generalize(l.take i).foldl (Qi Xg) []=K at hp⊢;have hp':YK [.map (K.map Nm.enc)<|ZO K.length,.row 3 [.agg [.str x.Lang,I x.Script,.str x.Text]]] true [2,1,2] (.mp 0) (.agg [.str x.Lang,I x.Script,.str x.Text]) (.bool true)=_:=hp [.row 3 [.agg [.str x.Lang,I x.Script,.str x.Text]]];refine⟨_,by simp only[go_sem,c267L0b,hg,hi',hw,Nm.enc,hp',hb2,hb3];rfl,?_⟩
   simp only[go_sem])
  (e:=.exit 0) (by simp only[go_sem,c267L0b,ZG];rfl) (by simp)
 have ht:l.take l.length=l:=ZWR;rw[ht]at L;have L':Zg rE [0,3,7,8,9] c267L0b [(0,.isl bw ex 3<|l.map Nm.enc),(3,.mp 0),(7,.isl bw ex 3<|l.map Nm.enc),(8,I l.length),(9,.int .i64 0)] [.map [] []]=_:=L;rw[Z5 (f:=267) rfl rfl];unfold XH;simp only[go_sem,c267,c267L0,L']
def ZZ(s:Str):Bool:=(Up s).err==0&&match(Up s).toks with
 |[t]=>t.bq==1&&Z3 t.Text s
 |_=>false
def Jl(s:Str):pfn rE 189 [.str s]=some (.bool<|ZZ s):=by
 have h:=Z1W s;unfold ZZ;generalize Up s=x at h⊢;obtain⟨ts,err,pos⟩:=x;unfold Lx.val at h;simp only at h⊢;rw[Z5 (f:=189) rfl rfl];cases h0:err==0 with
 |false=>simp only[go_sem,c189,h,h0]
 |true=>
  rcases ts with _|⟨⟨tk,ta,tn,tt⟩,_|⟨t2,ts⟩⟩
  .have e:(((0:Nat):Int)==1)=false:=rfl;simp only[go_sem,c189,h,h0,e]
  .have e:(((0+1:Nat):Int)==1)=true:=rfl;have e0:(0<=(0:Int))=True:=by simp
   have e1:ixG [.agg [I tk,I ta,I tn,.str tt]] 0=some (.agg [I tk,I ta,I tn,.str tt]):=rfl;have e2:(((1:Nat):Int)==1)=true:=rfl;cases h1:tk==1<;>simp only[go_sem,c189,h,h0,e,e1,h1,Tok.enc]
  .have e:(((ts.length+1+1:Nat):Int)==1)=false:=by
    rw[beq_eq_false_iff_ne];omega
   simp only[go_sem,c189,h,h0,e]
def XI(p:Int->Bool)(s:Str):Nat->Nat->Int
 |0,_=>-1
 |k+1,i=>bif Nat.blt i s.size then(bif p ((Utf8.decode s i).1:Nat)then(i:Int)else XI p s k<|i+(Utf8.decode s i).2)else -1
def H6(p:Int->Bool)(s:Str):Bool:=decide (XI p s (s.size+1) 0>=0)
def DX(p:Int->Bool)(g:Nat)(hp:∀c:Int,pfn rE g [.int .i32 c]=some (.bool<|p c))(s:Str):pfn rE 274 [.str s,.clo (.func g) [] []]=some (.bool<|H6 p s):=by
 have L:∀k i,s.size-i<k->∃e fr' h',Zg rE [1,2,10] c349L0b [(1,.clo (.func g) [] []),(2,.bool true),(10,.it 0)] [.iter s i]=some (e,fr',h')/\
  ((e=.exit 0/\XI p s k i=-1)\/(e=.ret/\get fr' 6=I (XI p s k i)/\0<=XI p s k i)):=by
  intro k;induction k with
  |zero=>intro i hi;omega
  |succ k ih=>
   intro i hi;unfold XI;cases hb:Nat.blt i s.size with
   |false=>
    have hb':decide (i<s.size)=false:=by rw[<-N7];exact hb
    exact⟨_,_,_,Q7 rfl (by simp only[go_sem,c349L0b,U8,hb'];rfl) (by simp),Or.inl ⟨rfl,rfl⟩⟩
   |true=>
    have hb':decide (i<s.size)=true:=by rw[<-N7];exact hb
    have hlt:i<s.size:=of_decide_eq_true hb';have hw:=Lib.decode_width_pos s i hlt;have hpc:=hp ((Utf8.decode s i).1:Nat);rw[cond_true];cases hc:p ((Utf8.decode s i).1:Nat)with
    |true=>
     rw[hc]at hpc;rw[cond_true];refine⟨_,_,_,Q7 rfl (by simp only[go_sem,c349L0b,U8,hb',hpc,beq_self_eq_true];rfl) (by simp),Or.inr ⟨rfl,?_,by omega⟩⟩
     simp only[go_sem]
    |false=>
     rw[hc]at hpc;rw[cond_false];obtain⟨e,fr',h',h1,h2⟩:=ih (i+(Utf8.decode s i).2)<|by omega
     refine⟨e,fr',h',?_,h2⟩;rw[<-h1];have e1:(false==true)=false:=rfl;refine(Yt rfl (by simp only[go_sem,c349L0b,U8,hb',hpc,e1];rfl)).trans ?_
     simp only[go_sem]
 obtain⟨e,fr',h',h1,h2⟩:=L (s.size+1) 0<|by omega
 have h358:pfn rE 349 [.str s,.clo (.func g) [] [],.bool true]=some (I<|XI p s (s.size+1) 0):=by
  rw[Z5 (f:=349) rfl rfl];rcases h2 with⟨rfl,h2⟩|⟨rfl,h2,h3⟩
  .rw[h2];simp only[go_sem,c349,c349L0,h1]
  .simp only[go_sem,c349,c349L0,h1,h2]
 have h327:pfn rE 324 [.str s,.clo (.func g) [] []]=some (I<|XI p s (s.size+1) 0):=by
  rw[Z5 (f:=324) rfl rfl];simp only[go_sem,c324,h358]
 rw[Z5 (f:=274) rfl rfl];unfold H6;simp only[go_sem,c274,h327]
def ZD(n lo hi:Int):Bool:=decide (n>=lo)&&decide (n<=hi)
def QU(n lo hi:Int):pfn rE 122 [I n,I lo,I hi]=some (.bool<|ZD n lo hi):=by
 rw[Z5 (f:=122) rfl rfl];unfold ZD;cases h:decide (n>=lo)<;>simp only[go_sem,c122,h]
def DY(n lo hi:Int):pfn rE 83 [I n,I lo,I hi]=some (.bool<|ZD n lo hi):=by
 rw[Z5 (f:=83) rfl rfl];unfold ZD;cases h:decide (n>=lo)<;>simp only[go_sem,c83,h]
def H7(c:Int):Bool:=(decide (c<33)||decide (c>126))||c==34
def Z25(c:Int):pfn rE 273 [.int .i32 c]=some (.bool<|H7 c):=by
 rw[Z5 (f:=273) rfl rfl];unfold H7;cases h1:decide (c<33)<;>cases h2:decide (c>126)<;>simp only[go_sem,c273,h1,h2]
def H8(c:Int):Bool:=((decide (c<48)||decide (c>57))&&(decide (c<97)||decide (c>122)))&&(decide (c<65)||decide (c>90))
def Z26(c:Int):pfn rE 277 [.int .i32 c]=some (.bool<|H8 c):=by
 rw[Z5 (f:=277) rfl rfl];unfold H8;cases h1:decide (c<48)<;>cases h2:decide (c>57)<;>cases h3:decide (c<97)<;>cases h4:decide (c>122)<;>cases h5:decide (c<65)<;>simp only[go_sem,c277,h1,h2,h3,h4,h5]
def Jm(s:Str)(most:Int):Bool:=!Z3 s emp&&(decide ((s.size:Int)<=most)&&!H6 H7 s)
def DZ(s:Str)(most:Int):pfn rE 205 [.str s,I most]=some (.bool<|Jm s most):=by
 have h:=DX H7 273 Z25 s;rw[Z5 (f:=205) rfl rfl];unfold Jm;cases h1:Z3 s emp<;>cases h2:decide ((s.size:Int)<=most)<;>simp only[go_sem,c205,h1,h2,h]
def Uu(s:Str):Bool:=!Z3 s emp&&(decide ((s.size:Int)<=60)&&!H6 H8 s)
def Z27(s:Str):pfn rE 212 [.str s]=some (.bool<|Uu s):=by
 have h:=DX H8 277 Z26 s;rw[Z5 (f:=212) rfl rfl];unfold Uu;cases h1:Z3 s emp<;>cases h2:decide ((s.size:Int)<=60)<;>simp only[go_sem,c212,h1,h2,h]
def F0(p:Str->Bool)(g:Nat)(hp:∀x,pfn rE g [.str x]=some (.bool<|p x))(l:List Str)(bw ex:Bool)(hl:l.length<=1000000):pfn rE 269 [.isl bw ex 1<|l.map encS,.clo (.func g) [] []]=some (.bool<|l.any p):=by
 have h1:=WF (E:=rE) (f:=322) (sz:=1) (n:=none) (enc:=encS) (p:=p) (g:=g) (cap:=[]) rfl rfl rfl l (by omega) (λx _=>Z0C x) (λx _=>hp x) bw ex
 rw[Z5 (f:=269) rfl rfl,<-Vg];unfold WG;cases bw<;>simp only[go_sem,c269,h1]
def Yy(s:Str):List Str:=(Q4 32 s.data.toList).map λl=>⟨⟨l⟩⟩
def Z28(s:Str)(hs:s.size<=1000000):pfn rE 320 [.str s,.str<|B [32]]=some (.isl false false 1<|(Yy s).map encS):=by
 unfold pfn;rw[V8 (s:=Ja) rfl];have e:Ja [.str s,.str<|B [32]] []=some (.sl 0 (Yy s).length 0 (Yy s).length false,[.row 1<|(Yy s).map encS]):=by
  have hb:Nat.blt s.size 4294967281=true:=ZXG<|by omega
  have e2:(Q4 32 s.data.toList).map Qd=(Yy s).map encS:=by
   unfold Yy;rw[ZXN];rfl
  show(bif Nat.blt s.size 4294967281 then some (AV.sl 0 (Q4 32 s.data.toList).length 0 (Q4 32 s.data.toList).length false,[AObj.row 1<|(Q4 32 s.data.toList).map Qd])else none)=_
  rw[hb,e2];simp[Yy]
 rw[e];have hc:Z4 ((Yy s).map encS)=true:=Zw (λt=>rfl) _
 have ht:((Yy s).map encS).take (Yy s).length=(Yy s).map encS:=ZWL<|by simp
 simp only[go_sem,ZM,beq_self_eq_true,ht,hc]
def F1(c:UInt8):∀l:List UInt8,(Q4 c l).length<=l.length+1
 |[]=>by simp[Q4]
 |x::r=>by
  have:=F1 c r;unfold Q4;cases x==c with
  |true=>simp;omega
  |false=>
   simp only[cond_false];cases h:Q4 c r with
   |nil=>simp
   |cons w ws=>rw[h]at this;simp at this⊢;omega
def H9(w:Str):Bool:=!Jm w 60
def Z29(w:Str):pfn rE 321 [.str w]=some (.bool<|H9 w):=by
 rw[Z5 (f:=321) rfl rfl];unfold H9;simp only[go_sem,c321,DZ]
def Uv(s:Str):Bool:=decide ((s.size:Int)<=60)&&!(Yy s).any H9
def F3(s:Str):pfn rE 266 [.str s]=some (.bool<|Uv s):=by
 rw[Z5 (f:=266) rfl rfl];unfold Uv;cases h1:decide ((s.size:Int)<=60)with
 |false=>simp only[go_sem,c266,h1]
 |true=>
  have hl:(Yy s).length<=1000000:=by
   have h2:=F1 32 s.data.toList;have h3:s.data.toList.length=s.size:=ZX7;have h4:=of_decide_eq_true h1;unfold Yy;rw[ZWm];omega
  have h:=F0 H9 321 Z29 (Yy s) false false hl;have hsp:=Z28 s (by have:=of_decide_eq_true h1;omega)
  simp only[go_sem,c266,h1,hsp,h]
def Ha(s:Str):Bool:=!ZZ s
def Z2a(s:Str):pfn rE 270 [.str s]=some (.bool<|Ha s):=by
 rw[Z5 (f:=270) rfl rfl];unfold Ha;simp only[go_sem,c270,Jl]
def Qv(l:List Str):Bool:=XH Z3 l&&!l.any Ha
def Uw(l:List Str)(bw ex:Bool)(hl:l.length<=1000000):pfn rE 199 [.isl bw ex 1<|l.map encS]=some (.bool<|Qv l):=by
 have h1:=Z21 l bw ex hl;have h2:=F0 Ha 270 Z2a l bw ex hl;rw[Z5 (f:=199) rfl rfl];unfold Qv;cases hd:XH Z3 l<;>rw[hd]at h1<;>cases bw<;>simp only[go_sem,c199,h1,h2]
def K5(a b:Int):Bool:=ZD a 0 63&&(ZD b 0 63&&a != b)
def Z2b(a b:Int):pfn rE 191 [I a,I b]=some (.bool<|K5 a b):=by
 rw[Z5 (f:=191) rfl rfl];unfold K5;cases h1:ZD a 0 63<;>cases h2:ZD b 0 63<;>simp only[go_sem,c191,QU,h1,h2]
def Ux(zero:Bool)(x:Ent):Bool:=!gOn x.bg||(zero&&!QK x.bg ⟨0,0⟩)
def Z2c(zero:Bool)(x:Ent):pfn rE 276 [x.enc,.iptr false [.bool zero]]=some (.bool<|Ux zero x):=by
 have e1:(x.bg.X==0&&x.bg.Y==0)=QK x.bg ⟨0,0⟩:=rfl;rw[Z5 (f:=276) rfl rfl];unfold Ux;cases h1:gOn x.bg<;>cases zero<;>simp only[go_sem,c276,Ent.enc,W8,h1,e1]
def Vk(l:List Ent)(zero:Bool):Bool:=!l.any (Ux zero)
def F4(l:List Ent)(ex zero:Bool)(hl:l.length<=1000000):pfn rE 208 [.isl false ex 7<|l.map Ent.enc,.bool zero]=some (.bool<|Vk l zero):=by
 have h1:=WF (E:=rE) (f:=219) (sz:=7) (n:=some 7) (enc:=Ent.enc) (p:=Ux zero) (g:=276) (cap:=[.iptr false [.bool zero]]) rfl rfl rfl l (by omega) (λx _=>x.el) (λx _=>Z2c zero x) false ex
 have h2:pfn rE 140 [.isl false ex 7<|l.map Ent.enc,.clo (.func 276) [] [.iptr false [.bool zero]]]=some (.bool<|l.any<|Ux zero):=by
  rw[Z5 (f:=140) rfl rfl,<-Vg];unfold WG;simp only[go_sem,c140,h1]
 rw[Z5 (f:=208) rfl rfl];unfold Vk;simp only[go_sem,c208,h2]
def Uy(n:Nm):Bool:=ZZ n.Lang&&(ZD n.Script 0 7&&Uv n.Text)
def Xh(n:Nm):Nm:=⟨n.Lang,n.Script,emp⟩
def Uz(l:List Nm):Bool:=l.all Uy&&(ZD l.length 1 8&&XH Xg (l.map Xh))
def YW{α β:Type}(f:α->β){l:List α}{i:Nat}{x:α}(h:l[i]?=some x):(l.take<|i+1).map f=(l.take i).map f++[f x]:=by
 rw[ZY9,h];simp
def take_len{α:Type}{l:List α}{i:Nat}{x:α}(h:l[i]?=some x):(l.take i).length=i:=by
 have:=Z7 h;rw[ZWT];omega
def Z2d(l:List Nm)(ex:Bool)(hl:l.length<=1000000):pfn rE 197 [.isl false ex 3<|l.map Nm.enc]=some (.bool<|Uz l):=by
 have hct:∀K:List Nm,Z4 (K.map Nm.enc)=true:=λK=>Zw (λt=>rfl) K
 have hbt:∀n(K:List Nm),Zd n (K.map Nm.enc)=true:=λn K=>ZN _<|hct K
 have L:=Jk (E:=rE) (live:=[0,3,6,7,8]) (b:=c197L0b) l (λ_ x=>Uy x)
  (λi=>[(0,.isl false ex 3<|l.map Nm.enc),(3,.sl 0 i 0 i false),(6,.isl false ex 3<|l.map Nm.enc),(7,I l.length),(8,I i)])
  (λi=>[.row 3<|((l.take i).map Xh).map Nm.enc]) 0
  (λfr h=>get fr 0=.isl false ex 3 (l.map Nm.enc)/\get fr 2=.bot/\get fr 3=.sl 0 l.length 0 l.length false/\h=[.row 3<|(l.map Xh).map Nm.enc])
  (λfr h=>get fr 2=.bool false) (λi=>rfl)
  (λi x hx hP=>by
   have hg:=Z6 (f:=Nm.enc) hx;have hi:=Zh<|Z7 hx;have hw:=Zx (n:=i) (by have:=Z7 hx;omega)
   have ht:=YW Xh hx;have hn:((l.take i).map Xh).length=i:=by rw[ZWm];exact take_len hx
   rw[ht,ZWM];have hP':ZZ x.Lang=true/\ZD x.Script 0 7=true/\Uv x.Text=true:=by simpa only[Uy,ZWn]using hP
   generalize(l.take i).map Xh=K at hn⊢;subst hn;have happ:=XC (h:=[.row 3<|K.map Nm.enc,.row 3 [.agg [.str x.Lang,I x.Script,.str emp]]]) (fz:=false) (b:=0) (g:=K.length) (sz:=3) (es:=K.map Nm.enc) (bw:=false) (ex:=false) (ys:=[.agg [.str x.Lang,I x.Script,.str emp]]) (bytes:=40) (by simp[rowAt]) rfl (by rfl) (by omega) (by omega) (by have:=Z7 hx;simp;omega)
   refine⟨_,by simp only[go_sem,c197L0b,hg,hi,hw,Nm.enc,Jl,QU,F3,hP'.1,hP'.2.1,hP'.2.2,beq_self_eq_true,happ,hbt];rfl,?_⟩
   simp only[go_sem])
  (λi x hx hP=>by
   have hg:=Z6 (f:=Nm.enc) hx;have hi:=Zh<|Z7 hx;have hn:((l.take i).map Xh).length=i:=by rw[ZWm];exact take_len hx
   generalize(l.take i).map Xh=K at hn⊢;subst hn;unfold Uy at hP;cases h1:ZZ x.Lang with
   |false=>
    refine⟨_,_,by simp only[go_sem,c197L0b,hg,hi,Nm.enc,Jl,h1,hbt];rfl,?_⟩
    simp only[go_sem]
   |true=>
   cases h2:ZD x.Script 0 7 with
   |false=>
    refine⟨_,_,by simp only[go_sem,c197L0b,hg,hi,Nm.enc,Jl,QU,h1,h2,hbt];rfl,?_⟩
    simp only[go_sem]
   |true=>
    have h3:Uv x.Text=false:=by simpa[h1,h2]using hP
    refine⟨_,_,by simp only[go_sem,c197L0b,hg,hi,Nm.enc,Jl,QU,F3,h1,h2,h3,hbt];rfl,?_⟩
    simp only[go_sem])
  (⟨_,_,by simp only[go_sem,c197L0b,ZG,ZWR];rfl,by
    refine⟨?_,?_,?_,?_⟩<;>simp only[go_sem]⟩)
 rw[QE]at L;obtain⟨fr',h',h1,h2,h3⟩:=L;have h1':Zg rE [0,3,6,7,8] c197L0b [(0,.isl false ex 3<|l.map Nm.enc),(3,.sl 0 0 0 0 false),(6,.isl false ex 3<|l.map Nm.enc),(7,I l.length),(8,.int .i64 0)] [.row 3 []]=_:=h1;rw[Z5 (f:=197) rfl rfl];unfold Uz;cases hc:l.all Uy with
 |false=>
  rw[hc]at h1';have hg:=h3 hc;simp only[go_sem,c197,c197L0,h1',hg,ZWt]
 |true=>
  rw[hc]at h1';obtain⟨g0,g2,g3,rfl⟩:=h2 hc;have hd:=Z23 (l.map Xh) false false<|by simpa using hl
  have hlm:(l.map Xh).length=l.length:=ZWm ..;have htk:List.take l.length ((l.map Xh).map Nm.enc)=(l.map Xh).map Nm.enc:=ZWL<|by simp
  cases hw:ZD l.length 1 8<;>simp only[go_sem,c197,c197L0,h1',g0,g2,g3,QU,hw,hct,hbt,beq_self_eq_true,htk,hd]
def Yd(e:Ent):Str:=e.Id
def Yl(e:Ent):HN:=e.An
def K6(e:Ent):Bool:=YO e.An
def Xi(l:List Ent)(more:List Str):Bool:=l.all K6&&(Qv (more++l.map Yd)&&XH QL (l.map Yl))
def NE{h:Hp}{aid b g sz bytes:Nat}{es ys:List AV}{bw ex fz:Bool}(hr:rowAt h b g=some (sz,es))(hy:ys.isEmpty=false)(hf:ys.all (fits sz)=true)(h0:0<sz)(h1:0<bytes)(h2:(g+ys.length)*bytes<=140737488355328):
 Qt h aid fz sz bytes (.sl b g 0 g false) (.isl bw ex sz ys)=some (.sl b (g+ys.length) 0 (g+ys.length) false,[b],some (b,.row sz<|es++ys)):=by
 unfold rowAt at hr;cases hb:h[b]? with
 |none=>rw[hb]at hr;cases hr
 |some o=>
  rw[hb]at hr;cases o with
  |row sz' es'=>
   dsimp only at hr;cases hg:(es'.length==g)with
   |false=>rw[hg]at hr;cases hr
   |true=>
    rw[hg]at hr;simp only[cond_true,Option.some.injEq,Prod.mk.injEq]at hr;obtain⟨rfl,rfl⟩:=hr;have hl:es'.length=g:=by simpa using hg
    have ht:List.take g es'=es':=ZWL<|by omega
    subst hl;simp only[Qt,Q2,hb,hg,cond_true,ZXu,ht,Qq,beq_self_eq_true,ZWC,h0,h1,h2,and_self,if_true,hy,cond_false,hf,ZX9,Zs]
  |_=>cases hr
def Z2e{h:Hp}{aid sz bytes:Nat}{es ys:List AV}{bw bw2 ex:Bool}(hy:ys.isEmpty=false)(h0:0<sz)(h1:0<bytes)(h2:(es.length+ys.length)*bytes<=140737488355328):
 Qt h aid false sz bytes (.isl bw true sz es) (.isl bw2 ex sz ys)=some (.sl aid (es++ys).length 0 (es++ys).length false,[],some (aid,.row sz<|es++ys)):=by
 simp only[Qt,Q2,Qq,beq_self_eq_true,ZWC,h0,h1,h2,and_self,if_true,hy,cond_false,Yp,Zs,ZXe]
def F5(x:AObj):setH [] 0 x=[x]:=(rfl)
def liS(v:AV)(m i:Nat)(n:Nat)(v0:AV):Fr:=
 [(1,if i=0 then v0 else .sl 2 (m+i) 0 (m+i) false),(5,.sl 0 i 0 i false),(8,v),(9,I n),(10,I i)]
def liH(l:List Ent)(more:List Str)(i:Nat):Hp:=
 if i=0 then [.row 4 []]else [.row 4<|((l.take i).map Yl).map HN.enc,.row 7<|(l.take 1).map Ent.enc,.row 1<|(more++(l.take i).map Yd).map encS]
def F6(l:List Ent)(ex:Bool)(more:List Str)(bw:Bool)(hl:l.length<=1000)(hm:more.length<=1000):pfn rE 207 [.isl false ex 7<|l.map Ent.enc,.isl bw true 1<|more.map encS]=some (.bool<|Xi l more):=by
 have hcS:∀K:List Str,Z4 (K.map encS)=true:=λK=>Zw (λt=>rfl) K
 have hcN:∀K:List HN,Z4 (K.map HN.enc)=true:=λK=>Zw (λt=>rfl) K
 have hbS:∀n(K:List Str),Zd n (K.map encS)=true:=λn K=>ZN _<|hcS K
 have hbN:∀n(K:List HN),Zd n (K.map HN.enc)=true:=λn K=>ZN _<|hcN K
 have hbE:∀n(K:List Ent),Zd n (K.map Ent.enc)=true:=λn K=>ZN _<|Zw (λt=>rfl) K
 have L:=Jk (E:=rE) (live:=[1,5,8,9,10]) (b:=c207L0b) l (λ_ x=>K6 x)
  (λi=>liS (.isl false ex 7<|l.map Ent.enc) more.length i l.length<|.isl bw true 1<|more.map encS) (liH l more) 0
  (λfr h=>get fr 1=(if l.length=0 then .isl bw true 1 (more.map encS)else .sl 2 (more.length+l.length) 0 (more.length+l.length) false)/\get fr 4=.bot/\get fr 5=.sl 0 l.length 0 l.length false/\h=liH l more l.length)
  (λfr h=>get fr 4=.bool false) (λi=>rfl)
  (λi x hx hP=>by
   have hg:=Z6 (f:=Ent.enc) hx;have hi:=Zh<|Z7 hx;have hil:=Z7 hx;have hw:=Zx (n:=i) (by have:=Z7 hx;omega)
   have hN:=YW Yl hx;have hS:=YW Yd hx;have hlN:((l.take i).map Yl).length=i:=by rw[ZWm];exact take_len hx
   have hlS:((l.take i).map Yd).length=i:=by rw[ZWm];exact take_len hx
   have hP':YO x.An=true:=hP;have h1:(l.take 1).map Ent.enc=(l.take 1).map Ent.enc:=rfl;rcases i with _|j
   .have t1:l.take 1=[x]:=by
     have:=YW id hx;simpa using this
    have e1:liH l more (0+1)=[.row 4 [.agg [I x.An.N,.str x.An.bm,I x.An.Num,I x.An.Den]],.row 7 [.agg [.str x.Id,I x.An.N,.str x.An.bm,I x.An.Num,I x.An.Den,I x.bg.X,I x.bg.Y]],.row 1<|more.map encS++[.str x.Id]]:=by
     simp only[liH,ZWD,t1,ZWM];rfl
    rw[e1];have ha:=Z2e (h:=[.row 4 [],.row 7 [.agg [.str x.Id,I x.An.N,.str x.An.bm,I x.An.Num,I x.An.Den,I x.bg.X,I x.bg.Y]]]) (aid:=2) (sz:=1) (bytes:=16) (es:=more.map encS) (ys:=[.str x.Id]) (bw:=bw) (bw2:=false) (ex:=false) rfl (by omega) (by omega) (by simp;omega)
    have hb:=NE (aid:=3) (h:=[.row 4 [],.row 7 [.agg [.str x.Id,I x.An.N,.str x.An.bm,I x.An.Num,I x.An.Den,I x.bg.X,I x.bg.Y]],.row 1<|more.map encS++[.str x.Id]]) (fz:=false) (b:=0) (g:=0) (sz:=4) (es:=[]) (bw:=false) (ex:=false) (ys:=[.agg [I x.An.N,.str x.An.bm,I x.An.Num,I x.An.Den]]) (bytes:=40) (by simp[rowAt]) rfl (by rfl) (by omega) (by omega) (by simp)
    refine⟨_,by simp only[go_sem,c207L0b,liS,liH,hg,hi,hw,Ent.enc,Ji,hP',beq_self_eq_true,ha,hb,appW,ZM,ZH,wrB,ZWN,F5];rfl,?_⟩
    simp only[go_sem,liS,ZWD,Nat.one_ne_zero]
   .have t1:∃y,l.take 1=[y]:=by
     rcases l with _|⟨y,r⟩
     .simp at hx
     .exact⟨y,by simp⟩
    obtain⟨y,ht1⟩:=t1;have e1:liH l more (j+1+1)=[.row 4<|((l.take<|j+1).map Yl).map HN.enc++[.agg [I x.An.N,.str x.An.bm,I x.An.Num,I x.An.Den]],.row 7 [Ent.enc y],.row 1<|(more++(l.take<|j+1).map Yd).map encS++[.str x.Id]]:=by
     simp only[liH,ZYv,if_false,hN,hS,ht1,ZWM];simp only[ZWW];rfl
    have e0:liH l more (j+1)=[.row 4<|((l.take<|j+1).map Yl).map HN.enc,.row 7 [Ent.enc y],.row 1<|(more++(l.take<|j+1).map Yd).map encS]:=by
     simp only[liH,ZYv,if_false,ht1];rfl
    rw[e0,e1];have hby':∀n,bel n (Ent.enc y)=true:=λn=>rfl
    generalize Ent.enc y=ey at hby'⊢;have hlS':(more++(l.take<|j+1).map Yd).length=more.length+(j+1):=by rw[ZWz,hlS]
    generalize(l.take<|j+1).map Yl=KN at hlN⊢;generalize more++(l.take<|j+1).map Yd=KS at hlS'⊢;have ha:=NE (aid:=4) (h:=[.row 4<|KN.map HN.enc,.row 7 [ey],.row 1<|KS.map encS,.row 7 [.agg [.str x.Id,I x.An.N,.str x.An.bm,I x.An.Num,I x.An.Den,I x.bg.X,I x.bg.Y]]]) (fz:=false) (b:=2) (g:=more.length+(j+1)) (sz:=1) (es:=KS.map encS) (bw:=false) (ex:=false) (ys:=[.str x.Id]) (bytes:=16) (by simp[rowAt,hlS']) rfl (by rfl) (by omega) (by omega) (by simp;omega)
    have hb:=NE (aid:=4) (h:=[.row 4<|KN.map HN.enc,.row 7 [ey],.row 1<|KS.map encS++[.str x.Id],.row 7 [.agg [.str x.Id,I x.An.N,.str x.An.bm,I x.An.Num,I x.An.Den,I x.bg.X,I x.bg.Y]]]) (fz:=false) (b:=0) (g:=j+1) (sz:=4) (es:=KN.map HN.enc) (bw:=false) (ex:=false) (ys:=[.agg [I x.An.N,.str x.An.bm,I x.An.Num,I x.An.Den]]) (bytes:=40) (by simp[rowAt,hlN]) rfl (by rfl) (by omega) (by omega) (by simp;omega)
    refine⟨_,by simp only[go_sem,c207L0b,liS,ZYv,if_false,hg,hi,hw,Ent.enc,Ji,hP',beq_self_eq_true,ha,hb,appW,ZM,ZH,wrB,hbS,hbN,hby',ZWN];rfl,?_⟩
    simp only[go_sem,liS,ZYv,if_false,ZXk])
  (λi x hx hP=>by
   have hg:=Z6 (f:=Ent.enc) hx;have hi:=Zh<|Z7 hx;have hP':YO x.An=false:=hP;rcases i with _|j
   .refine⟨_,_,by simp only[go_sem,c207L0b,liS,liH,hg,hi,Ent.enc,Ji,hP'];rfl,?_⟩
    simp only[go_sem]
   .have t1:∃y,l.take 1=[y]:=by
     rcases l with _|⟨y,r⟩
     .simp at hx
     .exact⟨y,by simp⟩
    obtain⟨y,ht1⟩:=t1;have e0:liH l more (j+1)=[.row 4<|((l.take<|j+1).map Yl).map HN.enc,.row 7 [Ent.enc y],.row 1<|(more++(l.take<|j+1).map Yd).map encS]:=by
     simp only[liH,ZYv,if_false,ht1];rfl
    rw[e0];have hby':∀n,bel n (Ent.enc y)=true:=λn=>rfl
    generalize Ent.enc y=ey at hby'⊢;generalize(l.take<|j+1).map Yl=KN;generalize more++(l.take<|j+1).map Yd=KS;refine⟨_,_,by simp only[go_sem,c207L0b,liS,ZYv,if_false,hg,hi,Ent.enc,Ji,hP',beq_self_eq_true,hbS,hbN,hby'];rfl,?_⟩
    simp only[go_sem])
  (by
   refine⟨_,_,by simp only[go_sem,c207L0b,liS,ZG];rfl,?_,?_,?_,?_⟩
   .simp only[go_sem]
   .simp only[go_sem]
   .simp only[go_sem]
   .unfold liH;split<;>simp only[go_sem])
 rw[QE]at L;obtain⟨fr',h',h1,h2,h3⟩:=L;have h1':Zg rE [1,5,8,9,10] c207L0b [(1,.isl bw true 1<|more.map encS),(5,.sl 0 0 0 0 false),(8,.isl false ex 7<|l.map Ent.enc),(9,I l.length),(10,.int .i64 0)] [.row 4 []]=_:=h1;rw[Z5 (f:=207) rfl rfl];unfold Xi;have hany:(λx=>K6 x)=K6:=rfl
 cases hc:l.all K6 with
 |false=>
  have hc':(l.all λx=>K6 x)=false:=hc
  rw[hc']at h1';have hg:=h3 hc';simp only[go_sem,c207,c207L0,h1',hg,ZWt]
 |true=>
  have hc':(l.all λx=>K6 x)=true:=hc
  rw[hc']at h1';obtain⟨g1,g4,g5,rfl⟩:=h2 hc';have hids:=λ(b e:Bool)=>Uw (more++l.map Yd) b e<|by simp;omega
  have hdf:=Z22 (l.map Yl) false false<|by simp;omega
  rcases l with _|⟨y,r⟩
  .have e:more++([]:List Ent).map Yd=more:=by simp
   rw[e]at hids⊢;have hids':=hids bw true;have hdf':pfn rE 275 [.isl false false 4 []]=some (.bool<|XH QL<|([]:List Ent).map Yl):=hdf;have g1':get fr' 1=.isl bw true 1 (more.map encS):=g1;have g5':get fr' 5=.sl 0 0 0 0 false:=g5;have h1'':Zg rE [1,5,8,9,10] c207L0b [(1,.isl bw true 1<|more.map encS),(5,.sl 0 0 0 0 false),(8,.isl false ex 7 []),(9,.int .i64 ((0:Nat):Int)),(10,.int .i64 0)] [.row 4 []]=some (.exit 0,fr',[.row 4 []]):=h1';cases hi:Qv more<;>rw[hi]at hids'<;>cases bw<;>simp only[go_sem,c207,c207L0,h1'',g1',g4,g5',hids',hdf',beq_self_eq_true]
  .generalize hl0:y::r=l at*;have hne:(l.length=0)=False:=by rw[<-hl0];simp
   obtain⟨z,hz⟩:∃z,l.take 1=[z]:=⟨y,by rw[<-hl0];rfl⟩
   have htl:l.take l.length=l:=ZWR;simp only[hne,if_false]at g1;have hzl:∀n,Zd n ([z].map Ent.enc)=true:=λn=>hbE n _
   have hlN:(l.map Yl).length=l.length:=ZWm ..;have hlS:(more++l.map Yd).length=more.length+l.length:=by simp
   have tkN:List.take l.length ((l.map Yl).map HN.enc)=(l.map Yl).map HN.enc:=ZWL<|by simp
   have tkS:List.take (more.length+l.length) ((more++l.map Yd).map encS)=(more++l.map Yd).map encS:=ZWL<|by simp
   have hids':=hids false false;have heq:(l.length==0)=false:=by rw[beq_eq_false_iff_ne];intro h;rw[hne]at h;exact h
   have hH:liH l more l.length=[.row 4<|(l.map Yl).map HN.enc,.row 7<|[z].map Ent.enc,.row 1<|(more++l.map Yd).map encS]:=by
    simp only[liH,hne,if_false,htl,hz]
   rw[hH]at h1';generalize([z].map Ent.enc)=Z at hzl h1';generalize l.map Yl=KN at*;generalize more++l.map Yd=KS at*;cases hi:Qv KS<;>rw[hi]at hids'<;>simp only[go_sem,c207,c207L0,h1',g1,g4,g5,hids',hdf,beq_self_eq_true,hbN,hcS,hcN,hzl,hlN,hlS,tkN,tkS,if_true]
abbrev evA(e:Gt):AV:=.agg [I e.bq,I e.Day,I e.A,I e.B,I e.bv,.str e.Id,.str e.br,.str e.Text,.isl false e.Ids.ex 1<|e.Ids.l.map encS,.isl false e.bk.ex 3<|e.bk.l.map Nm.enc,
 I e.An.N,.str e.An.bm,I e.An.Num,I e.An.Den,I e.bg.X,I e.bg.Y,.isl false e.Path.ex 2<|e.Path.l.map Pt.enc,.isl false e.Lst.ex 7<|e.Lst.l.map Ent.enc]
structure EvS(e:Gt):Prop where
 ids:e.Ids.l.length<=100
 names:e.bk.l.length<=100
 path:e.Path.l.length<=100
 lst:e.Lst.l.length<=100
 id:e.Id.size<=1000
 other:e.br.size<=1000
 text:e.Text.size<=1000
def F7(fn:Fn):Option (List AV)->Option (List AV)->Option AV
 |some f,some c=>some<|.clo fn f c
 |_,_=>none
def Z2f(fn:Fn)(f c:List AV):F7 fn (some f) (some c)=some (.clo fn f c):=rfl
def Z2g(bw:Bool)(h:Hp)(n:Nat)(fn:Fn)(a c:List AV)(hc:(Z4 a&&Z4 c)=false):freeze bw h (n+1) (.clo fn a c)=F7 fn (ZC bw h n a) (ZC bw h n c):=by
 conv=>lhs;unfold freeze
 have:clean (.clo fn a c)=false:=hc;rw[this,cond_false];dsimp only;cases ZC bw h n a<;>cases ZC bw h n c<;>rfl
attribute [go_sem] Z2f Z2g
def n0:AV:=.iptr false [.clo (.func 188) [] []]
def Vl(e:Gt):pfn rE 188 [evA e]=some (.bool<|ZZ e.Id):=by
 rw[Z5 (f:=188) rfl rfl];simp only[go_sem,c188,Jl]
def F8(e:Gt):pfn rE 190 [evA e]=some (.bool<|K5 e.A e.B):=by
 rw[Z5 (f:=190) rfl rfl];simp only[go_sem,c190,Z2b]
def Z2h(e:Gt):pfn rE 198 [evA e]=some (.bool<|Qv [e.Id,e.br]):=by
 have h:pfn rE 199 [.isl false false 1 [.str e.Id,.str e.br]]=some (.bool<|Qv [e.Id,e.br]):=Uw [e.Id,e.br] false false<|by simp
 rw[Z5 (f:=198) rfl rfl];simp only[go_sem,c198,h]
def Z2i(e:Gt)(hs:EvS e):pfn rE 192 [evA e,.iptr false [.clo (.func 188) [] []]]=some (.bool<|ZZ e.Id&&(ZD e.A 1 3&&Vh e.Path.l)):=by
 have hv:=Dz e.Path.l e.Path.ex (by have:=hs.path;omega)
 rw[Z5 (f:=192) rfl rfl];have h1:=Vl e;cases c1:ZZ e.Id<;>rw[c1]at h1<;>cases c2:ZD e.A 1 3<;>simp only[go_sem,c192,h1,QU,c2,hv]
def Z2j(e:Gt)(hs:EvS e):pfn rE 194 [evA e,.iptr false [.clo (.func 188) [] []]]=some (.bool<|ZZ e.Id&&Ul e.Path.l):=by
 have hv:=Z1o e.Path.l e.Path.ex (by have:=hs.path;omega)
 rw[Z5 (f:=194) rfl rfl];have h1:=Vl e;cases c1:ZZ e.Id<;>rw[c1]at h1<;>simp only[go_sem,c194,h1,hv]
def Z2k(e:Gt)(hs:EvS e):pfn rE 196 [evA e,.iptr false [.clo (.func 188) [] []]]=some (.bool<|ZZ e.Id&&Uz e.bk.l):=by
 have hv:=Z2d e.bk.l e.bk.ex (by have:=hs.names;omega)
 rw[Z5 (f:=196) rfl rfl];have h1:=Vl e;cases c1:ZZ e.Id<;>rw[c1]at h1<;>simp only[go_sem,c196,h1,hv]
def Z2l(e:Gt)(hs:EvS e):pfn rE 200 [evA e,.iptr false [.clo (.func 188) [] []]]=some (.bool<|ZZ e.Id&&Vh e.Path.l):=by
 have hv:=Dz e.Path.l e.Path.ex (by have:=hs.path;omega)
 rw[Z5 (f:=200) rfl rfl];have h1:=Vl e;cases c1:ZZ e.Id<;>rw[c1]at h1<;>simp only[go_sem,c200,h1,hv]
def Z2m(e:Gt):pfn rE 201 [evA e]=some (.bool<|Qv [e.Id,e.br,e.Text]&&(YO e.An&&gOn e.bg)):=by
 have h:pfn rE 199 [.isl false false 1 [.str e.Id,.str e.br,.str e.Text]]=some (.bool<|Qv [e.Id,e.br,e.Text]):=Uw [e.Id,e.br,e.Text] false false<|by simp
 rw[Z5 (f:=201) rfl rfl];cases c1:Qv [e.Id,e.br,e.Text]<;>rw[c1]at h<;>cases c2:YO e.An<;>simp only[go_sem,c201,h,Ji,c2,W8]
def Z2n(e:Gt):pfn rE 204 [evA e]=some (.bool<|Qv [e.Id,e.br]&&Jm e.Text 24):=by
 have h:pfn rE 199 [.isl false false 1 [.str e.Id,.str e.br]]=some (.bool<|Qv [e.Id,e.br]):=Uw [e.Id,e.br] false false<|by simp
 rw[Z5 (f:=204) rfl rfl];cases c1:Qv [e.Id,e.br]<;>rw[c1]at h<;>simp only[go_sem,c204,h,DZ]
def Z2o(e:Gt)(hs:EvS e):pfn rE 206 [evA e,.iptr false [.clo (.func 188) [] []]]=some (.bool<|ZZ e.Id&&(ZD e.Lst.l.length 1 40&&(Xi e.Lst.l []&&Vk e.Lst.l true))):=by
 have hv:pfn rE 207 [.isl false e.Lst.ex 7<|e.Lst.l.map Ent.enc,.isl false true 1 []]=some (.bool<|Xi e.Lst.l []):=F6 e.Lst.l e.Lst.ex [] false (by have:=hs.lst;omega)<|by simp
 have hp:=F4 e.Lst.l e.Lst.ex true (by have:=hs.lst;omega)
 rw[Z5 (f:=206) rfl rfl];have h1:=Vl e;cases c1:ZZ e.Id<;>rw[c1]at h1<;>cases c2:ZD e.Lst.l.length 1 40<;>cases c10003:Xi e.Lst.l []<;>rw[c10003]at hv<;>simp only[go_sem,c206,h1,QU,c2,hv,hp]
def Z2p(e:Gt)(hs:EvS e):pfn rE 209 [evA e]=some (.bool<|ZD e.Lst.l.length 2 8&&(Xi e.Lst.l [e.Id]&&Vk e.Lst.l false)):=by
 have hv:pfn rE 207 [.isl false e.Lst.ex 7<|e.Lst.l.map Ent.enc,.isl true true 1 [.str e.Id]]=some (.bool<|Xi e.Lst.l [e.Id]):=F6 e.Lst.l e.Lst.ex [e.Id] true (by have:=hs.lst;omega)<|by simp
 have hp:=F4 e.Lst.l e.Lst.ex false (by have:=hs.lst;omega)
 rw[Z5 (f:=209) rfl rfl];cases c2:ZD e.Lst.l.length 2 8<;>cases c10003:Xi e.Lst.l [e.Id]<;>rw[c10003]at hv<;>simp only[go_sem,c209,QU,c2,hv,hp]
def Z2q{h:Hp}{aid b g sz bytes:Nat}{es ys:List AV}{bw ex:Bool}(hr:rowAt h b g=some (sz,es))(hy:ys.isEmpty=false)(h0:0<sz)(h1:0<bytes)(h2:(g+ys.length)*bytes<=140737488355328):
 Qt h aid false sz bytes (.sl b g 0 g true) (.isl bw ex sz ys)=some (.sl aid (es++ys).length 0 (es++ys).length false,[b],some (aid,.row sz<|es++ys)):=by
 unfold rowAt at hr;cases hb:h[b]? with
 |none=>rw[hb]at hr;cases hr
 |some o=>
  rw[hb]at hr;cases o with
  |row sz' es'=>
   dsimp only at hr;cases hg:(es'.length==g)with
   |false=>rw[hg]at hr;cases hr
   |true=>
    rw[hg]at hr;simp only[cond_true,Option.some.injEq,Prod.mk.injEq]at hr;obtain⟨rfl,rfl⟩:=hr;have hl:es'.length=g:=by simpa using hg
    have ht:List.take g es'=es':=ZWL<|by omega
    subst hl;simp only[Qt,Q2,hb,hg,cond_true,ZXu,ht,Qq,beq_self_eq_true,ZWC,h0,h1,h2,and_self,if_true,hy,cond_false,Yp,Zs,ZXe]
  |_=>cases hr
def Z2r(e:Gt)(hs:EvS e):pfn rE 210 [evA e]=some (.bool<|ZD e.Ids.l.length 2 8&&(Qv (e.Id::e.Ids.l)&&(YO e.An&&gOn e.bg))):=by
 have hcS:∀K:List Str,Z4 (K.map encS)=true:=λK=>Zw (λt=>rfl) K
 have hbS:∀n(K:List Str),Zd n (K.map encS)=true:=λn K=>ZN _<|hcS K
 have h:pfn rE 199 [.isl true false 1<|.str e.Id::e.Ids.l.map encS]=some (.bool<|Qv<|e.Id::e.Ids.l):=Uw (e.Id::e.Ids.l) true false (by have:=hs.ids;simp;omega)
 rw[Z5 (f:=210) rfl rfl];cases c2:ZD e.Ids.l.length 2 8 with
 |false=>simp only[go_sem,c210,QU,c2]
 |true=>
  have hne:(e.Ids.l.map encS).isEmpty=false:=by
   unfold ZD at c2;cases hl:e.Ids.l with
   |nil=>rw[hl]at c2;simp at c2
   |cons x r=>rfl
  have ha:=Z2q (h:=[.row 1 [.str e.Id]]) (aid:=1) (b:=0) (g:=1) (sz:=1) (bytes:=16) (es:=[.str e.Id]) (bw:=false) (ex:=e.Ids.ex) rfl hne (by omega) (by omega) (by have:=hs.ids;simp;omega)
  have tk:List.take (e.Ids.l.length+1) (.str e.Id::e.Ids.l.map encS)=.str e.Id::e.Ids.l.map encS:=ZWL<|by simp
  have tk1:List.take (1+e.Ids.l.length) (.str e.Id::e.Ids.l.map encS)=.str e.Id::e.Ids.l.map encS:=ZWL<|by simp;omega
  cases c10003:Qv (e.Id::e.Ids.l)<;>rw[c10003]at h<;>cases c10004:YO e.An<;>simp only[go_sem,c210,QU,c2,h,Ji,c10004,W8,appW,ha,ZM,ZH,F5,beq_self_eq_true,tk,hcS]
def Z2s(e:Gt):pfn rE 211 [evA e,.iptr false [.clo (.func 188) [] []]]=some (.bool<|ZZ e.Id&&(ZD e.bv 0 63&&Uu e.Text)):=by
 rw[Z5 (f:=211) rfl rfl];have h1:=Vl e;cases c1:ZZ e.Id<;>rw[c1]at h1<;>cases c2:ZD e.bv 0 63<;>simp only[go_sem,c211,h1,QU,c2,Z27]
end Go.AM
