/- What the functions of the program compute, part 1, for RegistryMatchesReference. No condition. -/
import Derived.Test.YtmmfbjlenjnckaaGreatDoorC3
import Derived.Lib.RuneCount
set_option linter.unusedVariables false
set_option linter.defProp false
set_option linter.unusedSimpArgs false
set_option linter.unusedSectionVars false
open Nat renaming reduceAdd → qq, reduceSub → qx, reduceMul → qz, reduceLT → qv, reduceLeDiff → qk, reduceBEq → qy
attribute [go_sem_proc] Nat.reduceBEq Nat.reduceAdd Nat.reduceSub Nat.reduceMul Nat.reduceLT Nat.reduceLeDiff reduceIte
namespace Go.AM
open Go
def Ib:clean .bot=true:=(rfl)
def Di(b:Bool):clean (.bool b)=true:=(rfl)
def Dj(k:IntKind)(n:Int):clean (.int k n)=true:=(rfl)
def Ic(s:ByteArray):clean (.str s)=true:=(rfl)
def Ie:clean .nilif=true:=(rfl)
def Ig(cs:List AV):clean (.agg cs)=Z4 cs:=(rfl)
def Ih(cs:List AV):clean (.tup cs)=Z4 cs:=(rfl)
def Ii(bw ex:Bool)(sz:Nat)(es:List AV):clean (.isl bw ex sz es) = !bw:=(rfl)
def Ij(bw:Bool)(es:List AV):clean (.iptr bw es) = !bw:=(rfl)
def Ik(bw:Bool)(es vs:List AV):clean (.imap bw es vs) = !bw:=(rfl)
def Il(fn:Fn)(a c:List AV):clean (.clo fn a c)=(Z4 a&&Z4 c):=(rfl)
def Im(b i off g:Nat):clean (.ptr b i off g)=false:=(rfl)
def Io(b g off len:Nat)(ex:Bool):clean (.sl b g off len ex)=false:=(rfl)
def Ip(b:Nat):clean (.mp b)=false:=(rfl)
def Dk:Z4 []=true:=(rfl)
def N1(a:AV)(r:List AV):Z4 (a::r)=(clean a&&Z4 r):=(rfl)
def Iq(b:Bool):Zy (.bool b)=true:=(rfl)
def Ir(k:IntKind)(n:Int):Zy (.int k n)=true:=(rfl)
def It(s:ByteArray):Zy (.str s)=true:=(rfl)
def Iu(cs:List AV):Zy (.agg cs)=Zi cs:=(rfl)
def Iv(cs:List AV):Zy (.tup cs)=Zi cs:=(rfl)
def Iw(bw ex:Bool)(sz:Nat)(es:List AV):Zy (.isl bw ex sz es)=true:=(rfl)
def Ix(bw:Bool)(es:List AV):Zy (.iptr bw es)=true:=(rfl)
def Iy(bw:Bool)(es vs:List AV):Zy (.imap bw es vs)=true:=(rfl)
def Iz(fn:Fn)(a c:List AV):Zy (.clo fn a c)=(Zi a&&Zi c):=(rfl)
def IA:Zi []=true:=(rfl)
def IB(a:AV)(r:List AV):Zi (a::r)=(Zy a&&Zi r):=(rfl)
attribute [go_sem] Ib Di Dj Ic Ie Ig Ih Ii Ij Ik Il Im Io Ip Dk N1
 Iq Ir It Iu Iv Iw Ix Iy Iz IA IB
def N3(c:AV)(r:List AV):takeC none (c::r)=some c:=rfl
def IC(n:Nat)(cs:List AV):takeC (some n) cs=bif Nat.ble n cs.length then some (.agg<|cs.take n)else none:=rfl
def ID(cs:List AV):(AV.agg cs).cells=cs:=rfl
def IE(b:Bool):(AV.bool b).cells=[.bool b]:=rfl
def IF(k:IntKind)(n:Int):(AV.int k n).cells=[.int k n]:=rfl
def IG(s:ByteArray):(AV.str s).cells=[.str s]:=rfl
def IH(bw ex:Bool)(sz:Nat)(es:List AV):(AV.isl bw ex sz es).cells=[.isl bw ex sz es]:=rfl
def II(b g off len:Nat)(ex:Bool):(AV.sl b g off len ex).cells=[.sl b g off len ex]:=rfl
def IJ(b i off g:Nat):(AV.ptr b i off g).cells=[.ptr b i off g]:=rfl
def IK(bw:Bool)(es:List AV):(AV.iptr bw es).cells=[.iptr bw es]:=rfl
def IL(fn:Fn)(a c:List AV):(AV.clo fn a c).cells=[.clo fn a c]:=rfl
def IM(b:Nat):(AV.mp b).cells=[.mp b]:=rfl
def IN:AV.nilp.cells=[.nilp]:=rfl
def IP:AV.nilfn.cells=[.nilfn]:=rfl
attribute [go_sem] N3 IC ID IE IF IG IH II IJ IK IL IM IN IP
attribute [go_sem] eq_self Bool.and_true Bool.true_and Bool.and_false Bool.false_and Bool.not_true Bool.not_false Bool.and_self
def XA{a b:List AV}:Z4 (a++b)=(Z4 a&&Z4 b):=by
 induction a with
 |nil=>simp[Z4]
 |cons x a ih=>simp[Z4,ih,ZY6]
def Zw{α:Type}{f:α->AV}(h:∀x,clean (f x)=true):∀l:List α,Z4 (l.map f)=true
 |[]=>rfl
 |x::l=>by simp[Z4,h,Zw h l]
def YM{n:Int}(h1:-9223372036854775808<=n)(h2:n<=9223372036854775807):IntKind.i64.wrap n=n:=by
 simp[IntKind.wrap,IntKind.signed,IntKind.bits];omega
def Zx{n:Nat}(h:n<9223372036854775807):IntKind.i64.wrap ((n:Int)+1)=((n+1:Nat):Int):=by
 rw[YM (by omega)<|by omega];rfl
def Dl{E:Env}{live:List Nat}{b:ACode}{fr fr2:Fr}{h:Hp}(e:Z2 live fr=Z2 live fr2):Zb E (.loop live b) fr h=Zb E (.loop live b) fr2 h:=by
 rw[GF,e,<-GF]
variable {E:Env}
def IQ{v:Option AV}{r:Zt}(he:Zl v=some r):r.2.2=none:=by
 unfold Zl at he;cases v with
 |none=>cases he
 |some v=>simp only[ZXo,Option.some.injEq]at he;rw[<-he]
def YV(h:Hp)(r:Zt):Prop:=Ya h r.2.2=true
def IR{h:Hp}{r:Zt}(hr:r.2.2=none):YV h r:=by unfold YV;rw[hr];rfl
def N4{h:Hp}{v:Option AV}{r:Zt}(he:Zl v=some r):YV h r:=IR<|IQ he
def Vc{h:Hp}{v:AV}{rs:List Nat}{b:Nat}{o:AObj}{r:Zt}(hb:b<=h.length)(he:some (v,rs,some (b,o))=some r):YV h r:=by
 cases he;exact ZYo hb
def VU{h:Hp}{v:AV}{rs:List Nat}{r:Zt}(he:some (v,rs,none)=some r):YV h r:=by
 cases he;rfl
def ZA0{h:Hp}{r:Zt}(hb:∀b o,r.2.2=some (b,o)->b<=h.length):YV h r:=by
 obtain⟨v,rs,wr⟩:=r;cases wr with
 |none=>rfl
 |some p=>exact ZYo<|hb p.1 p.2 rfl
def N5{h:Hp}{b:Nat}{o:AObj}(hb:h[b]?=some o):b<=h.length:=ZXU (ZXg.1 hb).1
def N6{h:Hp}{fz:Bool}{sz:Nat}{all:List AV}{rs:List Nat}{r:Zt}(he:Yp h.length fz sz all rs=some r):YV h r:=by
 unfold Yp at he;cases fz with
 |true=>
  cases hc:Z4 all with
  |true=>rw[hc]at he;exact VU he
  |false=>rw[hc]at he;cases he
 |false=>exact Vc (ZX0 _) he
def IS{h:Hp}{fz:Bool}{sz bytes:Nat}{s x:AV}{r:Zt}(he:Qt h h.length fz sz bytes s x=some r):YV h r:=by
 unfold Qt at he;split at he
 .split at he
  .rename_i es ys _ _ _;cases hy:ys.isEmpty with
   |true=>rw[hy]at he;exact VU he
   |false=>
    rw[hy,cond_false]at he;split at he
    .exact N6 he
    .exact N6 he
    .exact N6 he
    .split at he
     .rename_i hb;simp only[cond]at he;split at he
      .exact Vc (N5 hb) he
      .cases he
     .cases he
    .cases he
  .cases he
 .cases he
def IT{h:Hp}{ag:Bool}{kk:List Nat}{b:Nat}{ks vs:List AV}{k v:AV}{r:Zt}(hb:b<=h.length)(he:Yo ag kk b ks vs k v=some r):YV h r:=by
 unfold Yo at he;split at he
 .exact Vc hb he
 .exact Vc hb he
 .cases he
def IU{h:Hp}{v:Option AV}{rs:List Nat}{r:Zt}(he:v.map (λv=>((v,rs,none):Zt))=some r):YV h r:=by
 cases v with
 |none=>cases he
 |some v=>exact VU he
def IV{h:Hp}{ag ok:Bool}{kk rs:List Nat}{z:AV}{ks vs:List AV}{k:AV}{r:Zt}(he:QW ag kk ok z rs ks vs k=some r):YV h r:=by
 unfold QW at he;split at he
 .exact VU he
 .rename_i i _ _;cases hv:vs[i]? with
  |none=>rw[hv]at he;cases he
  |some v=>rw[hv]at he;exact VU he
 .cases he
def IW{h:Hp}{x:AV}{r:Zt}(he:X1 h x=some r):YV h r:=by
 unfold X1 at he
 repeat' (split at he)
 all_goals try simp only[cond]at he
 all_goals (repeat' (split at he))
 all_goals first
  |exact N4 he
  |exact VU he
  |(cases he;done)
def ZA1{h:Hp}{b c:Nat}{x:AV}{r:Zt}(he:ZvH h b c x=some r):YV h r:=by
 unfold ZvH at he
 repeat' (split at he)
 all_goals try simp only[cond]at he
 all_goals (repeat' (split at he))
 all_goals first
  |(exact Vc (N5<|by assumption) he)
  |(cases he;done)
def IX{fr:Fr}{h:Hp}{op:AOp}{r:Zt}(he:Z8 E fr h h.length op=some r):YV h r:=by
 cases op<;>simp only[Z8]at he
 case app=>exact IS he
 case apr sz bytes s x=>
  cases hap:Qt h h.length false sz bytes (ev E fr s) (ev E fr x)with
  |none=>rw[hap]at he;cases he
  |some r0=>
   rw[hap]at he;exact ZA0<|Zzd (ZxP (ZX0 _) hap) he
 case own=>exact Vc (ZX0 _) he
 case mkm=>exact Vc (ZX0 _) he
 all_goals first
  |exact N4 he
  |(repeat' (split at he)
    all_goals try simp only[cond]at he
    all_goals (repeat' (split at he))
    all_goals first
     |exact N4 he
     |exact VU he
     |exact Vc (ZX0 _) he
     |(cases he;done)
     |(exact Vc (N5<|by assumption) he)
     |(exact IT (N5<|by assumption) he)
     |exact IU he
     |exact IV he
     |exact ZA1 he
     |exact IW he)
def Za(E:Env)(op:AOp)(fr:Fr)(h:Hp):DRec:=
 match op with
 | .call _ _ args=>ZOd h<|evs E fr args
 | .callv _ x args=>(match ev E fr x with| .clo (.func _) first cap=>⟨!Zi (first++evs E fr args++cap),[],none,none⟩|_=>⟨false,[],none,none⟩)
 |op=>QG E (Z2 op.slots fr) h op (match Z8 E (Z2 op.slots fr) h h.length op with|some r=>r.2.2|none=>none)
noncomputable def dk(E:Env)(d:Option Nat)(r:List AOper)(us:List<|List Nat)(ok:Bool)(fr:Fr)(recs:List DRec)(rec:DRec):Option (Fr×Hp)->Option (Fr×Hp)
 |some ((_,v)::_,h')=>bif ok then Zm E r us (ZB fr d v) h' (recs++[rec])else none
 |_=>none
def IY(d:Option Nat)(r:List AOper)(us:List<|List Nat)(fr:Fr)(recs:List DRec)(rec:DRec)(k:Nat)(v:AV)(fr':Fr)(h':Hp):dk E d r us true fr recs rec (some ((k,v)::fr',h'))=Zm E r us (ZB fr d v) h' (recs++[rec]):=rfl
def Qb{d:Option Nat}{op:AOp}{r:List AOper}{u:List Nat}{us:List (List Nat)}{fr:Fr}{h:Hp}{recs:List DRec}(hc:op.isCall=false):
 Zm E (⟨d,op,none⟩::r) (u::us) fr h recs=dk E d r us (Zv (Za E op fr h) recs u) fr recs (Za E op fr h) (Z9 E [⟨some 0,op,none⟩] (Z2 op.slots fr) h):=by
 rw[VS,LG hc,V9,GE hc];have hd:Za E op fr h=QG E (Z2 op.slots fr) h op (match Z8 E (Z2 op.slots fr) h h.length op with|some r=>r.2.2|none=>none):=by
  cases op<;>first|rfl|(simp[AOp.isCall]at hc)
 rw[hd];cases he:Z8 E (Z2 op.slots fr) h h.length op with
 |none=>rfl
 |some q=>
  simp only[ZM,KZ,GG,dk,okd];have hw:=IX he;unfold YV at hw;rw[hw,ZWW]
def IZ{d:Option Nat}{f:Nat}{args:List Arg}{r:List AOper}{u:List Nat}{us:List (List Nat)}{fr:Fr}{h:Hp}{recs:List DRec}:
 Zm E (⟨d,.call true f args,none⟩::r) (u::us) fr h recs=dk E d r us (Zv (Za E (.call true f args) fr h) recs u) fr recs (Za E (.call true f args) fr h) (Z9 E [⟨some 0,.call true f args,none⟩] fr h):=by
 rw[VS,S6,V9,RE,GD];simp only[Za,evs];cases Ql h (args.map<|ev E fr)with
 |none=>rfl
 |some aS=>
  simp only[ZM];cases pfn E f aS with
  |none=>rfl
  |some v=>
   simp only[ZM,KZ,GG,dk,okd,ZH,Ya,ZWW]
noncomputable def rkw(E:Env)(d:Option Nat)(r:List AOper)(u:List Nat)(us:List<|List Nat)(fr:Fr)(h:Hp)(recs:List DRec)(o:Option<|AV×DRec×Option (Nat×AObj)):Option (Fr×Hp):=thn o λp=>okd recs u h p.2.1 p.2.2<|Zm E r us (ZB fr d p.1) (ZH h p.2.2)<|recs++[p.2.1]
def ZL4{d:Option Nat}{f:Nat}{args:List Arg}{r:List AOper}{u:List Nat}{us:List (List Nat)}{fr:Fr}{h:Hp}{recs:List DRec}:
 Zm E (⟨d,.call false f args,none⟩::r) (u::us) fr h recs=rkw E d r u us fr h recs (rsD (E.rs f) h<|evs E fr args):=by
 rw[VS,ZIH];rfl
def O0{d:Option Nat}{x:Arg}{args:List Arg}{r:List AOper}{u:List Nat}{us:List (List Nat)}{fr:Fr}{h:Hp}{recs:List DRec}:
 Zm E (⟨d,.callv true x args,none⟩::r) (u::us) fr h recs=dk E d r us (Zv (Za E (.callv true x args) fr h) recs u) fr recs (Za E (.callv true x args) fr h) (Z9 E [⟨some 0,.callv true x args,none⟩] fr h):=by
 rw[VS,S7,V9,RF];simp only[Za,evs,dcv];generalize ev E fr x=fv;by_cases hv:∃g a c,fv=.clo (.func g) a c
 .obtain⟨g,a,c,rfl⟩:=hv;simp only;rw[RD,GD];cases Ql h (a++args.map (ev E fr)++c)with
  |none=>rfl
  |some aS=>
   simp only[ZM];cases pfn E g aS with
   |none=>rfl
   |some v=>simp only[ZM,KZ,GG,dk,okd,ZH,Ya,ZWW]
 .rw[LU (λg a c e=>hv ⟨g,a,c,e⟩)<|λ_ _=>rfl]
  split
  .next g a c=>exact absurd ⟨g,a,c,rfl⟩ hv
  .rfl
noncomputable def dg(E:Env)(d:Option Nat)(op:AOp)(r:List AOper)(u:List Nat)(us:List<|List Nat)(fr:Fr)(h:Hp)(recs:List DRec):Bool->AV->Option (Fr×Hp)
 |true,.bool true=>Zm E (⟨d,op,none⟩::r) (u::us) fr h recs
 |false,.bool false=>Zm E (⟨d,op,none⟩::r) (u::us) fr h recs
 |true,.bool false=>bif Zv ⟨false,[],none,none⟩ recs u then Zm E r us (ZB fr d<|.tup []) h (recs++[⟨false,[],none,none⟩])else none
 |false,.bool true=>bif Zv ⟨false,[],none,none⟩ recs u then Zm E r us (ZB fr d<|.tup []) h (recs++[⟨false,[],none,none⟩])else none
 |_,.tup []=>bif Zv ⟨false,[],none,none⟩ recs u then Zm E r us (ZB fr d<|.tup []) h (recs++[⟨false,[],none,none⟩])else none
 |_,_=>none
def O1(d:Option Nat)(op:AOp)(r:List AOper)(u:List Nat)(us:List<|List Nat)(fr:Fr)(h:Hp)(recs:List DRec):dg E d op r u us fr h recs true (.bool true)=Zm E (⟨d,op,none⟩::r) (u::us) fr h recs:=rfl
def O2(d:Option Nat)(op:AOp)(r:List AOper)(u:List Nat)(us:List<|List Nat)(fr:Fr)(h:Hp)(recs:List DRec):dg E d op r u us fr h recs false (.bool false)=Zm E (⟨d,op,none⟩::r) (u::us) fr h recs:=rfl
def O3(d:Option Nat)(op:AOp)(r:List AOper)(u:List Nat)(us:List<|List Nat)(fr:Fr)(h:Hp)(recs:List DRec):dg E d op r u us fr h recs true (.bool false)=bif Zv ⟨false,[],none,none⟩ recs u then Zm E r us (ZB fr d<|.tup []) h (recs++[⟨false,[],none,none⟩])else none:=rfl
def O4(d:Option Nat)(op:AOp)(r:List AOper)(u:List Nat)(us:List<|List Nat)(fr:Fr)(h:Hp)(recs:List DRec):dg E d op r u us fr h recs false (.bool true)=bif Zv ⟨false,[],none,none⟩ recs u then Zm E r us (ZB fr d<|.tup []) h (recs++[⟨false,[],none,none⟩])else none:=rfl
def Dm(d:Option Nat)(op:AOp)(r:List AOper)(u:List Nat)(us:List<|List Nat)(fr:Fr)(h:Hp)(recs:List DRec)(b:Bool):dg E d op r u us fr h recs b (.tup [])=bif Zv ⟨false,[],none,none⟩ recs u then Zm E r us (ZB fr d<|.tup []) h (recs++[⟨false,[],none,none⟩])else none:=by cases b<;>rfl
def O5{d:Option Nat}{op:AOp}{t:Nat}{b:Bool}{r:List AOper}{u:List Nat}{us:List (List Nat)}{fr:Fr}{h:Hp}{recs:List DRec}:
 Zm E (⟨d,op,some (t,b)⟩::r) (u::us) fr h recs=dg E d op r u us fr h recs b (get fr t):=by
 rw[VS,S5];generalize get fr t=g;have hu:(thn (some ((AV.tup []:AV),(⟨false,[],none,none⟩:DRec),(none:Option<|Nat×AObj))) λp=>okd recs u h p.2.1 p.2.2<|Zm E r us (ZB fr d p.1) (ZH h p.2.2)<|recs++[p.2.1]) =
  bif Zv ⟨false,[],none,none⟩ recs u then Zm E r us (ZB fr d<|.tup []) h (recs++[⟨false,[],none,none⟩])else none:=by
  simp only[ZM,okd,Ya,ZWW,ZH]
 cases g with
 |bool c=>
  cases b<;>cases c
  .exact VS.symm
  .exact hu
  .exact hu
  .exact VS.symm
 |tup vs=>
  cases vs with
  |nil=>rw[Dm];exact hu
  |cons v vs=>cases b<;>rfl
 |_=>cases b<;>rfl
noncomputable def dn(E:Env)(p2:List AOper):Option (Fr×Hp)->Option (AExit×Fr×Hp)
 |some (fr,h)=>nrm<|Z9 E p2 fr h
 |none=>none
def O6(p2:List AOper)(fr:Fr)(h:Hp):dn E p2 (some (fr,h))=nrm (Z9 E p2 fr h):=rfl
def O7{un:List (List Nat)}{p1 p2:List AOper}{fr:Fr}{h:Hp}:Zb E (.draw un p1 p2) fr h=dn E p2 (Zm E p1 un fr h []):=by
 rw[Si];cases Zm E p1 un fr h []<;>rfl
def O8(x:DRec)(recs:List DRec):Zv x recs []=true:=(rfl)
def okQ(x:DRec):Option DRec->Bool
 |some y=>Qy x y
 |none=>false
def O9(x:DRec)(recs:List DRec)(j:Nat)(u:List Nat):Zv x recs (j::u)=(okQ x recs[j]?&&Zv x recs u):=by
 simp only[Zv,okQ];cases recs[j]?<;>rfl
def Oa(x y:DRec):okQ x (some y)=Qy x y:=(rfl)
def Ob{d:Option Nat}{x:Arg}{r:List AOper}{u:List Nat}{us:List (List Nat)}{fr:Fr}{h:Hp}{recs:List DRec}:
 Zm E (⟨d,.mv x,none⟩::r) (u::us) fr h recs=bif Zv ⟨false,[],none,none⟩ recs u then Zm E r us (ZB fr d<|ev E fr x) h (recs++[⟨false,[],none,none⟩])else none:=by
 rw[VS,LG rfl];have he:ev E (Z2 (AOp.mv x).slots fr) x=ev E fr x:=by
  cases x<;>first|rfl|skip
  case t n=>simp[AOp.slots,Arg.slots,ev,Z2,get]
 simp only[Z8,he,Zl,ZXo,ZM,okd,Ya,ZWW,ZH];rfl
end Go.AM
namespace Go.AM
open Go
variable {E:Env}
def QD{op:AOp}{fr:Fr}{h:Hp}(hq:X3 op=true)(hc:op.isCall=false):Za E op fr h=⟨false,opT E (Z2 op.slots fr) op,none,none⟩:=by
 have hd:Za E op fr h=QG E (Z2 op.slots fr) h op (match Z8 E (Z2 op.slots fr) h h.length op with|some r=>r.2.2|none=>none):=by
  cases op<;>first|rfl|(simp[AOp.isCall]at hc)
 have hn:(match Z8 E (Z2 op.slots fr) h h.length op with|some r=>r.2.2|none=>none)=none:=by
  cases he:Z8 E (Z2 op.slots fr) h h.length op with
  |none=>rfl
  |some r=>obtain⟨v,rs,wr⟩:=r;exact Lm hq he
 rw[hd,hn];cases op<;>first|rfl|(simp[X3]at hq)
def bxr(h:Hp)(b:Bool):DRec:=bif b then⟨false,[],some h.length,none⟩else⟨false,[],none,none⟩
def Oc(h:Hp):bxr h true=⟨false,[],some h.length,none⟩:=rfl
def Od{sz:Nat}{x:Arg}{fr:Fr}{h:Hp}:Za E (.box sz x) fr h=bxr h (fits sz<|ev E (Z2 x.slots fr) x):=by
 simp only[Za,Z8,AOp.slots];cases fits sz (ev E (Z2 x.slots fr) x)<;>rfl
def str(a:AV):Option (AV×Hp)->DRec
 |some _=>⟨false,Zs a,(Zs a).head?,none⟩
 |none=>⟨false,Zs a,none,none⟩
def Oe(b i off g:Nat)(p:AV×Hp):str (.ptr b i off g) (some p)=⟨false,[b],some b,none⟩:=rfl
def Of{n:Nat}{a x:Arg}{fr:Fr}{h:Hp}:Za E (.store n a x) fr h=str (ev E (Z2 (a.slots++x.slots) fr) a) (stV h n (ev E (Z2 (a.slots++x.slots) fr) x)<|ev E (Z2 (a.slots++x.slots) fr) a):=by
 have hd:Za E (.store n a x) fr h=QG E (Z2 (a.slots++x.slots) fr) h (.store n a x) (match Z8 E (Z2 (a.slots++x.slots) fr) h h.length (.store n a x)with|some r=>r.2.2|none=>none):=rfl
 rw[hd];have h1:=@LR E none n a x [] (Z2 (a.slots++x.slots) fr) h;rw[V9,GE rfl]at h1;generalize Z2 (a.slots++x.slots) fr=f at h1⊢;have hr:∀wr,QG E f h (.store n a x) wr=⟨false,Zs<|ev E f a,wr.map (·.1),none⟩:=λwr=>rfl
 rw[hr];cases he:Z8 E f h h.length (.store n a x)with
 |none=>
  rw[he]at h1;cases hs:stV h n (ev E f x) (ev E f a)with
  |none=>rfl
  |some p=>obtain⟨v,h2⟩:=p;rw[hs]at h1;simp only[LA,LI,KZ,RH]at h1;cases h1
 |some r=>
  rw[he]at h1;cases hs:stV h n (ev E f x) (ev E f a)with
  |none=>rw[hs]at h1;simp only[ZM,KZ,RH,stw,LA]at h1;cases h1
  |some p=>
   obtain⟨v,rs,wr⟩:=r;simp only[Z8]at he;cases hv:ev E f a with
   |ptr b i off g=>
    rw[hv]at he;simp only at he;have:wr.map (·.1)=some b:=by
     repeat' (split at he)
     all_goals try simp only[cond]at he
     all_goals (repeat' (split at he))
     all_goals first|(cases he;done)|(cases he;rfl)
    simp only[str,Zs,List.head?_cons,this]
   |_=>rw[hv]at he;cases he
def wrB:Option Zt->Option Nat
 |some r=>r.2.2.map (·.1)
 |none=>none
def Og{fz:Bool}{sz bytes:Nat}{s x:Arg}{fr:Fr}{h:Hp}:Za E (.app fz sz bytes s x) fr h =
 ⟨false,Zs (ev E (Z2 (s.slots++x.slots) fr) s)++Zs (ev E (Z2 (s.slots++x.slots) fr) x),wrB<|Qt h h.length fz sz bytes (ev E (Z2 (s.slots++x.slots) fr) s)<|ev E (Z2 (s.slots++x.slots) fr) x,none⟩:=by
 simp only[Za,Z8,AOp.slots,QG,Wm,opT];cases Qt h h.length fz sz bytes (ev E (Z2 (s.slots++x.slots) fr) s) (ev E (Z2 (s.slots++x.slots) fr) x)<;>rfl
def ZA2{sz bytes:Nat}{s x:Arg}{fr:Fr}{h:Hp}:Za E (.apr sz bytes s x) fr h =
 ⟨false,Zs (ev E (Z2 (s.slots++x.slots) fr) s)++Zs (ev E (Z2 (s.slots++x.slots) fr) x),wrB<|Zwk h sz bytes (ev E (Z2 (s.slots++x.slots) fr) s)<|ev E (Z2 (s.slots++x.slots) fr) x,none⟩:=by
 simp only[Za,Z8,AOp.slots,QG,Wm,opT,Zwk];generalize Qt h h.length false sz bytes (ev E (Z2 (s.slots++x.slots) fr) s) (ev E (Z2 (s.slots++x.slots) fr) x)=q;cases q with
 |none=>rfl
 |some r=>dsimp only;cases ZvE h r<;>rfl
def ZA3{sz bytes:Nat}{s x:Arg}{d:Option Nat}{r:List AOper}{u:List Nat}{us:List (List Nat)}{fr:Fr}{h:Hp}{recs:List DRec}:Zm E (⟨d,(.apr sz bytes s x),none⟩::r) (u::us) fr h recs=dk E d r us (Zv (Za E (.apr sz bytes s x) fr h) recs u) fr recs (Za E (.apr sz bytes s x) fr h) (Z9 E [⟨some 0,(.apr sz bytes s x),none⟩] (Z2 (AOp.slots<|.apr sz bytes s x) fr) h):=Qb rfl
attribute [go_sem] ZA3 ZA2
def Oh{fr:Fr}{h:Hp}:Za E .mkm fr h=⟨false,[],some h.length,none⟩:=rfl
def Oi{p:Bool}{f:Nat}{args:List Arg}{fr:Fr}{h:Hp}:Za E (.call p f args) fr h=ZOd h (evs E fr args):=rfl
def ZQ6(h:Hp)(args:List AV):ZOd h args=cRc h args (Zi args):=rfl
def ZSw(h:Hp)(args:List AV):cRc h args true=⟨false,[],none,none⟩:=rfl
def ZQ7(h:Hp)(args:List AV):cRc h args false=bif ZOl h args then⟨false,ZOz args,none,none⟩else⟨true,[],none,none⟩:=rfl
def ZSx(h:Hp):ZOl h []=true:=rfl
def ZQ8(h:Hp)(v:AV)(r:List AV):ZOl h (v::r)=(so2 h v&&ZOl h r):=rfl
def ZR5(h:Hp)(cs:List AV):so2 h (.agg cs)=ZOH h cs:=rfl
def ZSy(h:Hp)(s:ByteArray):so2 h (.str s)=true:=rfl
def ZSz(h:Hp)(k:IntKind)(n:Int):so2 h (.int k n)=true:=rfl
def ZR6(h:Hp):ZOH h []=true:=rfl
def ZR7(h:Hp)(v:AV)(r:List AV):ZOH h (v::r)=(so1 h v&&ZOH h r):=rfl
def ZSA(h:Hp)(b g o l:Nat)(ex:Bool):so1 h (.sl b g o l ex)=shr h b:=rfl
def ZSB:ZOz []=[]:=rfl
def ZSC(v:AV)(r:List AV):ZOz (v::r)=sh2 v++ZOz r:=rfl
def ZSD(cs:List AV):sh2 (.agg cs)=ZOG cs:=rfl
def ZSE(s:ByteArray):sh2 (.str s)=[]:=rfl
def ZSF(k:IntKind)(n:Int):sh2 (.int k n)=[]:=rfl
def ZSG:ZOG []=[]:=rfl
def ZSH(v:AV)(r:List AV):ZOG (v::r)=sh1 v++ZOG r:=rfl
def ZSI(b g o l:Nat)(ex:Bool):sh1 (.sl b g o l ex)=[b]:=rfl
def ZPx:Option AObj->Bool
 |some (.row _ es)=>Z4 es
 |_=>false
def ZR8(h:Hp)(b:Nat):shr h b=ZPx h[b]?:=by unfold shr ZPx;rfl
def ZR9(sz:Nat)(es:List AV):ZPx (some<|.row sz es)=Z4 es:=rfl
attribute [go_sem] ZQ6 ZSw ZQ7 ZSx ZQ8 ZR5 ZSy ZSz ZR6 ZR7 ZSA ZSB ZSC ZSD ZSE ZSF ZSG ZSH ZSI ZR8 ZR9
def cvr(args:List AV):AV->DRec
 | .clo (.func _) first cap=>⟨!Zi (first++args++cap),[],none,none⟩
 |_=>⟨false,[],none,none⟩
def Oj(args:List AV)(g:Nat)(first cap:List AV):cvr args (.clo (.func g) first cap)=⟨!Zi (first++args++cap),[],none,none⟩:=rfl
def Ok{p:Bool}{x:Arg}{args:List Arg}{fr:Fr}{h:Hp}:Za E (.callv p x args) fr h=cvr (evs E fr args) (ev E fr x):=by
 simp only[Za];generalize ev E fr x=v;cases v<;>first|rfl|(rename_i fn _ _;cases fn<;>rfl)
def Ol{ex:Bool}{sz:Nat}{z:AV}{n:Nat}{ps:List (Nat×Arg)}{fr:Fr}{h:Hp}:Za E (.bsl true ex sz z n ps) fr h=⟨false,[],none,none⟩:=(QD rfl rfl).trans rfl
def Om{c a b:Arg}{d:Option Nat}{r:List AOper}{u:List Nat}{us:List (List Nat)}{fr:Fr}{h:Hp}{recs:List DRec}:Zm E (⟨d,(.pick c a b),none⟩::r) (u::us) fr h recs=dk E d r us (Zv (Za E (.pick c a b) fr h) recs u) fr recs (Za E (.pick c a b) fr h) (Z9 E [⟨some 0,(.pick c a b),none⟩] (Z2 (AOp.slots<|.pick c a b) fr) h):=Qb rfl
def Oo{c a b:Arg}{fr:Fr}{h:Hp}:Za E (.pick c a b) fr h=⟨false,opT E (Z2 (AOp.slots<|.pick c a b) fr)<|.pick c a b,none,none⟩:=QD rfl rfl
def Oq{sz:Nat}{x:Arg}{d:Option Nat}{r:List AOper}{u:List Nat}{us:List (List Nat)}{fr:Fr}{h:Hp}{recs:List DRec}:Zm E (⟨d,(.box sz x),none⟩::r) (u::us) fr h recs=dk E d r us (Zv (Za E (.box sz x) fr h) recs u) fr recs (Za E (.box sz x) fr h) (Z9 E [⟨some 0,(.box sz x),none⟩] (Z2 (AOp.slots<|.box sz x) fr) h):=Qb rfl
def Ot{sz:Nat}{x:Arg}{d:Option Nat}{r:List AOper}{u:List Nat}{us:List (List Nat)}{fr:Fr}{h:Hp}{recs:List DRec}:Zm E (⟨d,(.ibox sz x),none⟩::r) (u::us) fr h recs=dk E d r us (Zv (Za E (.ibox sz x) fr h) recs u) fr recs (Za E (.ibox sz x) fr h) (Z9 E [⟨some 0,(.ibox sz x),none⟩] (Z2 (AOp.slots<|.ibox sz x) fr) h):=Qb rfl
def Ou{z:List AV}{ps:List (Nat×Nat×Arg)}{d:Option Nat}{r:List AOper}{u:List Nat}{us:List (List Nat)}{fr:Fr}{h:Hp}{recs:List DRec}:Zm E (⟨d,(.build z ps),none⟩::r) (u::us) fr h recs=dk E d r us (Zv (Za E (.build z ps) fr h) recs u) fr recs (Za E (.build z ps) fr h) (Z9 E [⟨some 0,(.build z ps),none⟩] (Z2 (AOp.slots<|.build z ps) fr) h):=Qb rfl
def Ov{z:List AV}{ps:List (Nat×Nat×Arg)}{fr:Fr}{h:Hp}:Za E (.build z ps) fr h=⟨false,opT E (Z2 (AOp.slots<|.build z ps) fr)<|.build z ps,none,none⟩:=QD rfl rfl
def Ow{fz ex:Bool}{sz:Nat}{z:AV}{n:Nat}{ps:List (Nat×Arg)}{d:Option Nat}{r:List AOper}{u:List Nat}{us:List (List Nat)}{fr:Fr}{h:Hp}{recs:List DRec}:Zm E (⟨d,(.bsl fz ex sz z n ps),none⟩::r) (u::us) fr h recs=dk E d r us (Zv (Za E (.bsl fz ex sz z n ps) fr h) recs u) fr recs (Za E (.bsl fz ex sz z n ps) fr h) (Z9 E [⟨some 0,(.bsl fz ex sz z n ps),none⟩] (Z2 (AOp.slots<|.bsl fz ex sz z n ps) fr) h):=Qb rfl
def Ox{n:Option Nat}{x:Arg}{d:Option Nat}{r:List AOper}{u:List Nat}{us:List (List Nat)}{fr:Fr}{h:Hp}{recs:List DRec}:Zm E (⟨d,(.load n x),none⟩::r) (u::us) fr h recs=dk E d r us (Zv (Za E (.load n x) fr h) recs u) fr recs (Za E (.load n x) fr h) (Z9 E [⟨some 0,(.load n x),none⟩] (Z2 (AOp.slots<|.load n x) fr) h):=Qb rfl
def Oy{n:Option Nat}{x:Arg}{fr:Fr}{h:Hp}:Za E (.load n x) fr h=⟨false,opT E (Z2 (AOp.slots<|.load n x) fr)<|.load n x,none,none⟩:=QD rfl rfl
def Oz{n:Nat}{a x:Arg}{d:Option Nat}{r:List AOper}{u:List Nat}{us:List (List Nat)}{fr:Fr}{h:Hp}{recs:List DRec}:Zm E (⟨d,(.store n a x),none⟩::r) (u::us) fr h recs=dk E d r us (Zv (Za E (.store n a x) fr h) recs u) fr recs (Za E (.store n a x) fr h) (Z9 E [⟨some 0,(.store n a x),none⟩] (Z2 (AOp.slots<|.store n a x) fr) h):=Qb rfl
def OA{x:Arg}{d:Option Nat}{r:List AOper}{u:List Nat}{us:List (List Nat)}{fr:Fr}{h:Hp}{recs:List DRec}:Zm E (⟨d,(.nilck x),none⟩::r) (u::us) fr h recs=dk E d r us (Zv (Za E (.nilck x) fr h) recs u) fr recs (Za E (.nilck x) fr h) (Z9 E [⟨some 0,(.nilck x),none⟩] (Z2 (AOp.slots<|.nilck x) fr) h):=Qb rfl
def OB{x:Arg}{fr:Fr}{h:Hp}:Za E (.nilck x) fr h=⟨false,opT E (Z2 (AOp.slots<|.nilck x) fr)<|.nilck x,none,none⟩:=QD rfl rfl
def OC{f:BinOp}{x y:Arg}{d:Option Nat}{r:List AOper}{u:List Nat}{us:List (List Nat)}{fr:Fr}{h:Hp}{recs:List DRec}:Zm E (⟨d,(.bin f x y),none⟩::r) (u::us) fr h recs=dk E d r us (Zv (Za E (.bin f x y) fr h) recs u) fr recs (Za E (.bin f x y) fr h) (Z9 E [⟨some 0,(.bin f x y),none⟩] (Z2 (AOp.slots<|.bin f x y) fr) h):=Qb rfl
def OD{f:BinOp}{x y:Arg}{fr:Fr}{h:Hp}:Za E (.bin f x y) fr h=⟨false,opT E (Z2 (AOp.slots<|.bin f x y) fr)<|.bin f x y,none,none⟩:=QD rfl rfl
def OE{neg ag:Bool}{ks:List Nat}{x y:Arg}{d:Option Nat}{r:List AOper}{u:List Nat}{us:List (List Nat)}{fr:Fr}{h:Hp}{recs:List DRec}:Zm E (⟨d,(.eqv neg ag ks x y),none⟩::r) (u::us) fr h recs=dk E d r us (Zv (Za E (.eqv neg ag ks x y) fr h) recs u) fr recs (Za E (.eqv neg ag ks x y) fr h) (Z9 E [⟨some 0,(.eqv neg ag ks x y),none⟩] (Z2 (AOp.slots<|.eqv neg ag ks x y) fr) h):=Qb rfl
def OF{neg ag:Bool}{ks:List Nat}{x y:Arg}{fr:Fr}{h:Hp}:Za E (.eqv neg ag ks x y) fr h=⟨false,opT E (Z2 (AOp.slots<|.eqv neg ag ks x y) fr)<|.eqv neg ag ks x y,none,none⟩:=QD rfl rfl
def OG{f:UnOp}{x:Arg}{d:Option Nat}{r:List AOper}{u:List Nat}{us:List (List Nat)}{fr:Fr}{h:Hp}{recs:List DRec}:Zm E (⟨d,(.un f x),none⟩::r) (u::us) fr h recs=dk E d r us (Zv (Za E (.un f x) fr h) recs u) fr recs (Za E (.un f x) fr h) (Z9 E [⟨some 0,(.un f x),none⟩] (Z2 (AOp.slots<|.un f x) fr) h):=Qb rfl
def OH{f:UnOp}{x:Arg}{fr:Fr}{h:Hp}:Za E (.un f x) fr h=⟨false,opT E (Z2 (AOp.slots<|.un f x) fr)<|.un f x,none,none⟩:=QD rfl rfl
def OI{k:Option IntKind}{x:Arg}{d:Option Nat}{r:List AOper}{u:List Nat}{us:List (List Nat)}{fr:Fr}{h:Hp}{recs:List DRec}:Zm E (⟨d,(.conv k x),none⟩::r) (u::us) fr h recs=dk E d r us (Zv (Za E (.conv k x) fr h) recs u) fr recs (Za E (.conv k x) fr h) (Z9 E [⟨some 0,(.conv k x),none⟩] (Z2 (AOp.slots<|.conv k x) fr) h):=Qb rfl
def OJ{k:Option IntKind}{x:Arg}{fr:Fr}{h:Hp}:Za E (.conv k x) fr h=⟨false,opT E (Z2 (AOp.slots<|.conv k x) fr)<|.conv k x,none,none⟩:=QD rfl rfl
def OK{n:Option Nat}{off:Nat}{x:Arg}{d:Option Nat}{r:List AOper}{u:List Nat}{us:List (List Nat)}{fr:Fr}{h:Hp}{recs:List DRec}:Zm E (⟨d,(.fld n off x),none⟩::r) (u::us) fr h recs=dk E d r us (Zv (Za E (.fld n off x) fr h) recs u) fr recs (Za E (.fld n off x) fr h) (Z9 E [⟨some 0,(.fld n off x),none⟩] (Z2 (AOp.slots<|.fld n off x) fr) h):=Qb rfl
def OL{n:Option Nat}{off:Nat}{x:Arg}{fr:Fr}{h:Hp}:Za E (.fld n off x) fr h=⟨false,opT E (Z2 (AOp.slots<|.fld n off x) fr)<|.fld n off x,none,none⟩:=QD rfl rfl
def OM{off:Nat}{x:Arg}{d:Option Nat}{r:List AOper}{u:List Nat}{us:List (List Nat)}{fr:Fr}{h:Hp}{recs:List DRec}:Zm E (⟨d,(.fadr off x),none⟩::r) (u::us) fr h recs=dk E d r us (Zv (Za E (.fadr off x) fr h) recs u) fr recs (Za E (.fadr off x) fr h) (Z9 E [⟨some 0,(.fadr off x),none⟩] (Z2 (AOp.slots<|.fadr off x) fr) h):=Qb rfl
def ON{off:Nat}{x:Arg}{fr:Fr}{h:Hp}:Za E (.fadr off x) fr h=⟨false,opT E (Z2 (AOp.slots<|.fadr off x) fr)<|.fadr off x,none,none⟩:=QD rfl rfl
def OO{sz:Nat}{x i:Arg}{d:Option Nat}{r:List AOper}{u:List Nat}{us:List (List Nat)}{fr:Fr}{h:Hp}{recs:List DRec}:Zm E (⟨d,(.iadr sz x i),none⟩::r) (u::us) fr h recs=dk E d r us (Zv (Za E (.iadr sz x i) fr h) recs u) fr recs (Za E (.iadr sz x i) fr h) (Z9 E [⟨some 0,(.iadr sz x i),none⟩] (Z2 (AOp.slots<|.iadr sz x i) fr) h):=Qb rfl
def OP{sz:Nat}{x i:Arg}{fr:Fr}{h:Hp}:Za E (.iadr sz x i) fr h=⟨false,opT E (Z2 (AOp.slots<|.iadr sz x i) fr)<|.iadr sz x i,none,none⟩:=QD rfl rfl
def OQ{sz n:Nat}{x i:Arg}{d:Option Nat}{r:List AOper}{u:List Nat}{us:List (List Nat)}{fr:Fr}{h:Hp}{recs:List DRec}:Zm E (⟨d,(.aadr sz n x i),none⟩::r) (u::us) fr h recs=dk E d r us (Zv (Za E (.aadr sz n x i) fr h) recs u) fr recs (Za E (.aadr sz n x i) fr h) (Z9 E [⟨some 0,(.aadr sz n x i),none⟩] (Z2 (AOp.slots<|.aadr sz n x i) fr) h):=Qb rfl
def OR{sz n:Nat}{x i:Arg}{fr:Fr}{h:Hp}:Za E (.aadr sz n x i) fr h=⟨false,opT E (Z2 (AOp.slots<|.aadr sz n x i) fr)<|.aadr sz n x i,none,none⟩:=QD rfl rfl
def OS{x i:Arg}{d:Option Nat}{r:List AOper}{u:List Nat}{us:List (List Nat)}{fr:Fr}{h:Hp}{recs:List DRec}:Zm E (⟨d,(.sidx x i),none⟩::r) (u::us) fr h recs=dk E d r us (Zv (Za E (.sidx x i) fr h) recs u) fr recs (Za E (.sidx x i) fr h) (Z9 E [⟨some 0,(.sidx x i),none⟩] (Z2 (AOp.slots<|.sidx x i) fr) h):=Qb rfl
def OT{x i:Arg}{fr:Fr}{h:Hp}:Za E (.sidx x i) fr h=⟨false,opT E (Z2 (AOp.slots<|.sidx x i) fr)<|.sidx x i,none,none⟩:=QD rfl rfl
def OU{n:Option Nat}{sz len:Nat}{x i:Arg}{d:Option Nat}{r:List AOper}{u:List Nat}{us:List (List Nat)}{fr:Fr}{h:Hp}{recs:List DRec}:Zm E (⟨d,(.aidx n sz len x i),none⟩::r) (u::us) fr h recs=dk E d r us (Zv (Za E (.aidx n sz len x i) fr h) recs u) fr recs (Za E (.aidx n sz len x i) fr h) (Z9 E [⟨some 0,(.aidx n sz len x i),none⟩] (Z2 (AOp.slots<|.aidx n sz len x i) fr) h):=Qb rfl
def OV{n:Option Nat}{sz len:Nat}{x i:Arg}{fr:Fr}{h:Hp}:Za E (.aidx n sz len x i) fr h=⟨false,opT E (Z2 (AOp.slots<|.aidx n sz len x i) fr)<|.aidx n sz len x i,none,none⟩:=QD rfl rfl
def OW{x:Arg}{i:Nat}{d:Option Nat}{r:List AOper}{u:List Nat}{us:List (List Nat)}{fr:Fr}{h:Hp}{recs:List DRec}:Zm E (⟨d,(.ext x i),none⟩::r) (u::us) fr h recs=dk E d r us (Zv (Za E (.ext x i) fr h) recs u) fr recs (Za E (.ext x i) fr h) (Z9 E [⟨some 0,(.ext x i),none⟩] (Z2 (AOp.slots<|.ext x i) fr) h):=Qb rfl
def OX{x:Arg}{i:Nat}{fr:Fr}{h:Hp}:Za E (.ext x i) fr h=⟨false,opT E (Z2 (AOp.slots<|.ext x i) fr)<|.ext x i,none,none⟩:=QD rfl rfl
def OY{fn:Fn}{f c:List Arg}{d:Option Nat}{r:List AOper}{u:List Nat}{us:List (List Nat)}{fr:Fr}{h:Hp}{recs:List DRec}:Zm E (⟨d,(.mkf fn f c),none⟩::r) (u::us) fr h recs=dk E d r us (Zv (Za E (.mkf fn f c) fr h) recs u) fr recs (Za E (.mkf fn f c) fr h) (Z9 E [⟨some 0,(.mkf fn f c),none⟩] (Z2 (AOp.slots<|.mkf fn f c) fr) h):=Qb rfl
def OZ{fn:Fn}{f c:List Arg}{fr:Fr}{h:Hp}:Za E (.mkf fn f c) fr h=⟨false,opT E (Z2 (AOp.slots<|.mkf fn f c) fr)<|.mkf fn f c,none,none⟩:=QD rfl rfl
def P0{d:Option Nat}{r:List AOper}{u:List Nat}{us:List (List Nat)}{fr:Fr}{h:Hp}{recs:List DRec}:Zm E (⟨d,.mkm,none⟩::r) (u::us) fr h recs=dk E d r us (Zv (Za E .mkm fr h) recs u) fr recs (Za E .mkm fr h) (Z9 E [⟨some 0,.mkm,none⟩] (Z2 (AOp.slots .mkm) fr) h):=Qb rfl
def P1{ag:Bool}{ks:List Nat}{m k v:Arg}{d:Option Nat}{r:List AOper}{u:List Nat}{us:List (List Nat)}{fr:Fr}{h:Hp}{recs:List DRec}:Zm E (⟨d,(.ins ag ks m k v),none⟩::r) (u::us) fr h recs=dk E d r us (Zv (Za E (.ins ag ks m k v) fr h) recs u) fr recs (Za E (.ins ag ks m k v) fr h) (Z9 E [⟨some 0,(.ins ag ks m k v),none⟩] (Z2 (AOp.slots<|.ins ag ks m k v) fr) h):=Qb rfl
def P2{ag:Bool}{ks:List Nat}{m k v:Arg}{d:Option Nat}{r:List AOper}{u:List Nat}{us:List (List Nat)}{fr:Fr}{h:Hp}{recs:List DRec}:Zm E (⟨d,(.mupd ag ks m k v),none⟩::r) (u::us) fr h recs=dk E d r us (Zv (Za E (.mupd ag ks m k v) fr h) recs u) fr recs (Za E (.mupd ag ks m k v) fr h) (Z9 E [⟨some 0,(.mupd ag ks m k v),none⟩] (Z2 (AOp.slots<|.mupd ag ks m k v) fr) h):=Qb rfl
def P3{ag ok:Bool}{ks:List Nat}{z:AV}{m k:Arg}{d:Option Nat}{r:List AOper}{u:List Nat}{us:List (List Nat)}{fr:Fr}{h:Hp}{recs:List DRec}:Zm E (⟨d,(.lkp ag ks ok z m k),none⟩::r) (u::us) fr h recs=dk E d r us (Zv (Za E (.lkp ag ks ok z m k) fr h) recs u) fr recs (Za E (.lkp ag ks ok z m k) fr h) (Z9 E [⟨some 0,(.lkp ag ks ok z m k),none⟩] (Z2 (AOp.slots<|.lkp ag ks ok z m k) fr) h):=Qb rfl
def P4{ag ok:Bool}{ks:List Nat}{z:AV}{m k:Arg}{fr:Fr}{h:Hp}:Za E (.lkp ag ks ok z m k) fr h=⟨false,opT E (Z2 (AOp.slots<|.lkp ag ks ok z m k) fr)<|.lkp ag ks ok z m k,none,none⟩:=QD rfl rfl
def P5{sz:Nat}{x:Arg}{lo hi mx:Option Arg}{d:Option Nat}{r:List AOper}{u:List Nat}{us:List (List Nat)}{fr:Fr}{h:Hp}{recs:List DRec}:Zm E (⟨d,(.slc sz x lo hi mx),none⟩::r) (u::us) fr h recs=dk E d r us (Zv (Za E (.slc sz x lo hi mx) fr h) recs u) fr recs (Za E (.slc sz x lo hi mx) fr h) (Z9 E [⟨some 0,(.slc sz x lo hi mx),none⟩] (Z2 (AOp.slots<|.slc sz x lo hi mx) fr) h):=Qb rfl
def P6{sz:Nat}{x:Arg}{lo hi mx:Option Arg}{fr:Fr}{h:Hp}:Za E (.slc sz x lo hi mx) fr h=⟨false,opT E (Z2 (AOp.slots<|.slc sz x lo hi mx) fr)<|.slc sz x lo hi mx,none,none⟩:=QD rfl rfl
def P7{x:Arg}{lo hi:Option Arg}{d:Option Nat}{r:List AOper}{u:List Nat}{us:List (List Nat)}{fr:Fr}{h:Hp}{recs:List DRec}:Zm E (⟨d,(.ssl x lo hi),none⟩::r) (u::us) fr h recs=dk E d r us (Zv (Za E (.ssl x lo hi) fr h) recs u) fr recs (Za E (.ssl x lo hi) fr h) (Z9 E [⟨some 0,(.ssl x lo hi),none⟩] (Z2 (AOp.slots<|.ssl x lo hi) fr) h):=Qb rfl
def P8{x:Arg}{lo hi:Option Arg}{fr:Fr}{h:Hp}:Za E (.ssl x lo hi) fr h=⟨false,opT E (Z2 (AOp.slots<|.ssl x lo hi) fr)<|.ssl x lo hi,none,none⟩:=QD rfl rfl
def P9{k:Nat}{x:Arg}{d:Option Nat}{r:List AOper}{u:List Nat}{us:List (List Nat)}{fr:Fr}{h:Hp}{recs:List DRec}:Zm E (⟨d,(.len k x),none⟩::r) (u::us) fr h recs=dk E d r us (Zv (Za E (.len k x) fr h) recs u) fr recs (Za E (.len k x) fr h) (Z9 E [⟨some 0,(.len k x),none⟩] (Z2 (AOp.slots<|.len k x) fr) h):=Qb rfl
def Pa{k:Nat}{x:Arg}{fr:Fr}{h:Hp}:Za E (.len k x) fr h=⟨false,opT E (Z2 (AOp.slots<|.len k x) fr)<|.len k x,none,none⟩:=QD rfl rfl
def Pb{fz:Bool}{sz bytes:Nat}{s x:Arg}{d:Option Nat}{r:List AOper}{u:List Nat}{us:List (List Nat)}{fr:Fr}{h:Hp}{recs:List DRec}:Zm E (⟨d,(.app fz sz bytes s x),none⟩::r) (u::us) fr h recs=dk E d r us (Zv (Za E (.app fz sz bytes s x) fr h) recs u) fr recs (Za E (.app fz sz bytes s x) fr h) (Z9 E [⟨some 0,(.app fz sz bytes s x),none⟩] (Z2 (AOp.slots<|.app fz sz bytes s x) fr) h):=Qb rfl
def Pc{t:TypeId}{x:Arg}{d:Option Nat}{r:List AOper}{u:List Nat}{us:List (List Nat)}{fr:Fr}{h:Hp}{recs:List DRec}:Zm E (⟨d,(.mkif t x),none⟩::r) (u::us) fr h recs=dk E d r us (Zv (Za E (.mkif t x) fr h) recs u) fr recs (Za E (.mkif t x) fr h) (Z9 E [⟨some 0,(.mkif t x),none⟩] (Z2 (AOp.slots<|.mkif t x) fr) h):=Qb rfl
def Pd{t:TypeId}{x:Arg}{fr:Fr}{h:Hp}:Za E (.mkif t x) fr h=⟨false,opT E (Z2 (AOp.slots<|.mkif t x) fr)<|.mkif t x,none,none⟩:=QD rfl rfl
def Pe{mx:Bool}{x y:Arg}{d:Option Nat}{r:List AOper}{u:List Nat}{us:List (List Nat)}{fr:Fr}{h:Hp}{recs:List DRec}:Zm E (⟨d,(.mm mx x y),none⟩::r) (u::us) fr h recs=dk E d r us (Zv (Za E (.mm mx x y) fr h) recs u) fr recs (Za E (.mm mx x y) fr h) (Z9 E [⟨some 0,(.mm mx x y),none⟩] (Z2 (AOp.slots<|.mm mx x y) fr) h):=Qb rfl
def Pf{mx:Bool}{x y:Arg}{fr:Fr}{h:Hp}:Za E (.mm mx x y) fr h=⟨false,opT E (Z2 (AOp.slots<|.mm mx x y) fr)<|.mm mx x y,none,none⟩:=QD rfl rfl
def Pg{sz:Nat}{d:Option Nat}{r:List AOper}{u:List Nat}{us:List (List Nat)}{fr:Fr}{h:Hp}{recs:List DRec}:Zm E (⟨d,(.own sz),none⟩::r) (u::us) fr h recs=dk E d r us (Zv (Za E (.own sz) fr h) recs u) fr recs (Za E (.own sz) fr h) (Z9 E [⟨some 0,(.own sz),none⟩] (Z2 (AOp.slots<|.own sz) fr) h):=Qb rfl
def Ph{x:Arg}{d:Option Nat}{r:List AOper}{u:List Nat}{us:List (List Nat)}{fr:Fr}{h:Hp}{recs:List DRec}:Zm E (⟨d,(.rel x),none⟩::r) (u::us) fr h recs=dk E d r us (Zv (Za E (.rel x) fr h) recs u) fr recs (Za E (.rel x) fr h) (Z9 E [⟨some 0,(.rel x),none⟩] (Z2 (AOp.slots<|.rel x) fr) h):=Qb rfl
attribute [go_sem] Om Oo Oq Ot Ou Ov Ow Ox Oy Oz OA OB OC OD OE OF OG OH OI OJ OK OL OM ON OO OP OQ OR OS OT OU OV OW OX OY OZ P0 P1 P2 P3 P4 P5 P6 P7 P8 P9 Pa Pb Pc Pd Pe Pf Pg Ph Od Of Og Oh Oi Ok Ol Oc Oe Oj Ob IZ O0 O5 O1 O2 O3 O4 Dm IY S8 O7 O6 O8 O9 Oa
 AOp.slots Arg.slots Xp Ko opT Zs
end Go.AM
namespace Go.AM
open Go
variable {E:Env}
def rlO(h:Hp)(b g off len:Nat)(ex:Bool):Option (Nat×List AV)->Option (AV×Hp)
 |some (sz,es)=>bif Z4 es then some (.isl false ex sz<|(es.drop off).take len,setH h b .gone)else none
 |none=>none
def Pi(h:Hp)(b g off len:Nat)(ex:Bool)(sz:Nat)(es:List AV)(hc:Z4 es=true):rlO h b g off len ex (some (sz,es))=some (.isl false ex sz<|(es.drop off).take len,setH h b .gone):=by simp[rlO,hc]
def rlV(h:Hp):AV->Option (AV×Hp)
 | .sl b g off len ex=>rlO h b g off len ex<|rowAt h b g
 |v=>bif (Zs v).isEmpty then some (v,h)else none
def Pj(h:Hp)(bw ex:Bool)(sz:Nat)(es:List AV):rlV h (.isl bw ex sz es)=some (.isl bw ex sz es,h):=(rfl)
def Pl(h:Hp)(b g off len:Nat)(ex:Bool):rlV h (.sl b g off len ex)=rlO h b g off len ex (rowAt h b g):=(rfl)
def Pm{d:Option Nat}{x:Arg}{r:List AOper}{fr:Fr}{h:Hp}:Z9 E (⟨d,.rel x,none⟩::r) fr h=stw E r d fr (rlV h<|ev E fr x):=
 X9 rfl (by
  simp only[Z8];generalize ev E fr x=v;cases v<;>first|rfl|skip
  case sl b g off len ex=>
   simp only[rlV,rowAt,rlO];cases h[b]? with
   |none=>rfl
   |some o=>
    cases o<;>first|rfl|skip
    case row sz es=>
     dsimp only;cases hg:(es.length==g)
     .rfl
     .cases hc:Z4 es<;>simp[hc,ZH]<;>rfl)
attribute [go_sem] Pi Pj Pl Pm
def Zwr(cs:List AV)(c:Nat):Option (AV×Hp)->Option (AV×Hp)
 |some p=>some (.agg<|cs.set c p.1,p.2)
 |none=>none
def ZA4(cs:List AV)(c:Nat)(v:AV)(h:Hp):Zwr cs c (some (v,h))=some (.agg<|cs.set c v,h):=rfl
def ZwU(h:Hp)(cs:List AV)(c b2 g off len:Nat)(ex:Bool)(q:Bool):Option (AV×Hp):=bif q then Zwr cs c (rlV h<|.sl b2 g off len ex)else none
def Zyk(h:Hp)(cs:List AV)(c b2 g off len:Nat)(ex:Bool):ZwU h cs c b2 g off len ex true=Zwr cs c (rlV h<|.sl b2 g off len ex):=rfl
def ZwV(h:Hp)(b:Nat)(cs:List AV)(c:Nat):Option AV->Option (AV×Hp)
 |some (.sl b2 g off len ex)=>ZwU h cs c b2 g off len ex<|b2==b+1
 |_=>none
def Zyl(h:Hp)(b:Nat)(cs:List AV)(c b2 g off len:Nat)(ex:Bool):ZwV h b cs c (some<|.sl b2 g off len ex)=ZwU h cs c b2 g off len ex (b2==b+1):=rfl
def Zws(h:Hp)(b c:Nat):Option AV->Option (AV×Hp)
 |some (.agg cs)=>ZwV h b cs c cs[c]?
 |_=>none
def Zym(h:Hp)(b c:Nat)(cs:List AV):Zws h b c (some<|.agg cs)=ZwV h b cs c cs[c]?:=rfl
def Zyn(h:Hp)(n c:Nat):AV->Option (AV×Hp)
 | .ptr b i off g=>Zws h b c<|ldV h (some n)<|.ptr b i off g
 |_=>none
def Zyo(h:Hp)(n c b i off g:Nat):Zyn h n c (.ptr b i off g)=Zws h b c (ldV h (some n)<|.ptr b i off g):=rfl
def ZA5(h:Hp)(b c:Nat)(u:AV):(thn (ZvH h b c u) λx=>some (x.1,ZH h x.2.2))=Zws h b c (some u):=by
 cases u<;>first|rfl|skip
 case agg cs=>
  rw[Zym];unfold ZvH;dsimp only;cases cs[c]? with
  |none=>rfl
  |some q=>
   cases q<;>first|rfl|skip
   case sl b2 g off len ex=>
    rw[Zyl];dsimp only;cases hbb:(b2==b+1)with
    |false=>rfl
    |true=>
     have hbe:b2=b+1:=by simpa using hbb
     subst hbe;rw[Zyk];simp only[cond_true,rlV,rowAt,rlO];cases h[b+1]? with
     |none=>rfl
     |some o=>
      cases o<;>first|rfl|skip
      case row sz es=>
       dsimp only;cases hg:(es.length==g)
       .rfl
       .cases hc:Z4 es<;>simp[hc,ZH,Zwr]<;>rfl
def ZA6{d:Option Nat}{n c:Nat}{x:Arg}{r:List AOper}{fr:Fr}{h:Hp}:Z9 E (⟨d,.ldr n c x,none⟩::r) fr h=stw E r d fr (Zyn h n c<|ev E fr x):=
 X9 rfl (by
  simp only[Z8];generalize ev E fr x=v;cases v<;>first|rfl|skip
  case ptr b i off g=>
   rw[Zyo,Az];simp only[rowAt];cases h[b]? with
   |none=>rfl
   |some o=>
    cases o<;>first|rfl|skip
    case row sz es=>
     dsimp only;cases hg:(es.length==g)
     .rfl
     .simp only[cond_true,ldE];cases es[i]? with
      |none=>rfl
      |some e=>
       simp only[ZM];cases takeC (some n) (e.cells.drop off)with
       |none=>rfl
       |some u=>exact ZA5 h b c u)
attribute [go_sem] ZA4 Zyk Zyl Zym Zyo ZA6
mutual
def msz:AV->Nat
 | .agg cs=>1+QJ cs
 | .tup cs=>1+QJ cs
 | .clo _ a c=>1+QJ a+QJ c
 | .ifc _ v=>1+msz v
 |_=>1
def QJ:List AV->Nat
 |[]=>1
 |v::r=>1+msz v+QJ r
end
mutual
def Dn{h:Hp}:∀(n:Nat)(v:AV),Zy v=true->msz v<=n->freeze true h n v=some v
 |0,v,_,hm=>by cases v<;>simp[msz]at hm<;>omega
 |n+1,v,hn,hm=>by
  cases hc:clean v with
  |true=>unfold freeze;rw[hc];rfl
  |false=>
   unfold freeze;rw[hc,cond_false];cases v with
   |agg cs=>
    have:=Jb (h:=h) n cs hn<|by simp[msz]at hm;omega
    simp only[this,ZXo]
   |tup cs=>
    have:=Jb (h:=h) n cs hn<|by simp[msz]at hm;omega
    simp only[this,ZXo]
   |ifc t x=>
    have:=Dn (h:=h) n x hn<|by simp[msz]at hm;omega
    simp only[this,ZXo]
   |clo fn a c=>
    have hn':Zi a=true/\Zi c=true:=by simpa[Zy]using hn
    have h1:=Jb (h:=h) n a hn'.1<|by simp[msz]at hm;omega
    have h2:=Jb (h:=h) n c hn'.2<|by simp[msz]at hm;omega
    simp only[h1,h2]
   |iptr bw cs=>cases bw<;>first|rfl|(simp[clean]at hc)
   |isl bw ex sz es=>cases bw<;>first|rfl|(simp[clean]at hc)
   |imap bw ks vs=>cases bw<;>first|rfl|(simp[clean]at hc)
   |ptr b i off g=>simp[Zy]at hn
   |sl b g off len ex=>simp[Zy]at hn
   |mp b=>simp[Zy]at hn
   |it b=>simp[Zy]at hn
   |yld b=>simp[Zy]at hn
   |_=>simp[clean]at hc
def Jb{h:Hp}:∀(n:Nat)(v:List AV),Zi v=true->QJ v<=n->ZC true h n v=some v
 |0,v,_,hm=>by cases v<;>simp[QJ]at hm<;>omega
 |n+1,v,hn,hm=>by
  cases hc:Z4 v with
  |true=>unfold ZC;rw[hc];rfl
  |false=>
   unfold ZC;rw[hc,cond_false];cases v with
   |nil=>rfl
   |cons x r=>
    have hn':Zy x=true/\Zi r=true:=by simpa[Zi]using hn
    have h1:=Dn (h:=h) n x hn'.1<|by simp[QJ]at hm;omega
    have h2:=Jb (h:=h) n r hn'.2<|by simp[QJ]at hm;omega
    simp only[h1,h2]
end
def GQ(h:Hp)(l:List AV)(hn:Zi l=true)(hm:QJ l<=40):Ql h l=some l:=by
 unfold Ql;cases hc:Z4 l with
 |true=>rfl
 |false=>exact Jb 40 l hn hm
def Pn:QJ []=1:=(rfl)
def Po(v:AV)(r:List AV):QJ (v::r)=1+msz v+QJ r:=(rfl)
def Pp(cs:List AV):msz (.agg cs)=1+QJ cs:=(rfl)
def Pq(cs:List AV):msz (.tup cs)=1+QJ cs:=(rfl)
def Pr(fn:Fn)(a c:List AV):msz (.clo fn a c)=1+QJ a+QJ c:=(rfl)
def Ps(b:Bool):msz (.bool b)=1:=(rfl)
def Pu(k:IntKind)(n:Int):msz (.int k n)=1:=(rfl)
def Pv(s:ByteArray):msz (.str s)=1:=(rfl)
def Pw(bw ex:Bool)(sz:Nat)(es:List AV):msz (.isl bw ex sz es)=1:=(rfl)
def Px(bw:Bool)(es:List AV):msz (.iptr bw es)=1:=(rfl)
def Py(bw:Bool)(es vs:List AV):msz (.imap bw es vs)=1:=(rfl)
attribute [go_sem] Pn Po Pp Pq Pr Ps Pu Pv Pw Px Py
attribute [go_sem 1100] GQ
end Go.AM
namespace Go.AM
open Go
variable {E:Env}
def frV(fr:Fr):List AV:=fr.map (·.2)
def Pz(n:Nat):Zd n []=true:=(rfl)
def PA(n:Nat)(v:AV)(r:List AV):Zd n (v::r)=(bel n v&&Zd n r):=(rfl)
def PB(n:Nat):bel n .bot=true:=(rfl)
def PC(n:Nat)(b:Bool):bel n (.bool b)=true:=(rfl)
def PD(n:Nat)(k:IntKind)(i:Int):bel n (.int k i)=true:=(rfl)
def PE(n:Nat)(s:ByteArray):bel n (.str s)=true:=(rfl)
def PF(n:Nat)(bw ex:Bool)(sz:Nat)(es:List AV):bel n (.isl bw ex sz es)=true:=(rfl)
def PG(n:Nat)(bw:Bool)(es:List AV):bel n (.iptr bw es)=true:=(rfl)
def PH(n:Nat)(bw:Bool)(es vs:List AV):bel n (.imap bw es vs)=true:=(rfl)
def PI(n:Nat)(cs:List AV):bel n (.agg cs)=Zd n cs:=(rfl)
def PJ(n:Nat)(cs:List AV):bel n (.tup cs)=Zd n cs:=(rfl)
def PK(n:Nat)(t:TypeId)(v:AV):bel n (.ifc t v)=bel n v:=(rfl)
def PL(n:Nat):bel n .nilif=true:=(rfl)
def PM(n:Nat):bel n .nilp=true:=(rfl)
def PN(n:Nat):bel n .nilfn=true:=(rfl)
def PO(n:Nat)(fn:Fn)(a c:List AV):bel n (.clo fn a c)=(Zd n a&&Zd n c):=(rfl)
def PQ(n b i off g:Nat):bel n (.ptr b i off g)=Nat.blt b n:=(rfl)
def PR(n b g off len:Nat)(ex:Bool):bel n (.sl b g off len ex)=Nat.blt b n:=(rfl)
def PS(n b:Nat):bel n (.mp b)=Nat.blt b n:=(rfl)
def PT(n b:Nat):bel n (.it b)=Nat.blt b n:=(rfl)
def PU(n b:Nat):bel n (.yld b)=Nat.blt b n:=(rfl)
def PV(n sz:Nat)(es:List AV):Zj n (.row sz es)=Zd n es:=(rfl)
def PW(n:Nat)(ks vs:List AV):Zj n (.map ks vs)=(Zd n ks&&Zd n vs):=(rfl)
def PX(n:Nat)(s:ByteArray)(p:Nat):Zj n (.iter s p)=true:=(rfl)
def PY(n:Nat):Zj n .gone=true:=(rfl)
def PZ(n:Nat):Zj n .dead=true:=(rfl)
def Z00(n:Nat)(st:LoopState)(p:AExit)(fr:Fr)(ps:List Nat)(a b:ACode):Zj n (.loop st p fr ps a b)=Zd n (frV fr):=(rfl)
def Z01(n:Nat):X4 n []=true:=(rfl)
def Z02(n:Nat)(o:AObj)(r:List AObj):X4 n (o::r)=(Zj n o&&X4 n r):=(rfl)
def trimB(n:Nat)(h:Hp)(b:Bool):Hp:=bif b then h.take n else h
def Z03(n:Nat)(h:Hp):trimB n h true=h.take n:=(rfl)
def Z04(n:Nat)(h:Hp):trimB n h false=h:=(rfl)
def Z05:frV []=[]:=(rfl)
def Z06(t:Nat)(v:AV)(r:Fr):frV ((t,v)::r)=v::frV r:=(rfl)
def Z07(n:Nat)(fr:Fr)(o:AObj)(h:Hp):Xq n fr (o::h)=trimB n (o::h) (Zd n (frV fr)&&X4 n ((o::h).take n)):=(rfl)
mutual
def Dp{n:Nat}:∀v:AV,clean v=true->bel n v=true
 | .agg cs,h=>ZN cs h
 | .tup cs,h=>ZN cs h
 | .ifc _ v,h=>Dp v h
 | .clo _ a c,h=>by
  have h':Z4 a=true/\Z4 c=true:=by simpa[clean]using h
  simp only[bel,ZN a h'.1,ZN c h'.2,ZX8]
 | .ptr ..,h| .sl ..,h| .mp _,h| .it _,h| .yld _,h=>by simp[clean]at h
 | .bot,_| .bool _,_| .int ..,_| .str _,_| .nilp,_| .nilsl,_| .nilmap,_| .nilfn,_| .nilif,_| .iptr ..,_| .isl ..,_| .imap ..,_=>rfl
def ZN{n:Nat}:∀l:List AV,Z4 l=true->Zd n l=true
 |[],_=>rfl
 |v::r,h=>by
  have h':clean v=true/\Z4 r=true:=by simpa[Z4]using h
  simp only[Zd,Dp v h'.1,ZN r h'.2,ZX8]
end
attribute [go_sem] Pz PA PB PC PD PE PF PG PH PI PJ PK PL PM PN PO PQ PR PS PT PU PV PW PX PY PZ Z00 Z01 Z02
 Z03 Z04 Z05 Z06 Z07 ZYO ZYZ List.take_nil ZXr ZXt ZWQ ZX3 ZX1 ZXm ZXj
def Z08(b:Bool):scalar (.bool b)=true:=(rfl)
def scalar_int(k:IntKind)(n:Int):scalar (.int k n)=true:=(rfl)
def Z09(s:ByteArray):scalar (.str s)=true:=(rfl)
def Z0a(bw ex:Bool)(sz:Nat)(es:List AV):scalar (.isl bw ex sz es)=true:=(rfl)
def Z0b(bw:Bool)(es:List AV):scalar (.iptr bw es)=true:=(rfl)
def Z0c(bw:Bool)(es vs:List AV):scalar (.imap bw es vs)=true:=(rfl)
def Z0d(fn:Fn)(a c:List AV):scalar (.clo fn a c)=true:=(rfl)
def Z0e(b i off g:Nat):scalar (.ptr b i off g)=true:=(rfl)
def Z0f(b g off len:Nat)(ex:Bool):scalar (.sl b g off len ex)=true:=(rfl)
def Z0g(b:Nat):scalar (.mp b)=true:=(rfl)
def Z0h:scalar .nilif=true:=(rfl)
def Z0i:scalar .nilp=true:=(rfl)
def Z0j:scalar .nilfn=true:=(rfl)
def Z0k(sz:Nat)(cs:List AV):fits sz (.agg cs)=(cs.length==sz&&cs.all scalar):=(rfl)
def fits_bool(sz:Nat)(b:Bool):fits sz (.bool b)=(sz==1):=(rfl)
def fits_int(sz:Nat)(k:IntKind)(n:Int):fits sz (.int k n)=(sz==1):=(rfl)
def Z0l(sz:Nat)(s:ByteArray):fits sz (.str s)=(sz==1):=(rfl)
def Z0m(sz:Nat)(bw ex:Bool)(z:Nat)(es:List AV):fits sz (.isl bw ex z es)=(sz==1):=(rfl)
def Z0n(sz:Nat)(b g off len:Nat)(ex:Bool):fits sz (.sl b g off len ex)=(sz==1):=(rfl)
def Z0o(sz:Nat)(b i off g:Nat):fits sz (.ptr b i off g)=(sz==1):=(rfl)
def Z0p(sz:Nat)(bw:Bool)(es:List AV):fits sz (.iptr bw es)=(sz==1):=(rfl)
def Z0q(sz:Nat)(b:Nat):fits sz (.mp b)=(sz==1):=(rfl)
def Z0r(sz:Nat)(fn:Fn)(a c:List AV):fits sz (.clo fn a c)=(sz==1):=(rfl)
attribute [go_sem] Z08 scalar_int Z09 Z0a Z0b Z0c Z0d Z0e Z0f Z0g Z0h Z0i Z0j Z0k fits_bool fits_int Z0l Z0m Z0n Z0o Z0p Z0q Z0r List.all_cons List.all_nil
 List.drop_succ_cons ZXO List.drop_nil
def Ue(a b:Nat):Nat.ble a b=decide (a<=b):=by rw[ZXq];simp
def N7(a b:Nat):Nat.blt a b=decide (a<b):=by rw[ZXq];simp[ZXT]
def Z0s(cs:List AV):fill cs []=some cs:=(rfl)
def Z0t(cs:List AV)(off sz:Nat)(v:AV)(r:List<|Nat×Nat×AV):fill cs ((off,sz,v)::r)=bif fits sz v&&Nat.ble (off+sz) cs.length then fill (cs.take off++v.cells++cs.drop (off+sz)) r else none:=(rfl)
def Z0u(sz:Nat)(cs:List AV):YC sz cs []=some cs:=(rfl)
def Z0v(sz:Nat)(cs:List AV)(i:Nat)(v:AV)(r:List<|Nat×AV):YC sz cs ((i,v)::r)=bif fits sz v&&Nat.blt i cs.length then YC sz (cs.set i v) r else none:=(rfl)
attribute [go_sem] Ue N7 Z0s Z0t Z0u Z0v List.set_cons_zero List.set_cons_succ List.set_nil List.replicate_succ List.replicate_zero
def Z0w(a1 a2:Bool)(r1 r2:List Nat)(k1 k2:Option<|AV×AV):Qy ⟨a1,r1,none,k1⟩ ⟨a2,r2,none,k2⟩=true:=(rfl)
def Z0x(a1 a2:Bool)(r1 r2:List Nat)(b:Nat)(k1 k2:Option<|AV×AV):Qy ⟨a1,r1,some b,k1⟩ ⟨a2,r2,none,k2⟩=(!a2&&!r2.contains b):=by simp[Qy]
def Z0y(a1 a2:Bool)(r1 r2:List Nat)(b:Nat)(k1 k2:Option<|AV×AV):Qy ⟨a1,r1,none,k1⟩ ⟨a2,r2,some b,k2⟩=(!a1&&!r1.contains b):=by simp[Qy]
def Z0z(a1 a2:Bool)(r1 r2:List Nat)(b c:Nat)(k1 k2:Option<|AV×AV):Qy ⟨a1,r1,some b,k1⟩ ⟨a2,r2,some c,k2⟩=((!a2&&!r2.contains b&&(!(c==b)||Kp ⟨a1,r1,some b,k1⟩ ⟨a2,r2,some c,k2⟩))&&(!a1&&!r1.contains c)):=(rfl)
attribute [go_sem] Z0w Z0x Z0y Z0z List.contains_cons List.contains_nil Bool.true_or Bool.or_true Bool.false_or Bool.or_false
noncomputable def Zg(E:Env)(live:List Nat)(b:ACode)(fr:Fr)(h:Hp):Option (AExit×Fr×Hp):=Zb E (.loop live b) fr h
def Z0A{live:List Nat}{b:ACode}{fr:Fr}{h:Hp}:Zb E (.loop live b) fr h=Zg E live b (Z2 live fr) h:=by
 unfold Zg;exact GF
attribute [go_sem] Z0A
def Yt{live:List Nat}{b:ACode}{fr fr':Fr}{h h':Hp}(hr:Z2 live fr=fr)(hc:Zb E b fr h=some (.normal,fr',h')):Zg E live b fr h=Zg E live b (Z2 live fr') h':=by
 unfold Zg;rw[J2,hr,hc,LH];exact GF
def Q7{live:List Nat}{b:ACode}{fr fr':Fr}{h h':Hp}{e:AExit}(hr:Z2 live fr=fr)(hc:Zb E b fr h=some (e,fr',h'))(he:e≠.normal):Zg E live b fr h=some (e,fr',h'):=by
 unfold Zg;rw[J2,hr,hc];cases e<;>first|exact absurd rfl he|rfl
def Zu{α:Type}(P:Nat->α->Bool):Nat->List α->Bool
 |_,[]=>true
 |i,x::r=>P i x&&Zu P (i+1) r
def QE{α:Type}(P:α->Bool):∀(l:List α)(i:Nat),Zu (λ_ x=>P x) i l=l.all P
 |[],_=>rfl
 |x::r,i=>by simp only[Zu,ZXz,QE P r]
def Uf{α:Type}{live:List Nat}{b:ACode}{h:Hp}(l:List α)(P:Nat->α->Bool)(S:Nat->Fr)(out:Nat)(Q:Fr->Prop)
 (hr:∀i,Z2 live (S i)=S i)
 (good:∀i x,l[i]?=some x->P i x=true->∃fr',Zb E b (S i) h=some (.normal,fr',h)/\Z2 live fr'=S (i+1))
 (bad:∀i x,l[i]?=some x->P i x=false->∃fr',Zb E b (S i) h=some (.ret,fr',h)/\Q fr')
 (last:∃fr',Zb E b (S l.length) h=some (.exit out,fr',h)):
 ∃fr',Zg E live b (S 0) h=some (if Zu P 0 l=true then .exit out else .ret,fr',h)/\(Zu P 0 l=false->Q fr'):=by
 suffices H:∀(post pre:List α),l=pre++post->∃fr',Zg E live b (S pre.length) h=some (if Zu P pre.length post=true then .exit out else .ret,fr',h)/\(Zu P pre.length post=false->Q fr')from H l [] rfl
 intro post;induction post with
 |nil=>
  intro pre hp;obtain⟨fr',h1⟩:=last;have:l.length=pre.length:=by rw[hp];simp
  rw[this]at h1;exact⟨fr',by simpa[Zu]using Q7 (hr _) h1 (by simp),λh=>by simp[Zu]at h⟩
 |cons x post ih=>
  intro pre hp;have hx:l[pre.length]?=some x:=by rw[hp];simp
  cases hP:P pre.length x with
  |true=>
   obtain⟨fr1,h1,h2⟩:=good _ _ hx hP;obtain⟨fr',h3,h4⟩:=ih (pre++[x])<|by simp[hp]
   rw[ZX7,ZXh]at h3 h4;refine⟨fr',?_,?_⟩
   .rw[Yt (hr _) h1,h2,h3];simp only[Zu,hP,ZWR]
   .simpa only[Zu,hP,ZWR]using h4
  |false=>
   obtain⟨fr',h1,h2⟩:=bad _ _ hx hP;refine⟨fr',?_,λ_=>h2⟩
   rw[Q7 (hr _) h1<|by simp]
   simp[Zu,hP]
end Go.AM
namespace Go.AM
open Go
variable {E:Env}
def ghC(h:Hp)(b off s sz:Nat)(cs:List AV):Option AV->Option Hp
 |some .nilsl=>bif Nat.blt 0 s then some (setH h b (.row sz [.agg<|cs.set off<|.sl h.length 0 0 0 false])++[.row s []])else none
 |_=>none
def ZSJ(h:Hp)(b off s sz:Nat)(cs:List AV):ghC h b off (s+1) sz cs (some .nilsl)=some (setH h b (.row sz [.agg<|cs.set off<|.sl h.length 0 0 0 false])++[.row (s+1) []]):=rfl
def ghP(h:Hp)(b off s:Nat):Option (Nat×List AV)->Option Hp
 |some (sz,[.agg cs])=>ghC h b off s sz cs cs[off]?
 |_=>none
def ZSK(h:Hp)(b off s sz:Nat)(cs:List AV):ghP h b off s (some (sz,[.agg cs]))=ghC h b off s sz cs cs[off]?:=rfl
def ghV(off s:Nat)(h:Hp):AV->Option Hp
 | .ptr b 0 0 1=>ghP h b off s<|rowAt h b 1
 |_=>none
def ZSL(off s:Nat)(h:Hp)(b:Nat):ghV off s h (.ptr b 0 0 1)=ghP h b off s (rowAt h b 1):=rfl
def ZSM{d off s:Nat}{fr:Fr}{h:Hp}:ghW d off s fr h=ghV off s h (get fr d):=by
 unfold ghW;generalize get fr d=v;unfold ghV;split
 .rename_i b;simp only[rowAt];cases h[b]? with
  |none=>rfl
  |some o=>
   cases o<;>first|rfl|skip
   case row sz es=>
    match es with
    |[]=>rfl
    |[e]=>cases e<;>rfl
    |e::e2::r=>
     have:((e::e2::r).length==1)=false:=by simp
     simp only[this,cond_false,ghP]
 .rename_i hne;split
  .rename_i b;exact(hne b rfl).elim
  .rfl
def ghN(fr:Fr):Option Hp->Option (AExit×Fr×Hp)
 |some h=>some (.normal,fr,h)
 |none=>none
def ZSN(fr:Fr)(h:Hp):ghN fr (some h)=some (.normal,fr,h):=rfl
def ZSO(d off s:Nat)(fr:Fr)(h:Hp):gh d off s (some (.normal,fr,h))=ghN fr (ghV off s h<|get fr d):=by
 rw[ZSr,ZSM];cases ghV off s h (get fr d)<;>rfl
def ZPj(h:Hp)(b:Nat):Option (Nat×List AV):=match h[b]? with|some (.row sz es)=>some (sz,es)|_=>none
def ZSP(sz:Nat)(es:List AV)(h:Hp):ZPj (.row sz es::h) 0=some (sz,es):=rfl
def ZSQ(x:AObj)(h:Hp)(b:Nat):ZPj (x::h) (b+1)=ZPj h b:=rfl
def ZPk(h:Hp)(b:Nat):Option (List AV×List AV):=match h[b]? with|some (.map ks vs)=>some (ks,vs)|_=>none
def ZSR(ks vs:List AV)(h:Hp):ZPk (.map ks vs::h) 0=some (ks,vs):=rfl
def ZSS(x:AObj)(h:Hp)(b:Nat):ZPk (x::h) (b+1)=ZPk h b:=rfl
def rcQ(b sz:Nat):Option (List AV)->Option (AV×Option (Nat×AObj))
 |some [e',v]=>some (v,some (b,.row sz [e']))
 |_=>none
def ZST(b sz:Nat)(e' v:AV):rcQ b sz (some [e',v])=some (v,some (b,.row sz [e'])):=rfl
def rcP(s:List AV->Nat->List AV->Option (List AV))(r:List AV)(b:Nat):Option (Nat×List AV)->Option (Nat×List AV)->Option (List AV×List AV)->Option (AV×Option (Nat×AObj))
 |some (sz,[e]),some (sz2,es),some (ks,vs)=>bif Z4 ks&&Z4 vs then rcQ b sz (s (.ptr b 0 0 sz2::r) sz<|e::es)else none
 |_,_,_=>none
def ZSU(s:List AV->Nat->List AV->Option (List AV))(r:List AV)(b sz sz2:Nat)(e:AV)(es ks vs:List AV)(hc:(Z4 ks&&Z4 vs)=true):
 rcP s r b (some (sz,[e])) (some (sz2,es)) (some (ks,vs))=rcQ b sz (s (.ptr b 0 0 sz2::r) sz<|e::es):=by
 show(bif Z4 ks&&Z4 vs then _ else _)=_
 rw[hc];rfl
def ZSV(s:List AV->Nat->List AV->Option (List AV))(h:Hp)(b:Nat)(r:List AV):ZE8 s h (.ptr b 0 0 1::r)=rcP s r b (rowAt h b 1) (ZPj h<|b+1) (ZPk h<|b-1):=by
 unfold rowAt ZPj ZPk;simp only[ZE8];generalize h[b+1]?=o2;generalize h[b-1]?=o3;cases h[b]? with
 |none=>rfl
 |some o=>
  cases o<;>first|rfl|skip
  case row sz es=>
   match es with
   |[]=>rfl
   |[e]=>
    cases o2 with
    |none=>rfl
    |some o2=>
     cases o2<;>first|rfl|skip
     case row sz2 es2=>
      cases o3 with
      |none=>rfl
      |some o3=>cases o3<;>rfl
   |e::e2::t=>
    have:((e::e2::t).length==1)=false:=by simp
    simp only[this,cond_false,rcP]
def rdW(args:List AV):Option (AV×Option (Nat×AObj))->Option (AV×DRec×Option (Nat×AObj))
 |some r=>some (r.1,⟨false,ZEZ args,r.2.map (·.1),none⟩,r.2)
 |none=>none
def ZSW(args:List AV)(v:AV)(b:Nat)(o:AObj):rdW args (some (v,some (b,o)))=some (v,⟨false,ZEZ args,some b,none⟩,some (b,o)):=rfl
def ZSX(s:List AV->Nat->List AV->Option (List AV))(h:Hp)(args:List AV):rsD (some s) h args=rdW args (ZE8 s h args):=by
 show ZEn s h args=_
 unfold ZEn;cases ZE8 s h args<;>rfl
def ZSY(b i o g:Nat)(r:List AV):ZEZ (.ptr b i o g::r)=[b,b+1,b-1]:=rfl
def ZHj(d:Option Nat)(r:List AOper)(u:List Nat)(us:List<|List Nat)(fr:Fr)(h:Hp)(recs:List DRec)(p:AV×DRec×Option (Nat×AObj)):
 rkw E d r u us fr h recs (some p)=okd recs u h p.2.1 p.2.2 (Zm E r us (ZB fr d p.1) (ZH h p.2.2)<|recs++[p.2.1]):=rfl
attribute [go_sem] ZSJ ZSK ZSL ZSO ZSN ZSs ZSP ZSQ ZSR ZSS ZST ZSU ZSV ZSW ZSX ZSY ZHj ZL4
end Go.AM
namespace Go.AM
open Go
def N8(f:Nat):Option (List AV->Hp->Option (AV×Hp)):=
 bif Nat.blt f 209 then(bif Nat.blt f 197 then(bif Nat.blt f 157 then(bif Nat.beq f 156 then some (J9)else none)else(bif Nat.blt f 158 then(bif Nat.beq f 157 then some (J7)else none)else(bif Nat.beq f 158 then some (J8)else none)))else(bif Nat.blt f 200 then(bif Nat.beq f 197 then some (YL 6)else none)else(bif Nat.blt f 205 then(bif Nat.beq f 200 then some (YL 5)else none)else(bif Nat.beq f 205 then some (YL 16)else none))))else(bif Nat.blt f 310 then(bif Nat.blt f 212 then(bif Nat.beq f 209 then some (YL 4)else none)else(bif Nat.blt f 291 then(bif Nat.beq f 212 then some (YL 6)else none)else(bif Nat.beq f 291 then some (Ja)else none)))else(bif Nat.blt f 311 then(bif Nat.beq f 310 then some (U9)else none)else(bif Nat.blt f 312 then(bif Nat.beq f 311 then some (J5)else none)else(bif Nat.beq f 312 then some (J6)else none))))
class REdz where
 hd:Option<|List AV->Hp->Option (AV×Hp)
def rE[REdz]:Env:={fn:=N0,gl:=λ_=>.bot,sum:=λf=>bif Nat.beq f 5 then REdz.hd else N8 f}
def XB(sz:Nat)(n:Option Nat):ACode:=
 .keep [0,1,4,7,8]<|.seq (.region [o 9<|.bin .lss (.t 8)<|.t 7])<|
  .seq (.cond (.t 9) (.skip)<|.exit 0)<|
  .seq (.keep [0,1,4,7,8]<|.block 1<|
   .seq (.region [o 10<|.mv<|.t 8,o 5<|.mv<|.t 10])<|
   .seq (.keep [0,1,5,7,8,16]<|.region [o 11<|.mv<|.t 1,o 12<|.mv<|.t 0,o 13<|.mv<|.t 5,o 14<|.iadr sz (.t 12)<|.t 13,o 15<|.load n<|.t 14,o 16<|.callv true (.t 11) [(.t 15)]])<|
   .cond (.t 16) (.seq (.region [o 17<|.mv<|.t 5,o 4<|.mv<|.t 17])<|.ret) (.skip))<|
  .region [o 18<|.bin .add (.t 8)<|.c<|.int .i64 1,o 8<|.mv<|.t 18]
def GR(sz:Nat)(n:Option Nat):ACode:=
 .seq (.region [o 4<|.mv<|.c<|.int .i64 0])<|
 .seq (.seq (.keep [0,1,7,8]<|.region [o 6<|.mv<|.t 0,o 7<|.len 1<|.t 6,o 8<|.mv<|.c<|.int .i64 0])<|
 .keep [4]<|.block 0<|.loop [0,1,7,8]<|XB sz n)<|
 .seq (.region [o 4<|.mv<|.c<|.int .i64<|-1])<|
 .ret
def Zp{α:Type}(p:α->Bool):List α->Int->Int
 |[],_=>-1
 |x::r,i=>bif p x then i else Zp p r<|i+1
def Yu(n:Option Nat)(e:AV):Prop:=clean e=true/\takeC n e.cells=some e
def Vd{α:Type}(sz:Nat)(g:Nat)(cap:List AV)(enc:α->AV)(l:List α)(bw ex:Bool)(i:Nat):Fr:=
 [(0,.isl bw ex sz<|l.map enc),(1,.clo (.func g) [] cap),(7,.int .i64 l.length),(8,.int .i64 i)]
def Z0B{E:Env}{α:Type}{sz:Nat}{n:Option Nat}{enc:α->AV}{p:α->Bool}{g:Nat}{cap:List AV}(hcap:Z4 cap=true)(l:List α)(hl:l.length<=4611686018427387904)(henc:∀x∈l,Yu n<|enc x)
 (hp:∀x∈l,pfn E g (enc x::cap)=some (.bool<|p x)) (bw ex:Bool):∀(post pre:List α),l=pre++post->
  ∃fr',Zb E (.loop [0,1,7,8]<|XB sz n) (Vd sz g cap enc l bw ex pre.length) []=some (if Zp p post pre.length=-1 then .exit 0 else .ret,fr',[])/\(Zp p post pre.length≠-1->get fr' 4=.int .i64 (Zp p post pre.length)):=by
 intro post;induction post with
 |nil=>
  intro pre hpre;have hd:decide ((pre.length:Int)<(l.length:Int))=false:=by subst hpre;simp
  rw[J2];unfold Vd;simp only[go_sem,XB,hd,qy,reduceIte,Zp];exact⟨_,rfl,λh=>absurd rfl h⟩
 |cons x post ih=>
  intro pre hpre;have hx:x∈l:=by rw[hpre];simp
  have hlen:pre.length<l.length:=by rw[hpre];simp
  have hd:decide ((pre.length:Int)<(l.length:Int))=true:=by simpa using hlen
  have hget:ixG (l.map enc) (pre.length:Int)=some (enc x):=by rw[hpre,ZX4,ZX3];have:=RK (pre.map enc) (enc x)<|post.map enc;rwa[ZWQ]at this
  have htk:=(henc x hx).2;have hcl:Z4 (enc x::cap)=true:=by simp[Z4,(henc x hx).1,hcap]
  have hpx:=hp x hx;rw[J2];unfold Vd;have hw:IntKind.i64.wrap ((pre.length:Int)+1)=((pre++[x]).length:Int):=by rw[Zx<|by omega];simp
  have hw':((pre++[x]).length:Int)=(pre.length:Int)+1:=by simp
  cases hpv:p x with
  |true=>
   have h0:((pre.length:Int)=-1)=False:=by simp
   simp only[go_sem,XB,hd,hget,htk,hcl,hpx,hpv,qy,reduceIte,Zp,ZXm,ZXj,h0];exact⟨_,rfl,λ_=>rfl⟩
  |false=>
   obtain⟨fr',h1,h2⟩:=ih (pre++[x])<|by simp[hpre]
   rw[hw']at h1 h2;simp only[go_sem,XB,hd,hget,htk,hcl,hpx,hpv,hw,qy,reduceIte,Zp,ZXm,ZXj];exact⟨fr',(Dl<|by rfl).trans h1,h2⟩
def WF{E:Env}{f:Nat}{α:Type}{sz:Nat}{n:Option Nat}{enc:α->AV}{p:α->Bool}{g:Nat}{cap:List AV}(hs:E.sum f=none)(hf:E.fn f=some ⟨[.tmp 4],GR sz n⟩)(hcap:Z4 cap=true)(l:List α)(hl:l.length<=4611686018427387904)
 (henc:∀x∈l,Yu n<|enc x) (hp:∀x∈l,pfn E g (enc x::cap)=some (.bool<|p x)) (bw ex:Bool):pfn E f [.isl bw ex sz<|l.map enc,.clo (.func g) [] cap]=some (.int .i64<|Zp p l 0):=by
 rw[Z5 hs hf];obtain⟨fr',h1,h2⟩:=Z0B (E:=E) hcap l hl henc hp bw ex l [] rfl;have hr:Z2 [0,1,7,8] [(8,AV.int .i64 0),(7,AV.int .i64 l.length),(6,AV.isl bw ex sz<|l.map enc),(4,AV.int .i64 0),(0,AV.isl bw ex sz<|l.map enc),(1,AV.clo (.func g) [] cap)]=Z2 [0,1,7,8] (Vd sz g cap enc l bw ex 0):=by rfl
 have hL:Zb E (.loop [0,1,7,8]<|XB sz n) [(0,AV.isl bw ex sz<|l.map enc),(1,AV.clo (.func g) [] cap),(7,AV.int .i64 l.length),(8,AV.int .i64 0)] []=some (if Zp p l 0=-1 then .exit 0 else .ret,fr',[]):=h1
 unfold GR;by_cases h0:Zp p l 0=-1
 .rw[if_pos h0]at hL;simp only[go_sem,hL,h0,qy,Nat.reduceAdd,ZWQ]
 .rw[if_neg h0]at hL;have h3:get fr' 4=AV.int .i64 (Zp p l 0):=h2 h0;simp only[go_sem,hL,h3,qy,Nat.reduceAdd,ZWQ]
structure SL(α:Type) where
 bw:Bool:=false
 ex:Bool:=false
 l:List α
 deriving DecidableEq
structure NL(α:Type) where
 ex:Bool:=false
 l:List α
 deriving DecidableEq
abbrev Str:=ByteArray
structure Pt where
 X:Int
 Y:Int
 deriving DecidableEq
structure HN where
 N:Int
 bm:Str
 Num:Int
 Den:Int
 deriving DecidableEq
structure Nm where
 Lang:Str
 Script:Int
 Text:Str
 deriving DecidableEq
structure Ent where
 Id:Str
 An:HN
 bg:Pt
 deriving DecidableEq
structure Gk where
 Id:Str
 bq:Int
 bh:Int
 Ring:NL Pt
 bk:NL Nm
 Ld:Int
structure By where
 Id:Str
 bh:Int
 Line:NL Pt
 bk:NL Nm
 Ld:Int
structure Ev where
 Id:Str
 bh:Int
 Ring:NL Pt
 Ld:Int
structure Ga where
 Id:Str
 Ev:Str
 By:Str
 bh:Int
 An:HN
 bg:Pt
 From:Int
 Ld:Int
 After:NL Str
 Why:Int
 bv:Int
 Veil:Str
structure be where
 Id:Str
 Ga:Str
 Text:Str
 From:Int
 Ld:Int
 Why:Int
 deriving DecidableEq
structure bf where
 a:Int
 b:Int
 deriving DecidableEq
structure State where
 Fa:SL Gk
 Gm:SL By
 Bt:SL Ev
 Bc:SL Ga
 Nk:SL be
 Gc:SL bf
 ba:SL bf
structure Gt where
 bq:Int
 Day:Int
 A:Int
 B:Int
 bv:Int
 Id:Str
 br:Str
 Text:Str
 Ids:NL Str
 bk:NL Nm
 An:HN
 bg:Pt
 Path:NL Pt
 Lst:NL Ent
abbrev I(n:Int):AV:=.int .i64 n
def SL.enc{α:Type}(sz:Nat)(f:α->AV)(s:SL α):AV:=.isl s.bw s.ex sz<|s.l.map f
def NL.enc{α:Type}(sz:Nat)(f:α->AV)(s:NL α):AV:=.isl false s.ex sz<|s.l.map f
def Pt.enc(p:Pt):AV:=.agg [.int .i64 p.X,.int .i64 p.Y]
def HN.enc(n:HN):AV:=.agg [.int .i64 n.N,.str n.bm,.int .i64 n.Num,.int .i64 n.Den]
def Nm.enc(n:Nm):AV:=.agg [.str n.Lang,.int .i64 n.Script,.str n.Text]
def Ent.enc(e:Ent):AV:=.agg [.str e.Id,.int .i64 e.An.N,.str e.An.bm,.int .i64 e.An.Num,.int .i64 e.An.Den,.int .i64 e.bg.X,.int .i64 e.bg.Y]
def encS(s:Str):AV:=.str s
def Gk.enc(x:Gk):AV:=.agg [.str x.Id,.int .i64 x.bq,.int .i64 x.bh,x.Ring.enc 2 Pt.enc,x.bk.enc 3 Nm.enc,.int .i64 x.Ld]
def By.enc(x:By):AV:=.agg [.str x.Id,.int .i64 x.bh,x.Line.enc 2 Pt.enc,x.bk.enc 3 Nm.enc,.int .i64 x.Ld]
def Ev.enc(x:Ev):AV:=.agg [.str x.Id,.int .i64 x.bh,x.Ring.enc 2 Pt.enc,.int .i64 x.Ld]
def Ga.enc(d:Ga):AV:=.agg [.str d.Id,.str d.Ev,.str d.By,.int .i64 d.bh,.int .i64 d.An.N,.str d.An.bm,.int .i64 d.An.Num,.int .i64 d.An.Den,.int .i64 d.bg.X,.int .i64 d.bg.Y,
 .int .i64 d.From,.int .i64 d.Ld,d.After.enc 1 encS,.int .i64 d.Why,.int .i64 d.bv,.str d.Veil]
def be.enc(u:be):AV:=.agg [.str u.Id,.str u.Ga,.str u.Text,.int .i64 u.From,.int .i64 u.Ld,.int .i64 u.Why]
def bf.enc(p:bf):AV:=.agg [.int .i64 p.a,.int .i64 p.b]
def State.cells(s:State):List AV:=[s.Fa.enc 6 Gk.enc,s.Gm.enc 5 By.enc,s.Bt.enc 4 Ev.enc,s.Bc.enc 16 Ga.enc,s.Nk.enc 6 be.enc,s.Gc.enc 2 bf.enc,s.ba.enc 2 bf.enc]
def State.enc(s:State):AV:=.agg s.cells
def Gt.cells(e:Gt):List AV:=[.int .i64 e.bq,.int .i64 e.Day,.int .i64 e.A,.int .i64 e.B,.int .i64 e.bv,.str e.Id,.str e.br,.str e.Text,e.Ids.enc 1 encS,e.bk.enc 3 Nm.enc,
 .int .i64 e.An.N,.str e.An.bm,.int .i64 e.An.Num,.int .i64 e.An.Den,.int .i64 e.bg.X,.int .i64 e.bg.Y,e.Path.enc 2 Pt.enc,e.Lst.enc 7 Ent.enc]
def Gt.enc(e:Gt):AV:=.agg e.cells
def Pt.el(p:Pt):Yu (some 2) p.enc:=⟨(rfl),(rfl)⟩
def Nm.el(p:Nm):Yu (some 3) p.enc:=⟨(rfl),(rfl)⟩
def Ent.el(p:Ent):Yu (some 7) p.enc:=⟨(rfl),(rfl)⟩
def Z0C(p:Str):Yu none (encS p):=⟨(rfl),(rfl)⟩
def Gk.el(p:Gk):Yu (some 6) p.enc:=⟨(rfl),(rfl)⟩
def By.el(p:By):Yu (some 5) p.enc:=⟨(rfl),(rfl)⟩
def Ev.el(p:Ev):Yu (some 4) p.enc:=⟨(rfl),(rfl)⟩
def Ga.el(p:Ga):Yu (some 16) p.enc:=⟨(rfl),(rfl)⟩
def be.el(p:be):Yu (some 6) p.enc:=⟨(rfl),(rfl)⟩
def bf.el(p:bf):Yu (some 2) p.enc:=⟨(rfl),(rfl)⟩
def NL.clean_enc{α:Type}(sz:Nat)(f:α->AV)(s:NL α):clean (s.enc sz f)=true:=(rfl)
def Gt.clean_enc(e:Gt):clean e.enc=true:=(rfl)
def Gt.cleans_cells(e:Gt):Z4 e.cells=true:=(rfl)
def State.noref_enc(s:State):Zy s.enc=true:=(rfl)
def NL.noref_enc{α:Type}(sz:Nat)(f:α->AV)(s:NL α):Zy (s.enc sz f)=true:=(rfl)
def SL.noref_enc{α:Type}(sz:Nat)(f:α->AV)(s:SL α):Zy (s.enc sz f)=true:=(rfl)
def Gt.noref_enc(e:Gt):Zy e.enc=true:=(rfl)
def State.norefs_cells(s:State):Zi s.cells=true:=(rfl)
def Gt.norefs_cells(e:Gt):Zi e.cells=true:=(rfl)
def NL.msz_enc{α:Type}(sz:Nat)(f:α->AV)(s:NL α):msz (s.enc sz f)=1:=(rfl)
def SL.msz_enc{α:Type}(sz:Nat)(f:α->AV)(s:SL α):msz (s.enc sz f)=1:=(rfl)
def State.msz_enc(s:State):msz s.enc=16:=by simp[State.enc,State.cells,msz,QJ,SL.msz_enc]
def Gt.msz_enc(e:Gt):msz e.enc=38:=by simp[Gt.enc,Gt.cells,msz,QJ,NL.msz_enc]
attribute [go_sem] NL.noref_enc SL.noref_enc Gt.noref_enc State.norefs_cells Gt.norefs_cells NL.msz_enc SL.msz_enc State.msz_enc Gt.msz_enc NL.clean_enc Gt.clean_enc Gt.cleans_cells State.noref_enc
def Z6{α:Type}{f:α->AV}{l:List α}{i:Nat}{x:α}(h:l[i]?=some x):(l.map f)[i]?=some (f x):=by simp[h]
def Z7{α:Type}{l:List α}{i:Nat}{x:α}(h:l[i]?=some x):i<l.length:=(ZXg.1 h).1
def Zh{i n:Nat}(h:i<n):decide ((i:Int)<(n:Int))=true:=by simpa using h
def ZG(n:Nat):decide ((n:Int)<(n:Int))=false:=by simp
def cellV(h:Hp)(n:Option Nat):AV->Option AV
 | .ptr b i off g=>ldE n i off<|rowAt h b g
 | .iptr _ cs=>takeC n cs
 |_=>none
def Z0D(h:Hp)(n:Option Nat)(b i off g:Nat):cellV h n (.ptr b i off g)=ldE n i off (rowAt h b g):=rfl
def Z0E(h:Hp)(n:Option Nat)(bw:Bool)(cs:List AV):cellV h n (.iptr bw cs)=takeC n cs:=rfl
def Dq(fr:Fr)(h:Hp)(t:Nat)(n:Option Nat):WX fr h (.cell t n)=cellV h n (get fr t):=by
 simp only[WX,cellV];generalize get fr t=v;cases v<;>first|rfl|skip
 case ptr b i off g=>
  simp only[rowAt,ldE];cases h[b]? with
  |none=>rfl
  |some o=>
   cases o<;>first|rfl|skip
   case row sz es=>dsimp only;cases(es.length==g)<;>first|rfl|(simp only[cond_true];cases es[i]?<;>rfl)
def Z0F(fr:Fr)(h:Hp)(t:Nat)(n:Option Nat):QO fr h [.cell t n]=cellV h n (get fr t):=by
 simp only[QO,YD,Dq];cases cellV h n (get fr t)<;>rfl
attribute [go_sem] Z0D Z0E Z0F
abbrev W(n:Int):Int:=IntKind.i64.wrap n
def st1(off:Nat):List AV->Option AV
 |[c]=>bif off==0 then some c else none
 |_=>none
def Z0G(off:Nat)(c:AV):st1 off [c]=bif off==0 then some c else none:=rfl
def Z0H(off n:Nat)(v:AV)(k:IntKind)(m:Int):stE off n v (.int k m)=st1 off v.cells:=rfl
def Z0I(off n:Nat)(v:AV)(b:Bool):stE off n v (.bool b)=st1 off v.cells:=rfl
def Z0J(off n:Nat)(v:AV)(s:ByteArray):stE off n v (.str s)=st1 off v.cells:=rfl
def Z0K(off n:Nat)(v:AV)(bw ex:Bool)(sz:Nat)(es:List AV):stE off n v (.isl bw ex sz es)=st1 off v.cells:=rfl
def Z0L(off n:Nat)(v:AV)(b g o l:Nat)(ex:Bool):stE off n v (.sl b g o l ex)=st1 off v.cells:=rfl
attribute [go_sem] Z0G Z0H Z0I Z0J Z0K Z0L
def Ug:Option AV->Option (List AV)->Option (List AV)
 |some v,some vs=>some<|v::vs
 |_,_=>none
def Z0M(v:AV)(vs:List AV):Ug (some v) (some vs)=some (v::vs):=rfl
def GS:Option (List AV)->Option AV
 |some [v]=>some v
 |some vs=>some<|.tup vs
 |none=>none
def Z0N(v:AV):GS (some [v])=some v:=rfl
def Z0O(v w:AV)(vs:List AV):GS (some<|v::w::vs)=some (.tup<|v::w::vs):=rfl
def Z0P(fr:Fr)(h:Hp)(rs:List ResVar):QO fr h rs=GS (YD fr h rs):=by
 unfold QO GS;rcases YD fr h rs with _|(_|⟨a,_|⟨b,l⟩⟩)<;>rfl
def Z0Q(fr:Fr)(h:Hp):YD fr h []=some []:=rfl
def Z0R(fr:Fr)(h:Hp)(r:ResVar)(rs:List ResVar):YD fr h (r::rs)=Ug (WX fr h r) (YD fr h rs):=by
 simp only[YD,Ug];cases WX fr h r<;>cases YD fr h rs<;>rfl
def Z0S(fr:Fr)(h:Hp)(t:Nat):WX fr h (.tmp t)=some (get fr t):=rfl
attribute [go_sem] Z0M Z0N Z0O Z0Q Z0R Z0S Dq
attribute [go_sem 900] Z0P
def Z0T(n:Nat)(a b:List AV):Zd n (a++b)=(Zd n a&&Zd n b):=by
 induction a with
 |nil=>simp[Zd]
 |cons x a ih=>simp[Zd,ih,ZY6]
def Z0U{a b:List AV}:Zi (a++b)=(Zi a&&Zi b):=by
 induction a with
 |nil=>simp[Zi]
 |cons x a ih=>simp[Zi,ih,ZY6]
attribute [go_sem] Z0T Z0U XA
def N9:Option (List AV)->Option AV
 |some vs=>some<|.tup vs
 |none=>none
def Z0V(vs:List AV):N9 (some vs)=some (.tup vs):=rfl
def GT(bw ex:Bool)(sz:Nat):Option (List AV)->Option AV
 |some vs=>some<|.isl bw ex sz vs
 |none=>none
def Z0W(bw ex:Bool)(sz:Nat)(vs:List AV):GT bw ex sz (some vs)=some (.isl bw ex sz vs):=rfl
def GU(bw:Bool):Option (List AV)->Option AV
 |some vs=>some<|.iptr bw vs
 |none=>none
def Z0X(bw:Bool)(vs:List AV):GU bw (some vs)=some (.iptr bw vs):=rfl
def Z0Y{bw:Bool}{h:Hp}{n:Nat}{l:List AV}(hc:Z4 l=true):ZC bw h (n+1) l=some l:=by
 unfold ZC;rw[hc];rfl
def Z0Z{bw:Bool}{h:Hp}{n:Nat}{v:AV}(hc:clean v=true):freeze bw h (n+1) v=some v:=by
 unfold freeze;rw[hc];rfl
def Z10(bw:Bool)(h:Hp)(n:Nat)(v:AV)(r:List AV)(hc:Z4 (v::r)=false):ZC bw h (n+1) (v::r)=Ug (freeze bw h n v) (ZC bw h n r):=by
 conv=>lhs;unfold ZC
 rw[hc,cond_false];simp only[Ug];cases freeze bw h n v<;>cases ZC bw h n r<;>rfl
def Z11(bw:Bool)(h:Hp)(n:Nat)(cs:List AV)(hc:Z4 cs=false):freeze bw h (n+1) (.tup cs)=N9 (ZC bw h n cs):=by
 conv=>lhs;unfold freeze
 have:clean (.tup cs)=false:=hc;rw[this,cond_false];simp only[N9];cases ZC bw h n cs<;>rfl
def Z12(bw:Bool)(h:Hp)(n:Nat)(cs:List AV)(hc:Z4 cs=false):freeze bw h (n+1) (.agg cs)=U7 (ZC bw h n cs):=by
 conv=>lhs;unfold freeze
 have:clean (.agg cs)=false:=hc;rw[this,cond_false];simp only[U7];cases ZC bw h n cs<;>rfl
def Na(bw:Bool)(h:Hp)(n off len:Nat)(ex:Bool):Option (Nat×List AV)->Option AV
 |some (sz,es)=>GT bw (bw&&ex) sz<|ZC bw h n<|(es.drop off).take len
 |none=>none
def Z13(bw:Bool)(h:Hp)(n off len:Nat)(ex:Bool)(sz:Nat)(es:List AV):Na bw h n off len ex (some (sz,es))=GT bw (bw&&ex) sz (ZC bw h n<|(es.drop off).take len):=rfl
def Z14(bw:Bool)(h:Hp)(n b g off len:Nat)(ex:Bool):freeze bw h (n+1) (.sl b g off len ex)=Na bw h n off len ex (rowAt h b g):=by
 conv=>lhs;unfold freeze
 simp only[clean,cond_false,rowAt,Na];cases h[b]? with
 |none=>rfl
 |some o=>
  cases o<;>first|rfl|skip
  case row sz es=>
   dsimp only;cases(es.length==g)
   .rfl
   .simp only[cond_true,GT];cases ZC bw h n ((es.drop off).take len)<;>rfl
def GV(bw:Bool)(h:Hp)(n off:Nat):Option AV->Option AV
 |some e=>GU bw<|ZC bw h n<|e.cells.drop off
 |none=>none
def Z15(bw:Bool)(h:Hp)(n off:Nat)(e:AV):GV bw h n off (some e)=GU bw (ZC bw h n<|e.cells.drop off):=rfl
def Nb(bw:Bool)(h:Hp)(n i off:Nat):Option (Nat×List AV)->Option AV
 |some (_,es)=>GV bw h n off es[i]?
 |none=>none
def Z16(bw:Bool)(h:Hp)(n i off sz:Nat)(es:List AV):Nb bw h n i off (some (sz,es))=GV bw h n off es[i]?:=rfl
def Z17(bw:Bool)(h:Hp)(n b i off g:Nat):freeze bw h (n+1) (.ptr b i off g)=Nb bw h n i off (rowAt h b g):=by
 conv=>lhs;unfold freeze
 simp only[clean,cond_false,rowAt,Nb];cases h[b]? with
 |none=>rfl
 |some o=>
  cases o<;>first|rfl|skip
  case row sz es=>
   dsimp only;cases(es.length==g)
   .rfl
   .simp only[cond_true,GV];cases es[i]? with
    |none=>rfl
    |some e=>simp only[GU];cases ZC bw h n (e.cells.drop off)<;>rfl
attribute [go_sem] Z0V Z0W Z0X Z10 Z11 Z12 Z13 Z14 Z15 Z16 Z17
attribute [go_sem 1100] Z0Y Z0Z
def XC{h:Hp}{b g sz bytes:Nat}{es ys:List AV}{bw ex fz:Bool}(hr:rowAt h b g=some (sz,es))(hy:ys.isEmpty=false)(hf:ys.all (fits sz)=true)(h0:0<sz)(h1:0<bytes)(h2:(g+ys.length)*bytes<=140737488355328):
 appW h fz sz bytes (.sl b g 0 g false) (.isl bw ex sz ys)=some (.sl b (g+ys.length) 0 (g+ys.length) false,setH h b<|.row sz<|es++ys):=by
 unfold rowAt at hr;cases hb:h[b]? with
 |none=>rw[hb]at hr;cases hr
 |some o=>
  rw[hb]at hr;cases o with
  |row sz' es'=>
   dsimp only at hr;cases hg:(es'.length==g)with
   |false=>rw[hg]at hr;cases hr
   |true=>
    rw[hg]at hr;simp only[cond_true,Option.some.injEq,Prod.mk.injEq]at hr;obtain⟨rfl,rfl⟩:=hr;have hl:es'.length=g:=by simpa using hg
    have ht:List.take g es'=es':=ZXp<|by omega
    subst hl;simp only[appW,Qt,Q2,hb,hg,cond_true,ZXO,ht,Qq,beq_self_eq_true,ZWY,h0,h1,h2,and_self,if_true,hy,cond_false,ZM,ZH,hf,ZX8]
  |_=>cases hr
def Y8{E:Env}{live:List Nat}{b:ACode}(n:Nat)(S:Nat->Fr)(H:Nat->Hp)(hr:∀i,Z2 live (S i)=S i)
 (step:∀i,i<n->∃fr',Zb E b (S i) (H i)=some (.normal,fr',H<|i+1)/\Z2 live fr'=S (i+1))
 {e:AExit} {fr:Fr} {h:Hp} (last:Zb E b (S n) (H n)=some (e,fr,h)) (he:e≠.normal):Zg E live b (S 0) (H 0)=some (e,fr,h):=by
 suffices G:∀k i,k+i=n->Zg E live b (S i) (H i)=some (e,fr,h)from G n 0<|by omega
 intro k;induction k with
 |zero=>
  intro i hi;have:i=n:=by omega
  subst this;exact Q7 (hr _) last he
 |succ k ih=>
  intro i hi;obtain⟨fr',h1,h2⟩:=step i<|by omega
  rw[Yt (hr _) h1,h2];exact ih (i+1)<|by omega
def ZDU{E:Env}{α:Type}{live:List Nat}{b:ACode}{h:Hp}(l:List α)(P:α->Bool)(S:Nat->Fr)(out:Nat)(Q:Nat->Fr->Prop)
 (hr:∀i,Z2 live (S i)=S i)
 (good:∀i x,l[i]?=some x->P x=false->∃fr',Zb E b (S i) h=some (.normal,fr',h)/\Z2 live fr'=S (i+1))
 (hit:∀i x,l[i]?=some x->P x=true->∃fr',Zb E b (S i) h=some (.ret,fr',h)/\Q i fr')
 (last:∃fr',Zb E b (S l.length) h=some (.exit out,fr',h)):
 ∃fr',Zg E live b (S 0) h=some (if Zp P l 0=-1 then .exit out else .ret,fr',h)/\(Zp P l 0≠-1->∃i:Nat,Zp P l 0=(i:Int)/\Q i fr'):=by
 suffices G:∀(post pre:List α),l=pre++post->∃fr',Zg E live b (S pre.length) h=some (if Zp P post pre.length=-1 then .exit out else .ret,fr',h)/\(Zp P post pre.length≠-1->∃i:Nat,Zp P post pre.length=(i:Int)/\Q i fr')from G l [] rfl
 intro post;induction post with
 |nil=>
  intro pre hp;obtain⟨fr',h1⟩:=last;have:l.length=pre.length:=by rw[hp];simp
  rw[this]at h1;exact⟨fr',by simpa[Zp]using Q7 (hr _) h1 (by simp),λh=>by simp[Zp]at h⟩
 |cons x post ih=>
  intro pre hp;have hx:l[pre.length]?=some x:=by rw[hp];simp
  cases hP:P x with
  |false=>
   obtain⟨fr1,h1,h2⟩:=good _ _ hx hP;obtain⟨fr',h3,h4⟩:=ih (pre++[x])<|by simp[hp]
   have e:((pre++[x]).length:Int)=(pre.length:Int)+1:=by simp
   rw[e]at h3 h4;rw[ZX7,ZXh]at h3;refine⟨fr',?_,?_⟩
   .rw[Yt (hr _) h1,h2,h3];simp only[Zp,hP,cond_false]
   .simpa only[Zp,hP,cond_false]using h4
  |true=>
   obtain⟨fr',h1,h2⟩:=hit _ _ hx hP;have e:Zp P (x::post) pre.length=(pre.length:Int):=by simp[Zp,hP]
   have ne:((pre.length:Int)=-1)=False:=by simp
   refine⟨fr',?_,λ_=>⟨pre.length,e,h2⟩⟩
   rw[Q7 (hr _) h1 (by simp),e]
   simp only[ne,if_false]
def QT{E:Env}{α:Type}{live:List Nat}{b:ACode}{h:Hp}(l:List α)(P:Nat->α->Bool)(S:Nat->Fr)(out:Nat)(Q0 Q:Fr->Prop)
 (hr:∀i,Z2 live (S i)=S i)
 (good:∀i x,l[i]?=some x->P i x=true->∃fr',Zb E b (S i) h=some (.normal,fr',h)/\Z2 live fr'=S (i+1))
 (bad:∀i x,l[i]?=some x->P i x=false->∃fr',Zb E b (S i) h=some (.ret,fr',h)/\Q fr')
 (last:∃fr',Zb E b (S l.length) h=some (.exit out,fr',h)/\Q0 fr'):
 ∃fr',Zg E live b (S 0) h=some (if Zu P 0 l=true then .exit out else .ret,fr',h)/\(Zu P 0 l=true->Q0 fr')/\(Zu P 0 l=false->Q fr'):=by
 obtain⟨fr',h1,h2⟩:=Uf (E:=E) (live:=live) (b:=b) (h:=h) l P S out (λfr=>Q fr) hr good bad (by obtain⟨fr',h1,_⟩:=last;exact⟨fr',h1⟩)
 refine⟨fr',h1,λht=>?_,h2⟩
 obtain⟨fr2,h3,h4⟩:=last
 suffices G:∀k i,k+i=l.length->Zu P i (l.drop i)=true->Zg E live b (S i) h=some (.exit out,fr2,h)by
  have:=G l.length 0 (by omega)<|by simpa using ht
  rw[this,if_pos ht]at h1;cases h1;exact h4
 intro k;induction k with
 |zero=>
  intro i hi _;have:i=l.length:=by omega
  subst this;exact Q7 (hr _) h3<|by simp
 |succ k ih=>
  intro i hi ht;have hlt:i<l.length:=by omega
  rw[ZY4 hlt]at ht;simp only[Zu,ZWT]at ht;obtain⟨fr',h1,h2⟩:=good i l[i] (ZX5 hlt) ht.1;rw[Yt (hr _) h1,h2];exact ih (i+1) (by omega) ht.2
def Jc(a b:Nat):Int.tmod (a:Int) (b:Int)=((a%b:Nat):Int):=rfl
def nat_ne{n:Nat}(h:0<n):((n:Int)=0)=False:=by simp;omega
def Ds{n i x:Nat}(h:(List.range n)[i]?=some x):x=i/\i<n:=by
 obtain⟨h1,h2⟩:=ZXg.1 h;simp at h1 h2;exact⟨h2.symm,h1⟩
def Dt{a n i x:Nat}(h:(List.range' a n)[i]?=some x):x=a+i/\i<n:=by
 obtain⟨h1,h2⟩:=ZXg.1 h;simp at h1 h2;exact⟨by omega,h1⟩
def Z19(a:AObj)(b:Bool):trimB 1 [a] b=[a]:=by cases b<;>rfl
def Z1a(a a':AObj)(b:Bool):trimB 2 [a,a'] b=[a,a']:=by cases b<;>rfl
def Z1b(a a' a'':AObj)(b:Bool):trimB 3 [a,a',a''] b=[a,a',a'']:=by cases b<;>rfl
attribute [go_sem] decide_true decide_false Bool.not_true Bool.not_false Bool.true_and Bool.false_and Bool.and_true Bool.and_false List.getElem?_cons_zero List.getElem?_cons_succ List.length_append Option.map_none Option.map_some
variable [REdz]
def gOn(p:Pt):Bool:=decide (min p.X p.Y>=0)&&decide (max p.X p.Y<=32767)
def XD(l:List Pt):Bool:=l.all gOn
def Yv(a b:Pt):Pt:=⟨W<|b.X-a.X,W<|b.Y-a.Y⟩
def Uh(v w:Pt):Int:=W<|W (v.X*w.Y)-W (v.Y*w.X)
def Nc(v w:Pt):Int:=W<|W (v.X*w.X)+W (v.Y*w.Y)
structure Seg where
 a:Pt
 b:Pt
 v:Pt
def XE(a b:Pt):Seg:=⟨a,b,Yv a b⟩
def sgn(n:Int):Int:=bif decide (n>0)then 1 else bif decide (n<0)then -1 else 0
def Ve(s:Seg)(p:Pt):Int:=sgn<|Uh s.v<|Yv s.a p
def Jd(a b c:Pt):Int:=bif XD [a,b,c]then Ve (XE a b) c else 0
def QK(a b:Pt):Bool:=a.X==b.X&&a.Y==b.Y
def W7(p a b:Pt):Bool:=
 bif XD [p,a,b]then
  (bif QK p a then true else bif QK p b then true else bif Ve (XE a b) p==0 then decide (Nc (Yv p a) (Yv p b)<0)else false)
 else false
def VV(s:Seg)(a b:Pt):Bool:=decide (W (Ve s a*Ve s b)<0)
def Ui(a b c d:Pt):Int:=
 bif XD [a,b,c,d]then
  (bif W7 a c d||W7 b c d||W7 c a b||W7 d a b then 1
   else bif VV (XE a b) c d&&VV (XE c d) a b then 2 else 0)
 else 0
def Seg.enc(s:Seg):AV:=.agg [I s.a.X,I s.a.Y,I s.b.X,I s.b.Y,I s.v.X,I s.v.Y]
def W8(p:Pt):pfn rE 184 [.agg [I p.X,I p.Y]]=some (.bool<|gOn p):=by
 rw[Z5 (f:=184) rfl rfl];unfold gOn;cases h1:decide (min p.X p.Y>=0)<;>simp only[go_sem,c184,h1]
def Nd(a b:Pt):pfn rE 333 [.agg [I a.X,I a.Y],.agg [I b.X,I b.Y]]=some (.agg [I (Yv a b).X,I (Yv a b).Y]):=by
 rw[Z5 (f:=333) rfl rfl];unfold Yv;simp only[go_sem,c333]
def Z1c(a b:Pt):pfn rE 334 [.agg [I a.X,I a.Y],.agg [I b.X,I b.Y]]=some (I<|Uh a b):=by
 rw[Z5 (f:=334) rfl rfl];unfold Uh;simp only[go_sem,c334]
def Z1d(a b:Pt):pfn rE 335 [.agg [I a.X,I a.Y],.agg [I b.X,I b.Y]]=some (I<|Nc a b):=by
 rw[Z5 (f:=335) rfl rfl];unfold Nc;simp only[go_sem,c335]
def Vf(a b:Pt):pfn rE 316 [.agg [I a.X,I a.Y],.agg [I b.X,I b.Y]]=some (.agg [I a.X,I a.Y,I b.X,I b.Y,I (Yv a b).X,I (Yv a b).Y]):=by
 rw[Z5 (f:=316) rfl rfl];simp only[go_sem,c316,Nd]
def Du(s:Seg)(p:Pt):pfn rE 317 [.agg [I s.a.X,I s.a.Y,I s.b.X,I s.b.Y,I s.v.X,I s.v.Y],.agg [I p.X,I p.Y]]=some (I<|Ve s p):=by
 rw[Z5 (f:=317) rfl rfl];unfold Ve sgn;cases h1:decide (Uh s.v (Yv s.a p)>0)<;>cases h2:decide (Uh s.v (Yv s.a p)<0)<;>simp only[go_sem,c317,Nd,Z1c,h1,h2]
def Nf(bw ex:Bool)(l:List Pt)(hl:l.length<9223372036854775807):pfn rE 315 [.isl bw ex 2<|l.map Pt.enc]=some (.bool<|XD l):=by
 have L:=Uf (E:=rE) (live:=[5,6,7]) (b:=c315L0b) (h:=[]) l (λ_ x=>gOn x) (λi=>[(5,.isl bw ex 2<|l.map Pt.enc),(6,I l.length),(7,I i)]) 0 (λfr=>get fr 2=.bool false) (λi=>rfl)
  (λi x hx hP=>by
   have hg:=Z6 (f:=Pt.enc) hx;have hi:=Zh<|Z7 hx;have hw:=Zx (n:=i) (by have:=Z7 hx;omega)
   refine⟨_,by simp only[go_sem,c315L0b,hg,hi,hw,hP,Pt.enc,W8];rfl,?_⟩
   simp only[go_sem])
  (λi x hx hP=>by
   have hg:=Z6 (f:=Pt.enc) hx;have hi:=Zh<|Z7 hx;refine⟨_,by simp only[go_sem,c315L0b,hg,hi,hP,Pt.enc,W8];rfl,?_⟩
   simp only[go_sem])
  (⟨_,by simp only[go_sem,c315L0b,ZG];rfl⟩)
 rw[Z5 (f:=315) rfl rfl];rw[QE]at L;obtain⟨fr',h1,h2⟩:=L;have h1':Zg rE [5,6,7] c315L0b [(5,.isl bw ex 2<|l.map Pt.enc),(6,I l.length),(7,.int .i64 0)] []=_:=h1;unfold XD;cases hc:l.all gOn with
 |true=>rw[hc]at h1';simp only[go_sem,c315,c315L0,h1']
 |false=>
  rw[hc]at h1';have h2':=h2 hc;simp only[go_sem,c315,c315L0,h1',h2',ZX2]
def Dv(a b c:Pt):pfn rE 315 [.isl false false 2 [.agg [I a.X,I a.Y],.agg [I b.X,I b.Y],.agg [I c.X,I c.Y]]]=some (.bool<|XD [a,b,c]):=Nf false false [a,b,c]<|by simp
def Je(a b c d:Pt):pfn rE 315 [.isl false false 2 [.agg [I a.X,I a.Y],.agg [I b.X,I b.Y],.agg [I c.X,I c.Y],.agg [I d.X,I d.Y]]]=some (.bool<|XD [a,b,c,d]):=Nf false false [a,b,c,d]<|by simp
def Dw(a b p:Pt):pfn rE 317 [.agg [I a.X,I a.Y,I b.X,I b.Y,I (Yv a b).X,I (Yv a b).Y],.agg [I p.X,I p.Y]]=some (I<|Ve (XE a b) p):=Du (XE a b) p
def Ng(a b c:Pt):pfn rE 289 [.agg [I a.X,I a.Y],.agg [I b.X,I b.Y],.agg [I c.X,I c.Y]]=some (I<|Jd a b c):=by
 rw[Z5 (f:=289) rfl rfl];unfold Jd;cases h1:XD [a,b,c]<;>simp only[go_sem,c289,Vf,Dv,Dw,h1]
def Uj(p a b:Pt):pfn rE 318 [.agg [I p.X,I p.Y],.agg [I a.X,I a.Y],.agg [I b.X,I b.Y]]=some (.bool<|W7 p a b):=by
 rw[Z5 (f:=318) rfl rfl];unfold W7;have e1:(p.X==a.X&&p.Y==a.Y)=QK p a:=rfl;have e2:(p.X==b.X&&p.Y==b.Y)=QK p b:=rfl;cases h1:XD [p,a,b]<;>cases h2:QK p a<;>cases h3:QK p b<;>cases h4:Ve (XE a b) p==0<;>simp only[go_sem,c318,Vf,Dv,Dw,Nd,Z1d,e1,e2,h1,h2,h3,h4]
def Z1e(s:Seg)(a b:Pt):pfn rE 319 [.clo (.func 317) [.agg [I s.a.X,I s.a.Y,I s.b.X,I s.b.Y,I s.v.X,I s.v.Y]] [],.agg [I a.X,I a.Y],.agg [I b.X,I b.Y]]=some (.bool<|VV s a b):=by
 rw[Z5 (f:=319) rfl rfl];unfold VV;simp only[go_sem,c319,Du]
def Z1f(a b p q:Pt):pfn rE 319 [.clo (.func 317) [.agg [I a.X,I a.Y,I b.X,I b.Y,I (Yv a b).X,I (Yv a b).Y]] [],.agg [I p.X,I p.Y],.agg [I q.X,I q.Y]]=some (.bool<|VV (XE a b) p q):=Z1e (XE a b) p q
def Dx(a b c d:Pt):pfn rE 290 [.agg [I a.X,I a.Y],.agg [I b.X,I b.Y],.agg [I c.X,I c.Y],.agg [I d.X,I d.Y]]=some (I<|Ui a b c d):=by
 rw[Z5 (f:=290) rfl rfl];unfold Ui;cases h1:XD [a,b,c,d]with
 |false=>simp only[go_sem,c290,Vf,Je,h1]
 |true=>
  cases h2:W7 a c d with
  |true=>simp only[go_sem,c290,Vf,Je,Uj,h1,h2,ZWY]
  |false=>
  cases h3:W7 b c d with
  |true=>simp only[go_sem,c290,Vf,Je,Uj,h1,h2,h3,ZWY,ZXa]
  |false=>
  cases h4:W7 c a b with
  |true=>simp only[go_sem,c290,Vf,Je,Uj,h1,h2,h3,h4,ZWY,ZXa]
  |false=>
  cases h5:W7 d a b with
  |true=>simp only[go_sem,c290,Vf,Je,Uj,h1,h2,h3,h4,h5,ZWY,ZXa]
  |false=>
  cases h6:VV (XE a b) c d<;>cases h7:VV (XE c d) a b<;>simp only[go_sem,c290,Vf,Je,Uj,Z1f,h1,h2,h3,h4,h5,h6,h7,ZXd]
def pAt(l:List Pt)(i:Nat):Pt:=l.getD i ⟨0,0⟩
def Z1g{l:List Pt}{i:Nat}(h:i<l.length):l[i]?=some (pAt l i):=by
 simp[pAt,List.getD,ZX5 h]
def YN{l:List Pt}{i:Nat}(h:i<l.length):(l.map Pt.enc)[i]?=some (Pt.enc<|pAt l i):=Z6<|Z1g h
def Jf(p:Pt):Bool:=!gOn p
def Z1h(p:Pt):pfn rE 233 [.agg [I p.X,I p.Y]]=some (.bool<|Jf p):=by
 rw[Z5 (f:=233) rfl rfl];unfold Jf;simp only[go_sem,c233,W8]
def WG{α:Type}(P:α->Bool)(l:List α):Bool:=decide (Zp P l 0>=0)
def Vg{α:Type}(P:α->Bool)(l:List α):WG P l=l.any P:=by
 suffices H:∀(l:List α)(i:Int),0<=i->decide (Zp P l i>=0)=l.any P from H l 0<|by omega
 intro l;induction l with
 |nil=>intro i hi;simp[Zp]
 |cons x r ih=>
  intro i hi;simp only[Zp,ZXR];by_cases h:P x=true
  .simp[h,hi]
  .simp only[ZYj]at h;simpa[h]using ih (i+1)<|by omega
def Z1i(l:List Pt)(ex:Bool)(hl:l.length<=1000000):pfn rE 232 [.isl false ex 2<|l.map Pt.enc,.clo (.func 233) [] []]=some (.bool<|l.any Jf):=by
 have h1:=WF (E:=rE) (f:=287) (sz:=2) (n:=some 2) (enc:=Pt.enc) (p:=Jf) (g:=233) (cap:=[]) rfl rfl rfl l (by omega) (λx _=>x.el) (λx _=>Z1h x) false ex
 rw[Z5 (f:=232) rfl rfl,<-Vg];unfold WG;simp only[go_sem,c232,h1]
def VW(l:List Pt)(n:Int)(i:Nat):Int:=W<|n+W (W ((pAt l i).X*(pAt l<|(i+1)%l.length).Y)-W ((pAt l<|(i+1)%l.length).X*(pAt l i).Y))
def GW(l:List Pt):Int:=(List.range l.length).foldl (VW l) 0
def XF(v:AV):Fr:=[(7,.clo (.func 314) [] [.iptr false [v]]),(6,v),(3,.ptr 0 0 0 1),(2,I 0),(0,v)]
def twH(v:AV)(n:Int):Hp:=[.row 1 [I n],.loop .ready .normal (XF v) [8,9] c234R0a c234R0b]
def Z1j(v:AV)(hv:Zd 2 [v]=true)(hv4:Zd 5 [v]=true)(n:Int)(p a b:Pt):
 U4 rE 1 [.agg [I a.X,I a.Y],.agg [I b.X,I b.Y]] (twH v n++[.row 2 [.agg [I p.X,I p.Y]]]) =
  some (.bool true,twH v (W<|n+W (W (a.X*b.Y)-W (b.X*a.Y)))++[.row 2 [.agg [I p.X,I p.Y]],.row 2 [.agg [I a.X,I a.Y]],.row 2 [.agg [I b.X,I b.Y]]]):=by
 have hb4:bel 5 v=true:=by simpa[Zd]using hv4
 have h:=Ss (E:=rE) (b:=1) (args:=[.agg [I a.X,I a.Y],.agg [I b.X,I b.Y]]) (h:=twH v n++[.row 2 [.agg [I p.X,I p.Y]]]) (fr:=XF v) (ps:=[8,9]) (assign:=c234R0a) (body:=c234R0b)
  (fr0:=(9,.agg [I b.X,I b.Y])::(8,.agg [I a.X,I a.Y])::XF v) rfl rfl (by simp only[go_sem,c234R0a,twH,XF];rfl) (by rfl)
  (by simp only[go_sem,c234R0b,hb4];rfl) (by rfl)
 exact h
def Z1k{E:Env}{g:Nat}{first cap:List AV}{ps:List Nat}{assign body:ACode}{fr:Fr}{h:Hp}{rs:List ResVar}{c:ACode}(hf:E.fn g=some ⟨rs,c⟩):
 rf E (.clo (.func g) first cap) ps assign body fr h=J0 fr h.length (fnd rs<|Zb E c (QP 0<|first++[.yld h.length]++cap)<|h++[.loop .ready .normal fr ps assign body]):=by
 rw[Sq,LD hf];rfl
def Z1l(ex:Bool)(es:List AV)(h:Hp):fnV rE 288 [.isl false ex 2 es] h=some (.clo (.func 314) [] [.iptr false [.isl false ex 2 es]],h):=by
 rw[Q6 (f:=288) rfl rfl];simp only[go_sem,c288]
def Z1m(l:List Pt)(ex:Bool)(hl:l.length<=1000000):pfn rE 234 [.isl false ex 2<|l.map Pt.enc]=some (I<|GW l):=by
 have L:=Y8 (E:=rE) (live:=[0,1,5,6,7]) (b:=c314L0b) l.length (λi=>[(0,.yld 1),(1,.iptr false [.isl false ex 2<|l.map Pt.enc]),(5,.isl false ex 2<|l.map Pt.enc),(6,I l.length),(7,I i)])
  (λi=>twH (.isl false ex 2<|l.map Pt.enc)<|(List.range i).foldl (VW l) 0) (λi=>rfl)
  (λi hi=>by
   have h0:0<l.length:=by omega
   have hg:=YN hi;have hg2:=YN (l:=l)<|ZXX (i+1) h0;have hi':=Zh hi;have hw:=Zx (n:=i)<|by omega
   have hn:=nat_ne h0;have hy:=Z1j (.isl false ex 2<|l.map Pt.enc) rfl rfl ((List.range i).foldl (VW l) 0) (pAt l i) (pAt l i) (pAt l<|(i+1)%l.length);have hs:(List.range<|i+1).foldl (VW l) 0=W ((List.range i).foldl (VW l) 0+W (W ((pAt l i).X*(pAt l<|(i+1)%l.length).Y)-W ((pAt l<|(i+1)%l.length).X*(pAt l i).Y))):=by
    rw[List.range_succ,ZZj];rfl
   rw[hs];generalize W ((List.range i).foldl (VW l) 0+W (W ((pAt l i).X*(pAt l<|(i+1)%l.length).Y)-W ((pAt l<|(i+1)%l.length).X*(pAt l i).Y)))=n' at hy⊢;generalize(List.range i).foldl (VW l) 0=n at hy⊢;simp only[twH,ZXj,ZXm]at hy⊢;refine⟨_,by simp only[go_sem,c314L0b,S3,hg,hg2,hi',hw,hn,Jc,hy,Pt.enc];rfl,?_⟩
   simp only[go_sem])
  (e:=.exit 0) (by simp only[go_sem,twH,c314L0b,ZG];rfl) (by simp)
 have L':Zg rE [0,1,5,6,7] c314L0b [(0,.yld 1),(1,.iptr false [.isl false ex 2<|l.map Pt.enc]),(5,.isl false ex 2<|l.map Pt.enc),(6,I l.length),(7,.int .i64 0)] [.row 1 [.int .i64 0],.loop .ready .normal (XF<|.isl false ex 2<|l.map Pt.enc) [8,9] c234R0a c234R0b]=_:=L;rw[Z5 (f:=234) rfl rfl];have hrf:rf rE (.clo (.func 314) [] [.iptr false [.isl false ex 2<|l.map Pt.enc]]) [8,9] c234R0a c234R0b (XF<|.isl false ex 2<|l.map Pt.enc) [.row 1 [.int .i64 0]]=some (.normal,XF<|.isl false ex 2<|l.map Pt.enc,[.row 1 [I<|GW l],.loop .exhausted .normal (XF<|.isl false ex 2<|l.map Pt.enc) [8,9] c234R0a c234R0b]):=by
  rw[Z1k (c:=c314) rfl];have hb:Zd 2 (frV<|XF<|.isl false ex 2<|l.map Pt.enc)=true:=rfl;simp only[hb,go_sem]at L';simp only[go_sem,c314,c314L0,L',hb];rfl
 unfold XF at hrf;simp only[go_sem,c234,Z1l,Sr,hrf]
def GX(l:List Pt)(i k:Nat):Bool:=!decide (Ui (pAt l i) (pAt l<|(i+1)%l.length) (pAt l k) (pAt l<|(k+1)%l.length)>0)
def Xb(l:List Pt)(i:Nat):Nat:=min l.length<|i+l.length-1
def Jg(l:List Pt)(i:Nat):Bool:=(List.range' (i+2)<|Xb l i-(i+2)).all (GX l i)
def Nh(l:List Pt)(i:Nat):Bool:=Jd (pAt l i) (pAt l<|(i+1)%l.length) (pAt l<|(i+2)%l.length)==0
def Uk(l:List Pt)(i:Nat):Bool:=!Nh l i&&Jg l i
def Ni(l:List Pt):Bool:=(List.range l.length).all (Uk l)
def Dy(l:List Pt)(ex:Bool)(hl:l.length<=1000000)(i:Nat)(hi:i<l.length):
 ∃fr',Zg rE [0,3,4,5,6,7,11,12] c235L0b [(0,.isl false ex 2<|l.map Pt.enc),(3,I l.length),(4,I i),(5,.ptr 0 0 0 1),(6,.ptr 1 0 0 1),(7,I (i+2:Nat)),(11,I l.length),(12,I i)] [.row 2 [.agg [I (pAt l i).X,I (pAt l i).Y]],.row 2 [.agg [I (pAt l<|(i+1)%l.length).X,I (pAt l<|(i+1)%l.length).Y]]] =
  some (if Jg l i=true then .exit 2 else .ret,fr',[.row 2 [.agg [I (pAt l i).X,I (pAt l i).Y]],.row 2 [.agg [I (pAt l<|(i+1)%l.length).X,I (pAt l<|(i+1)%l.length).Y]]])/\(Jg l i=true->(get fr' 2=.bot/\get fr' 0=.isl false ex 2 (l.map Pt.enc)/\get fr' 3=I l.length/\get fr' 11=I l.length/\get fr' 12=I i))/\(Jg l i=false->(get fr' 2=.bool false/\get fr' 0=.isl false ex 2 (l.map Pt.enc)/\get fr' 3=I l.length/\get fr' 11=I l.length/\get fr' 12=I i)):=by
 have h0:0<l.length:=by omega
 have hn:=nat_ne h0;have e1:IntKind.i64.wrap ((i:Int)+(l.length:Int))=((i+l.length:Nat):Int):=by rw[YM (by omega)<|by omega];omega
 have e2:IntKind.i64.wrap (((i+l.length:Nat):Int)-1)=((i+l.length-1:Nat):Int):=by rw[YM (by omega)<|by omega];omega
 have e3:min (l.length:Int) ((i+l.length-1:Nat):Int)=(Xb l i:Int):=by unfold Xb;omega
 have hm:Xb l i<=l.length:=Nat.min_le_left _ _;have L:=QT (E:=rE) (live:=[0,3,4,5,6,7,11,12]) (b:=c235L0b) (h:=[.row 2 [.agg [I (pAt l i).X,I (pAt l i).Y]],.row 2 [.agg [I (pAt l<|(i+1)%l.length).X,I (pAt l<|(i+1)%l.length).Y]]])
  (List.range' (i+2)<|Xb l i-(i+2)) (λ_ k=>GX l i k) (λj=>[(0,.isl false ex 2<|l.map Pt.enc),(3,I l.length),(4,I i),(5,.ptr 0 0 0 1),(6,.ptr 1 0 0 1),(7,I (i+2+j:Nat)),(11,I l.length),(12,I i)]) 2 (λfr=>get fr 2=.bot/\get fr 0=.isl false ex 2 (l.map Pt.enc)/\get fr 3=I l.length/\get fr 11=I l.length/\get fr 12=I i) (λfr=>get fr 2=.bool false/\get fr 0=.isl false ex 2 (l.map Pt.enc)/\get fr 3=I l.length/\get fr 11=I l.length/\get fr 12=I i) (λj=>rfl)
  (λj k hk hP=>by
   obtain⟨rfl,hj⟩:=Dt hk;have hk':i+2+j<Xb l i:=by omega
   have hg:=YN (l:=l) (i:=i+2+j)<|by omega
   have hg2:=YN (l:=l)<|ZXX (i+2+j+1) h0;have hlt:decide (((i+2+j:Nat):Int)<(Xb l i:Int))=true:=decide_eq_true<|by omega
   have hw:=Zx (n:=i+2+j)<|by omega
   have hP':decide (Ui (pAt l i) (pAt l<|(i+1)%l.length) (pAt l<|i+2+j) (pAt l<|(i+2+j+1)%l.length)>0)=false:=by simpa only[GX,ZXn]using hP
   have ea:i+2+(j+1)=i+2+j+1:=by omega
   rw[ea];generalize i+2+j=k at*;refine⟨_,by simp only[go_sem,c235L0b,e1,e2,e3,hlt,hg,hg2,hw,hn,Jc,Pt.enc,Dx,hP'];rfl,?_⟩
   simp only[go_sem])
  (λj k hk hP=>by
   obtain⟨rfl,hj⟩:=Dt hk;have hk':i+2+j<Xb l i:=by omega
   have hg:=YN (l:=l) (i:=i+2+j)<|by omega
   have hg2:=YN (l:=l)<|ZXX (i+2+j+1) h0;have hlt:decide (((i+2+j:Nat):Int)<(Xb l i:Int))=true:=decide_eq_true<|by omega
   have hw:=Zx (n:=i+2+j)<|by omega
   have hP':decide (Ui (pAt l i) (pAt l<|(i+1)%l.length) (pAt l<|i+2+j) (pAt l<|(i+2+j+1)%l.length)>0)=true:=by simpa only[GX,ZYb]using hP
   generalize i+2+j=k at*;refine⟨_,by simp only[go_sem,c235L0b,e1,e2,e3,hlt,hg,hg2,hw,hn,Jc,Pt.enc,Dx,hP'];rfl,?_⟩
   refine⟨?_,?_,?_,?_,?_⟩<;>simp only[go_sem])
  (by
   have hlt:decide (((i+2+(List.range' (i+2)<|Xb l i-(i+2)).length:Nat):Int)<(Xb l i:Int))=false:=by simp;omega
   generalize i+2+(List.range' (i+2)<|Xb l i-(i+2)).length=k at*;exact⟨_,by simp only[go_sem,c235L0b,e1,e2,e3,hlt];rfl,by refine⟨?_,?_,?_,?_,?_⟩<;>simp only[go_sem]⟩)
 rw[QE]at L;exact L
def Z1n(l:List Pt)(ex:Bool)(hl:l.length<=1000000):pfn rE 235 [.isl false ex 2<|l.map Pt.enc]=some (.bool<|Ni l):=by
 have L:=Uf (E:=rE) (live:=[0,3,11,12]) (b:=c235L1b) (h:=[]) (List.range l.length) (λ_ i=>Uk l i) (λi=>[(0,.isl false ex 2<|l.map Pt.enc),(3,I l.length),(11,I l.length),(12,I i)]) 0 (λfr=>get fr 2=.bool false) (λi=>rfl)
  (λi x hx hP=>by
   obtain⟨rfl,hi⟩:=Ds hx;have h0:0<l.length:=by omega
   have hn:=nat_ne h0;have hg:=YN hi;have hg1:=YN (l:=l)<|ZXX (x+1) h0;have hg2:=YN (l:=l)<|ZXX (x+2) h0;have hi':=Zh hi;have hw:=Zx (n:=x)<|by omega
   have hw2:IntKind.i64.wrap ((x:Int)+2)=((x+2:Nat):Int):=by rw[YM (by omega)<|by omega];omega
   have hP':Nh l x=false/\Jg l x=true:=by simpa[Uk]using hP
   have hT:(Jd (pAt l x) (pAt l<|(x+1)%l.length) (pAt l<|(x+2)%l.length)==0)=false:=hP'.1;obtain⟨fr',h1,h2,_⟩:=Dy l ex hl x hi;rw[if_pos hP'.2]at h1;obtain⟨g2,g0,g3,g11,g12⟩:=h2 hP'.2;refine⟨_,by simp only[go_sem,c235L1b,c235L0,hg,hg1,hg2,hi',hw,hw2,hn,Jc,Pt.enc,Ng,hT,h1,g0,g2,g3,g11,g12];rfl,?_⟩
   simp only[go_sem])
  (λi x hx hP=>by
   obtain⟨rfl,hi⟩:=Ds hx;have h0:0<l.length:=by omega
   have hn:=nat_ne h0;have hg:=YN hi;have hg1:=YN (l:=l)<|ZXX (x+1) h0;have hg2:=YN (l:=l)<|ZXX (x+2) h0;have hi':=Zh hi;have hw:=Zx (n:=x)<|by omega
   have hw2:IntKind.i64.wrap ((x:Int)+2)=((x+2:Nat):Int):=by rw[YM (by omega)<|by omega];omega
   cases hT':Nh l x with
   |true=>
    have hT:(Jd (pAt l x) (pAt l<|(x+1)%l.length) (pAt l<|(x+2)%l.length)==0)=true:=hT';refine⟨_,by simp only[go_sem,c235L1b,c235L0,hg,hg1,hg2,hi',hw,hw2,hn,Jc,Pt.enc,Ng,hT];rfl,?_⟩
    simp only[go_sem]
   |false=>
    have hT:(Jd (pAt l x) (pAt l<|(x+1)%l.length) (pAt l<|(x+2)%l.length)==0)=false:=hT';have hI:Jg l x=false:=by simpa[Uk,hT']using hP
    obtain⟨fr',h1,_,h2⟩:=Dy l ex hl x hi;rw[hI]at h1;obtain⟨g2,g0,g3,g11,g12⟩:=h2 hI;refine⟨_,by simp only[go_sem,c235L1b,c235L0,hg,hg1,hg2,hi',hw,hw2,hn,Jc,Pt.enc,Ng,hT,h1,g0,g2,g3,g11,g12,ZX2];rfl,?_⟩
    simp only[go_sem])
  (⟨_,by simp only[go_sem,c235L1b,ZZ0,ZG];rfl⟩)
 rw[QE]at L;obtain⟨fr',h1,h2⟩:=L;have h1':Zg rE [0,3,11,12] c235L1b [(0,.isl false ex 2<|l.map Pt.enc),(3,I l.length),(11,I l.length),(12,.int .i64 0)] []=_:=h1;rw[Z5 (f:=235) rfl rfl];unfold Ni;cases hc:(List.range l.length).all (Uk l)with
 |true=>rw[hc]at h1';simp only[go_sem,c235,c235L1,h1']
 |false=>rw[hc]at h1';simp only[go_sem,c235,c235L1,h1',h2 hc,ZX2]
def Vh(l:List Pt):Bool:=decide ((l.length:Int)>=3)&&(decide ((l.length:Int)<=40)&&(!l.any Jf&&(decide (GW l>0)&&Ni l)))
def Dz(l:List Pt)(ex:Bool)(hl:l.length<=1000000):pfn rE 174 [.isl false ex 2<|l.map Pt.enc]=some (.bool<|Vh l):=by
 have h1:=Z1i l ex hl;have h2:=Z1m l ex hl;have h3:=Z1n l ex hl;rw[Z5 (f:=174) rfl rfl];unfold Vh;cases c1:decide ((l.length:Int)>=3)with
 |false=>simp only[go_sem,c174,c1]
 |true=>
 cases c2:decide ((l.length:Int)<=40)with
 |false=>simp only[go_sem,c174,c1,c2]
 |true=>
 cases c5003:l.any Jf with
 |true=>simp only[go_sem,c174,c1,c2,h1,c5003]
 |false=>
 cases c5004:decide (GW l>0)with
 |false=>simp only[go_sem,c174,c1,c2,h1,h2,c5003,c5004]
 |true=>simp only[go_sem,c174,c1,c2,h1,h2,h3,c5003,c5004]
def VX(l:List Pt)(i:Nat)(x:Pt):Bool:=gOn x&&!(decide ((i:Int)>0)&&QK x (pAt l<|i-1))
def Ul(l:List Pt):Bool:=Zu (VX l) 0 l&&(decide ((l.length:Int)>=2)&&decide ((l.length:Int)<=40))
def Z1o(l:List Pt)(ex:Bool)(hl:l.length<=1000000):pfn rE 176 [.isl false ex 2<|l.map Pt.enc]=some (.bool<|Ul l):=by
 have L:=QT (E:=rE) (live:=[0,5,6,7]) (b:=c176L0b) (h:=[]) l (VX l) (λi=>[(0,.isl false ex 2<|l.map Pt.enc),(5,.isl false ex 2<|l.map Pt.enc),(6,I l.length),(7,I i)]) 0 (λfr=>get fr 0=.isl false ex 2 (l.map Pt.enc)) (λfr=>get fr 2=.bool false) (λi=>rfl)
  (λi x hx hP=>by
   have hg:=Z6 (f:=Pt.enc) hx;have hi:=Zh<|Z7 hx;have hw:=Zx (n:=i) (by have:=Z7 hx;omega)
   have hP1:gOn x=true:=by simp only[VX,ZWT]at hP;exact hP.1
   rcases i with _|j
   .have h0:decide (((0:Nat):Int)>0)=false:=rfl;refine⟨_,by simp only[go_sem,c176L0b,hg,hi,hw,Pt.enc,W8,hP1,h0];rfl,?_⟩
    simp only[go_sem]
   .have h0:decide (((j+1:Nat):Int)>0)=true:=decide_eq_true (by omega)
    have hs:IntKind.i64.wrap (((j+1:Nat):Int)-1)=((j:Nat):Int):=by rw[YM (by omega) (by have:=Z7 hx;omega)];omega
    have hg1:=YN (l:=l) (i:=j) (by have:=Z7 hx;omega)
    have hP2:(x.X==(pAt l j).X&&x.Y==(pAt l j).Y)=false:=by
     have:VX l (j+1) x=(gOn x&&!(decide (((j+1:Nat):Int)>0)&&QK x (pAt l j))):=rfl;rw[this,hP1,h0]at hP;simp only[ZWR,ZXn]at hP;exact hP
    refine⟨_,by simp only[go_sem,c176L0b,hg,hg1,hi,hw,hs,Pt.enc,W8,hP1,h0,hP2];rfl,?_⟩
    simp only[go_sem])
  (λi x hx hP=>by
   have hg:=Z6 (f:=Pt.enc) hx;have hi:=Zh<|Z7 hx;cases hP1:gOn x with
   |false=>
    refine⟨_,by simp only[go_sem,c176L0b,hg,hi,Pt.enc,W8,hP1];rfl,?_⟩
    simp only[go_sem]
   |true=>
    rcases i with _|j
    .simp[VX,hP1]at hP
    .have h0:decide (((j+1:Nat):Int)>0)=true:=decide_eq_true (by omega)
     have hs:IntKind.i64.wrap (((j+1:Nat):Int)-1)=((j:Nat):Int):=by rw[YM (by omega) (by have:=Z7 hx;omega)];omega
     have hg1:=YN (l:=l) (i:=j) (by have:=Z7 hx;omega)
     have hP2:(x.X==(pAt l j).X&&x.Y==(pAt l j).Y)=true:=by
      have:VX l (j+1) x=(gOn x&&!(decide (((j+1:Nat):Int)>0)&&QK x (pAt l j))):=rfl;rw[this,hP1,h0]at hP;simp only[ZWR,ZYb]at hP;exact hP
     refine⟨_,by simp only[go_sem,c176L0b,hg,hg1,hi,hs,Pt.enc,W8,hP1,h0,hP2];rfl,?_⟩
     simp only[go_sem])
  (⟨_,by simp only[go_sem,c176L0b,ZG];rfl,by simp only[go_sem]⟩)
 obtain⟨fr',h1,h2,h3⟩:=L;have h1':Zg rE [0,5,6,7] c176L0b [(0,.isl false ex 2<|l.map Pt.enc),(5,.isl false ex 2<|l.map Pt.enc),(6,I l.length),(7,.int .i64 0)] []=_:=h1;rw[Z5 (f:=176) rfl rfl];unfold Ul;cases hc:Zu (VX l) 0 l with
 |true=>
  rw[hc]at h1';cases c1:decide ((l.length:Int)>=2)<;>simp only[go_sem,c176,c176L0,h1',h2 hc,c1]
 |false=>rw[hc]at h1';simp only[go_sem,c176,c176L0,h1',h3 hc,ZX2]
def Vi:List bf:=[⟨0,0⟩,⟨1,9⟩,⟨1,8⟩,⟨1,7⟩,⟨1,6⟩,⟨1,5⟩,⟨2,9⟩,⟨1,4⟩,⟨2,7⟩,⟨1,3⟩,⟨3,8⟩,⟨2,5⟩,⟨3,7⟩,⟨4,9⟩,⟨1,2⟩,⟨5,9⟩,⟨4,7⟩,⟨3,5⟩,⟨5,8⟩,⟨2,3⟩,⟨5,7⟩,⟨3,4⟩,⟨7,9⟩,⟨4,5⟩,⟨5,6⟩,⟨6,7⟩,⟨7,8⟩,⟨8,9⟩]
def Jh(l:List bf):List AV:=l.flatMap λp=>[I p.a,I p.b]
def Nj:∀(l:List bf)(i:Nat)(x:bf),l[i]?=some x->∃r,(Jh l).drop (i*2)=I x.a::I x.b::r
 |[],i,x,h=>by simp at h
 |y::r,0,x,h=>by
  simp at h;subst h;exact⟨Jh r,rfl⟩
 |y::r,i+1,x,h=>by
  obtain⟨t,ht⟩:=Nj r i x<|by simpa using h
  refine⟨t,?_⟩;rw[<-ht];have:(i+1)*2=i*2+1+1:=by omega
  rw[this];rfl
set_option maxRecDepth 4000 in
def DA:pfn rE 294 []=some (.agg<|Jh Vi):=by
 rw[Z5 (f:=294) rfl rfl];simp only[go_sem,c294,Jh,Vi,List.flatMap_cons,List.flatMap_nil]
def Nl(a b:Int):Int:=Zp (λp:bf=>p.a==a&&p.b==b) Vi 0
def Z1p(a b:Int):pfn rE 242 [I a,I b]=some (I<|Nl a b):=by
 have L:=ZDU (E:=rE) (live:=[0,1,7,8]) (b:=c242L0b) (h:=[]) Vi (λp:bf=>p.a==a&&p.b==b) (λi=>[(0,I a),(1,I b),(7,.agg<|Jh Vi),(8,I i)]) 0 (λi fr=>get fr 4=I i) (λi=>rfl)
  (λi x hx hP=>by
   have hlt:i<28:=Z7 hx;have hi:decide ((i:Int)<28)=true:=decide_eq_true<|by omega
   have hb:(0<=(i:Int)/\(i:Int)<((28:Nat):Int))=True:=by simp;omega
   have hw:=Zx (n:=i)<|by omega
   have hn:((i:Int)).toNat=i:=rfl;obtain⟨r,hr⟩:=Nj _ i x hx;refine⟨_,by simp only[go_sem,c242L0b,hi,hb,hn,hr,hP,hw,if_true];rfl,?_⟩
   simp only[go_sem])
  (λi x hx hP=>by
   have hlt:i<28:=Z7 hx;have hi:decide ((i:Int)<28)=true:=decide_eq_true<|by omega
   have hb:(0<=(i:Int)/\(i:Int)<((28:Nat):Int))=True:=by simp;omega
   have hn:((i:Int)).toNat=i:=rfl;obtain⟨r,hr⟩:=Nj _ i x hx;refine⟨_,by simp only[go_sem,c242L0b,hi,hb,hn,hr,hP,if_true];rfl,?_⟩
   simp only[go_sem])
  (⟨_,by
    have hi:decide ((Vi.length:Int)<28)=false:=rfl;simp only[go_sem,c242L0b,hi];rfl⟩)
 obtain⟨fr',h1,h2⟩:=L;have h1':Zg rE [0,1,7,8] c242L0b [(0,I a),(1,I b),(7,.agg<|Jh Vi),(8,.int .i64 0)] []=_:=h1;rw[Z5 (f:=242) rfl rfl];unfold Nl;by_cases hc:Zp (λp:bf=>p.a==a&&p.b==b) Vi 0=-1
 .rw[hc]at h1'⊢;simp only[go_sem,c242,c242L0,DA,h1']
 .obtain⟨i,hi,hq⟩:=h2 hc;rw[if_neg hc]at h1';simp only[go_sem,c242,c242L0,DA,h1',hq,hi]
def Vj(s:Str)(i:Nat):Int:=((s.data[i]?).map λb=>((b.toNat:Nat):Int)).getD 0
def letterT(s:Str):Bool:=Z3 s emp||((s.size:Int)==1&&(decide (Vj s 0>=97)&&decide (Vj s 0<=122)))
def Z1q(s:Str):pfn rE 241 [.str s]=some (.bool<|letterT s):=by
 rw[Z5 (f:=241) rfl rfl];unfold letterT;cases c1:Z3 s emp with
 |true=>simp only[go_sem,c241,c1]
 |false=>
 cases c2:((s.size:Int)==1)with
 |false=>simp only[go_sem,c241,c1,c2]
 |true=>
  have hs:0<s.data.size:=by
   have:s.size=1:=by simp at c2;omega
   show 0<s.size;omega
  have h0:s.data[(0:Int).toNat]?=some s.data[0]:=by simp
  have hb:Vj s 0=((s.data[0].toNat:Nat):Int):=by
   have h0':s.data[0]?=some s.data[0]:=h0;unfold Vj;rw[h0'];rfl
  cases c5003:decide (Vj s 0>=97)<;>rw[hb]at c5003⊢<;>simp only[go_sem,c241,c1,c2,h0,c5003,ZXo,Int.le_refl,if_true]
def YO(n:HN):Bool:=decide (n.N>=1)&&(decide (n.N<=9999)&&(letterT n.bm&&decide (Nl n.Num n.Den>=0)))
def Ji(n:HN):pfn rE 183 [.agg [I n.N,.str n.bm,I n.Num,I n.Den]]=some (.bool<|YO n):=by
 rw[Z5 (f:=183) rfl rfl];unfold YO;cases c1:decide (n.N>=1)with
 |false=>simp only[go_sem,c183,c1]
 |true=>
 cases c2:decide (n.N<=9999)with
 |false=>simp only[go_sem,c183,c1,c2]
 |true=>
 cases c5003:letterT n.bm<;>simp only[go_sem,c183,c1,c2,Z1q,Z1p,c5003]
attribute [go_sem] Z19 Z1a Z1b
@[irreducible] def Qj:List AV:=List.replicate 256<|.int .i64 0
def VY:Qj.length=256:=by unfold Qj;exact ZZf
def GY:Qj.all scalar=true:=by
 unfold Qj;rw[ZXl];intro x hx;rw[ZYQ hx];rfl
def VZ(l:List AV)(b:Nat)(c:Int):List AV:=l.take b++[I c]++l.drop (b+1)
def ZT(c:Int)(bs:List UInt8)(l:List AV):List AV:=bs.foldl (λl b=>VZ l b.toNat c) l
def Z1r{l:List AV}{b:Nat}(c:Int)(h:b<l.length):(VZ l b c).length=l.length:=by
 simp[VZ];omega
def XG(c:Int):∀(bs:List UInt8)(l:List AV),l.length=256->(ZT c bs l).length=256
 |[],l,h=>h
 |b::r,l,h=>by
  have hb:b.toNat<256:=b.toNat_lt;exact XG c r _<|by rw[Z1r c<|by omega];exact h
def Z1s(s:Str)(c:Int)(l0:List AV)(h0:l0.length=256)(hs:s.data.size<1000000):
 fnV rE 307 [.str s,I c,.ptr 1 0 0 1] [.row 256 [.agg Qj],.row 256 [.agg l0]]=some (.tup [],[.row 256 [.agg Qj],.row 256 [.agg<|ZT c s.data.toList l0]]):=by
 have L:=Y8 (E:=rE) (live:=[0,1,2,5]) (b:=c307L0b) s.size (λi=>[(0,.str s),(1,I c),(2,.ptr 1 0 0 1),(5,I i)]) (λi=>[.row 256 [.agg Qj],.row 256 [.agg<|ZT c (s.data.toList.take i) l0]]) (λi=>rfl)
  (λi hi=>by
   have hi0:i<s.data.size:=hi;have hi':=Zh hi;have hw:=Zx (n:=i)<|by omega
   have hg:s.data[i]?=some s.data[i]:=by simp[hi0]
   have hn:((i:Int)).toNat=i:=rfl;have e1:s.data.toList.take (i+1)=s.data.toList.take i++[s.data[i]]:=by
    rw[ZYx];congr 1;simp[hi0]
   have e2:ZT c (s.data.toList.take<|i+1) l0=VZ (ZT c (s.data.toList.take i) l0) s.data[i].toNat c:=by
    rw[e1];simp[ZT]
   rw[e2];have hl:=XG c (s.data.toList.take i) l0 h0;generalize ZT c (s.data.toList.take i) l0=l at hl⊢;generalize s.data[i]=b at hg⊢;have hb:b.toNat<256:=b.toNat_lt;have hb':(0<=((b.toNat:Nat):Int)/\((b.toNat:Nat):Int)<((256:Nat):Int))=True:=by simp;omega
   have hbn:(((b.toNat:Nat):Int)).toNat=b.toNat:=rfl;have hle:decide (b.toNat+1<=l.length)=true:=decide_eq_true<|by omega
   have hi0':(0<=(i:Int))=True:=by simp
   refine⟨_,by simp only[go_sem,c307L0b,hi',hi0',hw,hn,hg,hb',hbn,hle,if_true,ZXo,ZXf,ZXA];rfl,?_⟩
   simp only[go_sem])
  (e:=.exit 0) (by simp only[go_sem,c307L0b,ZG];rfl) (by simp)
 have L':Zg rE [0,1,2,5] c307L0b [(0,.str s),(1,I c),(2,.ptr 1 0 0 1),(5,.int .i64 0)] [.row 256 [.agg Qj],.row 256 [.agg l0]]=_:=L;rw[Q6 (f:=307) rfl rfl];have e3:s.data.toList.take s.size=s.data.toList:=by
  apply ZXp;exact Nat.le_of_eq<|ZXD
 rw[e3]at L';simp only[go_sem,c307,c307L0,L']
def WH(l:List UInt8)(c:Int)(l0:List AV)(hl:l.length<100)(h0:l0.length=256):
 fnV rE 307 [.str<|B l,I c,.ptr 1 0 0 1] [.row 256 [.agg Qj],.row 256 [.agg l0]]=some (.tup [],[.row 256 [.agg Qj],.row 256 [.agg<|ZT c l l0]]):=
 Z1s (B l) c l0 h0 (Nat.lt_trans hl<|by decide)
def Um:List UInt8:=[97,98,99,100,101,102,103,104,105,106,107,108,109,110,111,112,113,114,115,116,117,118,119,120,121,122,65,66,67,68,69,70,71,72,73,74,75,76,77,78,79,80,81,82,83,84,85,86,87,88,89,90]
def Qe:List AV:=ZT 9 [59,44,46,58,40,41,91,93,123,125,61,43,45]<|ZT 8 [60,62]<|ZT 7 [33]<|ZT 6 [34]<|ZT 2 [35]<|ZT 1 [32,9,10]<|ZT 5 [95]<|ZT 4 [48,49,50,51,52,53,54,55,56,57]<|ZT 3 Um Qj
def DB:ACode:=
 .seq (.region [o 3<|.mkf (.func 307) [] [(.t 1)],
  o 2 (.mv<|.t 3)])<|
.seq (.region [o 4<|.mv<|.t 2,
 o 5 (.callv false (.t 4) [(.c<|.str<|B Um),(.c<|.int .i64 3)])])<|
.seq (.region [o 6<|.mv<|.t 2,
 o 7 (.callv false (.t 6) [(.c<|.str<|B [48,49,50,51,52,53,54,55,56,57]),(.c<|.int .i64 4)])])<|
.seq (.region [o 8<|.mv<|.t 2,
 o 9 (.callv false (.t 8) [(.c<|.str<|B [95]),(.c<|.int .i64 5)])])<|
.seq (.region [o 10<|.mv<|.t 2,
 o 11 (.callv false (.t 10) [(.c<|.str<|B [32,9,10]),(.c<|.int .i64 1)])])<|
.seq (.region [o 12<|.mv<|.t 2,
 o 13 (.callv false (.t 12) [(.c<|.str<|B [35]),(.c<|.int .i64 2)])])<|
.seq (.region [o 14<|.mv<|.t 2,
 o 15 (.callv false (.t 14) [(.c<|.str<|B [34]),(.c<|.int .i64 6)])])<|
.seq (.region [o 16<|.mv<|.t 2,
 o 17 (.callv false (.t 16) [(.c<|.str<|B [33]),(.c<|.int .i64 7)])])<|
.seq (.region [o 18<|.mv<|.t 2,
 o 19 (.callv false (.t 18) [(.c<|.str<|B [60,62]),(.c<|.int .i64 8)])])<|
.seq (.region [o 20<|.mv<|.t 2,
 o 21 (.callv false (.t 20) [(.c<|.str<|B [59,44,46,58,40,41,91,93,123,125,61,43,45]),(.c<|.int .i64 9)])])<|
.seq (.region [o 22<|.load (some 256)<|.t 1,
 ⟨none,.store 256 (.t 0)<|.t 22,none⟩])<|
.ret
def GZ:ACode:=.seq (.region [o 0<|.box 256<|.c<|.agg Qj])<|.seq (.region [o 1<|.box 256<|.c<|.agg Qj]) DB
def c284_eq:c284=GZ:=by
 unfold GZ Qj;kernel_rfl
def W9(c:Int):∀(bs:List UInt8)(l:List AV),l.all scalar=true->(ZT c bs l).all scalar=true
 |[],l,h=>h
 |b::r,l,h=>by
  refine W9 c r _ ?_;simp only[VZ,List.all_append,ZXz,ZYg,scalar_int,ZWW,ZWT];rw[ZXl]at h⊢;exact⟨λx hx=>h x<|ZYl hx,ZXl.2 λx hx=>h x<|ZYJ hx⟩
def cl0:List AV:=ZT 3 Um Qj
def Nn:cl0.length=256:=XG _ _ _ VY
def DC:cl0.all scalar=true:=W9 _ _ _ GY
def Z1t:ZT 3 Um Qj=cl0:=rfl
def cl1:List AV:=ZT 4 [48,49,50,51,52,53,54,55,56,57] cl0
def Np:cl1.length=256:=XG _ _ _ Nn
def DD:cl1.all scalar=true:=W9 _ _ _ DC
def Z1u:ZT 4 [48,49,50,51,52,53,54,55,56,57] cl0=cl1:=rfl
def cl2:List AV:=ZT 5 [95] cl1
def Nq:cl2.length=256:=XG _ _ _ Np
def DE:cl2.all scalar=true:=W9 _ _ _ DD
def Z1v:ZT 5 [95] cl1=cl2:=rfl
def cl3:List AV:=ZT 1 [32,9,10] cl2
def Nr:cl3.length=256:=XG _ _ _ Nq
def DF:cl3.all scalar=true:=W9 _ _ _ DE
def Z1w:ZT 1 [32,9,10] cl2=cl3:=rfl
def cl4:List AV:=ZT 2 [35] cl3
def Ns:cl4.length=256:=XG _ _ _ Nr
def DG:cl4.all scalar=true:=W9 _ _ _ DF
def Z1x:ZT 2 [35] cl3=cl4:=rfl
def cl5:List AV:=ZT 6 [34] cl4
def Nt:cl5.length=256:=XG _ _ _ Ns
def DH:cl5.all scalar=true:=W9 _ _ _ DG
def Z1y:ZT 6 [34] cl4=cl5:=rfl
def cl6:List AV:=ZT 7 [33] cl5
def Nu:cl6.length=256:=XG _ _ _ Nt
def DI:cl6.all scalar=true:=W9 _ _ _ DH
def Z1z:ZT 7 [33] cl5=cl6:=rfl
def cl7:List AV:=ZT 8 [60,62] cl6
def Nv:cl7.length=256:=XG _ _ _ Nu
def DJ:cl7.all scalar=true:=W9 _ _ _ DI
def Z1A:ZT 8 [60,62] cl6=cl7:=rfl
def cl8:List AV:=ZT 9 [59,44,46,58,40,41,91,93,123,125,61,43,45] cl7
def Nw:cl8.length=256:=XG _ _ _ Nv
def DK:cl8.all scalar=true:=W9 _ _ _ DJ
def Z1B:ZT 9 [59,44,46,58,40,41,91,93,123,125,61,43,45] cl7=cl8:=rfl
def Z1C:Qe=cl8:=rfl
def Ny:Qe.length=256:=Nw
def DL:Qe.all scalar=true:=DK
def Z1D{l:List AV}(h:l.length=256):List.take 256 l=l:=ZXp<|by omega
def DM{l:List AV}(h:l.length=256):List.drop 256 l=[]:=List.drop_of_length_le<|by omega
def Wa(c:Int):∀(bs:List UInt8)(l:List AV),Z4 l=true->Z4 (ZT c bs l)=true
 |[],l,h=>h
 |b::r,l,h=>by
  refine Wa c r _ ?_;have h2:Z4 (l.take b.toNat)=true/\Z4 (l.drop b.toNat)=true:=by
   rw[<-ZWT,<-XA,ZXW];exact h
  have h3:Z4 (l.drop<|b.toNat+1)=true:=by
   cases hd:l.drop b.toNat with
   |nil=>have:l.drop (b.toNat+1)=[]:=by rw[<-ZXZ,hd];rfl
         rw[this];rfl
   |cons x t=>have:l.drop (b.toNat+1)=t:=by rw[<-ZXZ,hd];rfl
              rw[this];have:=h2.2;rw[hd]at this;simp[Z4]at this;exact this.2
  simp only[VZ,XA,h2.1,h3,N1,Dk,Dj,ZX8]
def DN:Z4 Qj=true:=by unfold Qj;kernel_rfl
def Un:Z4 Qe=true:=by
 unfold Qe;exact Wa _ _ _<|Wa _ _ _<|Wa _ _ _<|Wa _ _ _<|Wa _ _ _<|Wa _ _ _<|Wa _ _ _<|Wa _ _ _<|Wa _ _ _ DN
def DO:pfn rE 284 []=some (.agg Qe):=by
 have hz:List.take 256 cl8=cl8:=Z1D Nw;have hz2:List.drop 256 Qj=[]:=DM VY;have hc:Z4 cl8=true:=Un;have f0:=WH Um 3 Qj (by decide) VY
 have f1:=WH [48,49,50,51,52,53,54,55,56,57] 4 cl0 (by decide) Nn
 have f2:=WH [95] 5 cl1 (by decide) Np
 have f3:=WH [32,9,10] 1 cl2 (by decide) Nq
 have f4:=WH [35] 2 cl3 (by decide) Nr
 have f5:=WH [34] 6 cl4 (by decide) Ns
 have f6:=WH [33] 7 cl5 (by decide) Nt
 have f7:=WH [60,62] 8 cl6 (by decide) Nu
 have f8:=WH [59,44,46,58,40,41,91,93,123,125,61,43,45] 9 cl7 (by decide) Nv
 rw[Z5 (f:=284) (c:=GZ) rfl (by rw[<-c284_eq];rfl),Z1C]
 simp only[go_sem,GZ,DB,VY,GY,RL,f0,f1,f2,f3,f4,f5,f6,f7,f8,Nw,DK,Z1t,Z1u,Z1v,Z1w,Z1x,Z1y,Z1z,Z1A,Z1B,hz,hz2,hc,ZXe]
def isI(v:AV):Bool:=match v with| .int .i64 _=>true|_=>false
def Z1E{v:AV}(h:isI v=true):∃n,v=I n:=by
 cases v with
 |int k n=>cases k<;>first|exact⟨n,rfl⟩|simp[isI]at h
 |_=>simp[isI]at h
def Wb(c:Int):∀(bs:List UInt8)(l:List AV),l.all isI=true->(ZT c bs l).all isI=true
 |[],l,h=>h
 |b::r,l,h=>by
  refine Wb c r _ ?_;simp only[VZ,List.all_append,ZXz,ZYg,ZWW,ZWT];rw[ZXl]at h;exact⟨⟨ZXl.2 λx hx=>h x<|ZYl hx,rfl⟩,ZXl.2 λx hx=>h x<|ZYJ hx⟩
def Z1F:Qe.all isI=true:=by
 have hz:Qj.all isI=true:=by
  unfold Qj;rw[ZXl];intro x hx;rw[ZYQ hx];rfl
 unfold Qe;exact Wb _ _ _<|Wb _ _ _<|Wb _ _ _<|Wb _ _ _<|Wb _ _ _<|Wb _ _ _<|Wb _ _ _<|Wb _ _ _<|Wb _ _ _ hz
def intOf(v:AV):Int:=match v with| .int _ n=>n|_=>0
def K1(k:Nat):Int:=intOf<|Qe.getD k .bot
def Z1G{k:Nat}(h:k<256):Qe.drop k=I (K1 k)::Qe.drop (k+1):=by
 have hk:k<Qe.length:=by rw[Ny];exact h
 rw[ZY4 hk];have h1:=ZXl.1 Z1F _<|ZYt hk;obtain⟨n,hn⟩:=Z1E h1;have:K1 k=n:=by
  unfold K1;rw[List.getD,ZX5 hk,hn];rfl
 rw[this,hn]
def Xc(s:Str)(i:Nat):Nat:=(s.data.getD i 0).toNat
def atT(s:Str)(i:Nat):Int:=bif decide ((i:Int)>=(s.size:Int))then 0 else K1<|Xc s i
def DP(s:Str)(i:Nat):Xc s i<256:=UInt8.toNat_lt _
def DQ{s:Str}{i:Nat}(h:i<s.size):s.data[i]?=some (s.data.getD i 0):=by
 have h':i<s.data.size:=h;have e:s.data[i]?=some s.data[i]:=ZXH h';rw[ZXC,e];rfl
def H0(s:Str)(i:Nat):pfn rE 309 [.iptr true<|.str s::Qe,I i]=some (I<|atT s i):=by
 rw[Z5 (f:=309) rfl rfl];unfold atT;cases hc:decide ((i:Int)>=(s.size:Int))with
 |true=>simp only[go_sem,c309,hc]
 |false=>
  have hi:i<s.size:=by have:=of_decide_eq_false hc;omega
  have hg:=DQ hi;have h0:(0<=(i:Int))=True:=by simp
  have hn:((i:Int)).toNat=i:=rfl;have hb:=DP s i;have hd:=Z1G hb;have hb':(0<=((Xc s i:Nat):Int)/\((Xc s i:Nat):Int)<((256:Nat):Int))=True:=by simp;omega
  have hbn:(((Xc s i:Nat):Int)).toNat=Xc s i:=rfl;have e:(s.data.getD i 0).toNat=Xc s i:=rfl;simp only[go_sem,c309,hc,h0,hn,hg,if_true,ZXo,e,hb',hbn,ZXA,hd]
def Jj(n:Option Nat)(sz:Nat)(q:AOp):ACode:=
 .keep [0,1,4,7,8]<|.seq (.region [o 9<|.bin .lss (.t 8)<|.t 7])<|
  .seq (.cond (.t 9) (.skip)<|.exit 0)<|
  .seq (.keep [0,1,4,7,8]<|.block 1<|
   .seq (.region [o 10<|.mv<|.t 8,o 5<|.mv<|.t 10])<|
   .seq (.keep [0,1,5,7,8,16]<|.region [o 11<|.mv<|.t 1,o 12<|.mv<|.t 0,o 13<|.mv<|.t 5,o 14<|.iadr sz (.t 12)<|.t 13,o 15<|.load n<|.t 14,o 16 q])<|
   .cond (.t 16) (.seq (.region [o 17<|.mv<|.t 5,o 4<|.mv<|.t 17])<|.ret) (.skip))<|
  .region [o 18<|.bin .add (.t 8)<|.c<|.int .i64 1,o 8<|.mv<|.t 18]
def ixC(n:Option Nat)(sz:Nat)(q:AOp):ACode:=
 .seq (.region [o 4<|.mv<|.c<|.int .i64 0])<|
 .seq (.seq (.keep [0,1,7,8]<|.region [o 6<|.mv<|.t 0,o 7<|.len 1<|.t 6,o 8<|.mv<|.c<|.int .i64 0])<|
 .keep [4]<|.block 0<|.loop [0,1,7,8]<|Jj n sz q)<|
 .seq (.region [o 4<|.mv<|.c<|.int .i64<|-1])<|
 .ret
def Nz{α:Type}{f:Nat}{enc:α->AV}{p:α->Bool}{v:AV}(hs:rE.sum f=none)(hf:rE.fn f=some ⟨[.tmp 4],ixC none 1<|.bin .eql (.t 11)<|.t 15⟩)(l:List α)(hl:l.length<=4611686018427387904)
 (henc:∀x∈l,(enc x).cells=[enc x]) (hv:clean v=true) (hp:∀x∈l,YZ .eql v (enc x)=some (.bool<|p x)) (bw ex:Bool):pfn rE f [.isl bw ex 1<|l.map enc,v]=some (I<|Zp p l 0):=by
 have L:=ZDU (E:=rE) (live:=[0,1,7,8]) (b:=Jj none 1<|.bin .eql (.t 11)<|.t 15) (h:=[]) l p (λi=>[(0,.isl bw ex 1<|l.map enc),(1,v),(7,I l.length),(8,I i)]) 0 (λi fr=>get fr 4=I i) (λi=>rfl)
  (λi x hx hP=>by
   have hg:=Z6 (f:=enc) hx;have hi:=Zh<|Z7 hx;have hw:=Zx (n:=i) (by have:=Z7 hx;omega)
   have hm:=ZXk hx;have he:=henc x hm;have hq:=hp x hm;rw[hP]at hq;simp only[go_sem]at hq;refine⟨_,by simp only[go_sem,Jj,hg,hi,hw,he,hq];rfl,?_⟩
   simp only[go_sem])
  (λi x hx hP=>by
   have hg:=Z6 (f:=enc) hx;have hi:=Zh<|Z7 hx;have hm:=ZXk hx;have he:=henc x hm;have hq:=hp x hm;rw[hP]at hq;simp only[go_sem]at hq;refine⟨_,by simp only[go_sem,Jj,hg,hi,he,hq];rfl,?_⟩
   simp only[go_sem])
  (⟨_,by simp only[go_sem,Jj,ZG];rfl⟩)
 obtain⟨fr',h1,h2⟩:=L;have h1':Zg rE [0,1,7,8] (Jj none 1<|.bin .eql (.t 11)<|.t 15) [(0,.isl bw ex 1<|l.map enc),(1,v),(7,I l.length),(8,.int .i64 0)] []=_:=h1;rw[Z5 (f:=f) hs hf];by_cases hc:Zp p l 0=-1
 .rw[hc]at h1'⊢;simp only[go_sem,ixC,h1']
 .obtain⟨i,hi,hq⟩:=h2 hc;rw[if_neg hc]at h1';simp only[go_sem,ixC,h1',hq,hi]
def DR(l:List Int)(ex:Bool)(v:Int)(hl:l.length<=1000000):pfn rE 120 [.isl false ex 1<|l.map I,I v]=some (.bool<|l.any<|λx=>v==x):=by
 have h:=Nz (f:=208) (enc:=I) (p:=λx=>v==x) (v:=I v) rfl rfl l (by omega) (λx _=>rfl) rfl (λx _=>rfl) false ex
 rw[Z5 (f:=120) rfl rfl,<-Vg];unfold WG;simp only[go_sem,c120,h]
def Xd(s:Str)(cs:List Int):Nat->Nat->Nat
 |0,i=>i
 |k+1,i=>bif decide ((i:Int)<(s.size:Int))&&cs.any (λx=>atT s i==x)then Xd s cs k (i+1)else i
def ZI(s:Str)(cs:List Int)(i:Nat):Nat:=Xd s cs (s.size-i) i
def NA(s:Str)(cs:List Int):∀k i,i<=Xd s cs k i/\Xd s cs k i<=i+k
 |0,i=>by simp[Xd]
 |k+1,i=>by
  unfold Xd;cases decide ((i:Int)<(s.size:Int))&&cs.any (λx=>atT s i==x)with
  |true=>have:=NA s cs k<|i+1;simp only[cond_true];omega
  |false=>simp
def K2(s:Str)(cs:List Int)(i:Nat):i<=ZI s cs i:=(NA s cs _ i).1
def K3(s:Str)(cs:List Int){i:Nat}(h:i<=s.size):ZI s cs i<=s.size:=by
 have:=(NA s cs (s.size-i) i).2;unfold ZI;omega
def NB(s:Str)(cs:List Int){i:Nat}(h:i<s.size):ZI s cs i=bif cs.any (λx=>atT s i==x)then ZI s cs (i+1)else i:=by
 unfold ZI;have e:s.size-i=(s.size-(i+1))+1:=by omega
 rw[e,Xd];have:decide ((i:Int)<(s.size:Int))=true:=Zh h;rw[this,ZWR]
def H1(s:Str)(cs:List Int)(i:Nat)(hs:s.size<=1000000)(hi:i<=s.size)(hc:cs.length<=1000):pfn rE 308 [.iptr true<|.str s::Qe,I i,.isl false false 1<|cs.map I]=some (I<|ZI s cs i):=by
 have L:∀k i,s.size-i=k->i<=s.size->Zg rE [0,1,2] c308L0b [(0,.iptr true<|.str s::Qe),(1,I i),(2,.isl false false 1<|cs.map I)] []=some (.exit 0,[(0,.iptr true<|.str s::Qe),(1,I (Xd s cs k i:Nat)),(2,.isl false false 1<|cs.map I)],[]):=by
  intro k;induction k with
  |zero=>
   intro i hk hi;have:i=s.size:=by omega
   subst this;exact Q7 rfl (by simp only[go_sem,c308L0b,ZG];rfl) (by simp)
  |succ k ih=>
   intro i hk hi;have hlt:decide ((i:Int)<(s.size:Int))=true:=Zh<|by omega
   have ha:=H0 s i;have hh:=DR cs false (atT s i)<|by omega
   have hw:=Zx (n:=i)<|by omega
   unfold Xd;rw[hlt,ZWR];cases hb:cs.any (λx=>atT s i==x)with
   |true=>
    rw[hb]at hh;rw[cond_true,<-ih (i+1) (by omega) (by omega)]
    refine(Yt rfl (by simp only[go_sem,c308L0b,hlt,ha,hh,hw];rfl)).trans ?_
    simp only[go_sem]
   |false=>
    rw[hb]at hh;rw[cond_false];exact Q7 rfl (by simp only[go_sem,c308L0b,hlt,ha,hh]) (by simp)
 have L':=L _ i rfl hi;rw[Z5 (f:=308) rfl rfl];unfold ZI;simp only[go_sem,c308,c308L0,L']
def nlB(c:UInt8):Bool:=((c.toNat:Nat):Int)==10
def Wd(s:Str)(i:Nat):Int:=Yc nlB (s.extract i s.size).data.toList 0
def K4(s:Str):Nat->Nat->Nat
 |0,i=>i
 |k+1,i=>bif atT s i==2 then(bif decide (Wd s i<0)then s.size else K4 s k<|ZI s [1]<|i+(Wd s i).toNat)else i
def YP(s:Str)(i:Nat):Nat:=K4 s (s.size+1)<|ZI s [1] i
def H2(p:UInt8->Bool):∀(l:List UInt8)(k:Nat),Yc p l k=-1\/∃j:Nat,Yc p l k=((k+j:Nat):Int)/\j<l.length/\∃c,l[j]?=some c/\p c=true
 |[],k=>Or.inl rfl
 |c::r,k=>by
  unfold Yc;cases hp:p c with
  |true=>right;exact⟨0,by simp,by simp,c,by simp,hp⟩
  |false=>
   rw[cond_false];have e:(k:Int)+1=((k+1:Nat):Int):=by omega
   rw[e];rcases H2 p r (k+1)with h|⟨j,h1,h2,c2,h3,h4⟩
   .exact Or.inl h
   .right;refine⟨j+1,?_,by simp;omega,c2,by simpa using h3,h4⟩
    rw[h1];omega
def ext_list(s:Str)(i j:Nat):(s.extract i j).data.toList=(s.data.toList.drop i).take (j-i):=by
 rw[ByteArray.data_extract,Array.toList_extract,List.extract_eq_take_drop]
def Z1H(s:Str)(i:Nat):Wd s i=-1\/∃j:Nat,Wd s i=(j:Int)/\i+j<s.size/\Xc s (i+j)=10:=by
 unfold Wd;rcases H2 nlB (s.extract i s.size).data.toList 0 with h|⟨j,h1,h2,c,h3,h4⟩
 .exact Or.inl h
 .right;rw[ext_list]at h2 h3;have hsz:s.data.toList.length=s.size:=ZXD;refine⟨j,by exact h1.trans (by simp),?_,?_⟩
  .simp at h2;have:s.data.size=s.size:=rfl;omega
  .have h5:s.data.toList[i+j]?=some c:=by
    rw[List.getElem?_take,ZYd]at h3;split at h3
    .exact h3
    .cases h3
   have h6:s.data[i+j]?=some c:=by simpa using h5
   have:Xc s (i+j)=c.toNat:=by unfold Xc;rw[ZXC,h6];rfl
   rw[this];have:((c.toNat:Nat):Int)=10:=by simpa[nlB]using h4
   omega
def Z1I:K1 10=1:=by unfold K1 Qe Qj;kernel_rfl
def Z1J{s:Str}{i:Nat}(h:i<s.size)(hb:Xc s i=10):atT s i=1:=by
 unfold atT;have:decide ((i:Int)>=(s.size:Int))=false:=decide_eq_false<|by omega
 rw[this,cond_false,hb,Z1I]
def DS{i n:Nat}(h:i<=n):bounds (some<|I i) none none n=some (i,n,none):=by
 simp[bounds,Vz,Wl,VA,numOf,VB,Ue,h]
def DT{i n:Nat}(h:i<=n):bounds none (some<|I i) none n=some (0,i,none):=by
 simp[bounds,Vz,Wl,VA,numOf,VB,Ue,h]
def Uo{i j n:Nat}(h:i<=j)(h2:j<=n):bounds (some<|I i) (some<|I j) none n=some (i,j,none):=by
 simp[bounds,Vz,Wl,VA,numOf,VB,Ue,h,h2]
def Z1K(s:Str):pfn rE 310 [.str s,.int .u8 10]=some (I<|Yc (λx=>(x.toNat:Int)==10) s.data.toList 0):=by
 unfold pfn;rw[V8 (s:=U9) rfl];rfl
def DU(s:Str)(i:Nat)(hs:s.size<=1000000)(hi:i<=s.size):pfn rE 285 [.iptr true<|.str s::Qe,I i]=some (I<|YP s i)/\YP s i<=s.size/\i<=YP s i:=by
 have L:∀k i,s.size+1-i<=k->i<=s.size->∃e fr',Zg rE [0,1] c285L0b [(0,.iptr true<|.str s::Qe),(1,I i)] []=some (e,fr',[])/\((e=.exit 0/\get fr' 1=I (K4 s k i))\/(e=.ret/\get fr' 4=I (K4 s k i)))/\K4 s k i<=s.size/\i<=K4 s k i:=by
  intro k;induction k with
  |zero=>intro i hk hi;omega
  |succ k ih=>
   intro i hk hi;have ha:=H0 s i;unfold K4;cases h2:atT s i==2 with
   |false=>
    rw[cond_false];refine⟨_,_,Q7 rfl (by simp only[go_sem,c285L0b,ha,h2];rfl) (by simp),Or.inl ⟨rfl,?_⟩,hi,ZX0 _⟩
    simp only[go_sem]
   |true=>
    have hlt:i<s.size:=by
     cases hd:decide ((i:Int)>=(s.size:Int))with
     |false=>have:=of_decide_eq_false hd;omega
     |true=>unfold atT at h2;rw[hd]at h2;simp at h2
    have hbd:=DS (i:=i) (n:=s.size) hi;have hib:=Z1K<|s.extract i s.size;have hib':pfn rE 310 [.str<|s.extract i s.size,.int .u8 10]=some (I<|Wd s i):=hib;rw[cond_true];rcases Z1H s i with hn|⟨j,hn,hj,hb⟩
    .have hneg:decide (Wd s i<0)=true:=by rw[hn];rfl
     rw[hneg,cond_true];refine⟨_,_,Q7 rfl (by simp only[go_sem,c285L0b,ha,h2,hbd,hib',hneg];rfl) (by simp),Or.inr ⟨rfl,?_⟩,ZX0 _,hi⟩
     simp only[go_sem]
    .have hneg:decide (Wd s i<0)=false:=by rw[hn];exact decide_eq_false (by omega)
     rw[hneg,cond_false];have e1:(Wd s i).toNat=j:=by rw[hn];rfl
     rw[e1];have hw:IntKind.i64.wrap ((i:Int)+Wd s i)=((i+j:Nat):Int):=by rw[hn,YM (by omega)<|by omega];omega
     have hwh:pfn rE 308 [.iptr true<|.str s::Qe,I (i+j:Nat),.isl false false 1 [I 1]]=some (I<|ZI s [1]<|i+j):=H1 s [1] (i+j) hs (by omega)<|by simp
     have hge:i+j+1<=ZI s [1] (i+j):=by
      rw[NB s [1] hj];have:([1]:List Int).any (λx=>atT s (i+j)==x)=true:=by simp[Z1J hj hb]
      rw[this,cond_true];exact K2 s [1]<|i+j+1
     have hle:=K3 s [1] (i:=i+j)<|by omega
     generalize hwt:ZI s [1] (i+j)=w at hwh hge hle⊢;obtain⟨e,fr',h3,h4,h5,h6⟩:=ih w (by omega) hle
     refine⟨e,fr',?_,h4,h5,by omega⟩
     rw[<-h3];refine(Yt rfl (by simp only[go_sem,c285L0b,ha,h2,hbd,hib',hneg,hw,hwh];rfl)).trans ?_
     simp only[go_sem]
 have hwh:pfn rE 308 [.iptr true<|.str s::Qe,I i,.isl false false 1 [I 1]]=some (I<|ZI s [1] i):=H1 s [1] i hs hi<|by simp
 have hge:=K2 s [1] i;have hle:=K3 s [1] hi;obtain⟨e,fr',h1,h2,h3,h4⟩:=L (s.size+1) (ZI s [1] i) (by omega) hle
 refine⟨?_,h3,by unfold YP;omega⟩
 rw[Z5 (f:=285) rfl rfl];unfold YP;rcases h2 with⟨rfl,h2⟩|⟨rfl,h2⟩<;>simp only[go_sem,c285,c285L0,hwh,h1,h2]
def Xe(s p:Str):Bool:=decide ((s.size:Int)>=(p.size:Int))&&Z3 (s.extract 0 p.size) p
def Z1L(s p:Str):pfn rE 313 [.str s,.str p]=some (.bool<|Xe s p):=by
 have h:pfn rE 332 [.str s,.str p]=some (.bool<|Xe s p):=by
  rw[Z5 (f:=332) rfl rfl];unfold Xe;cases hc:decide ((s.size:Int)>=(p.size:Int))with
  |false=>simp only[go_sem,c332,hc]
  |true=>
   have hb:=DT (i:=p.size) (n:=s.size) (by have:=of_decide_eq_true hc;omega)
   simp only[go_sem,c332,hc,hb]
 rw[Z5 (f:=313) rfl rfl];simp only[go_sem,c313,h]
def qnB(c:UInt8):Bool:=[34,10].any (·==c)
def Z1M(s:Str)(hs:s.size<4294967281):pfn rE 312 [.str s,.str<|B [34,10]]=some (I<|Yc qnB s.data.toList 0):=by
 have e:J6 [.str s,.str<|B [34,10]] []=some (.int .i64<|Yc qnB s.data.toList 0,[]):=by
  have hb:Nat.blt s.size 4294967281=true:=ZYo hs;show(bif (Nat.blt s.size 4294967281&&_)then some _ else none)=_
  rw[hb];rfl
 unfold pfn;rw[V8 (s:=J6) rfl,e];rfl
def NC(s:Str):Int:=J4 s.data.toList 0
def H3(s:Str):Bool:=s.data.toList.all W6&&(!s.data.toList.isEmpty&&Nat.ble s.size 18)
def Z1N(s:Str)(h:H3 s=true):pfn rE 311 [.str s]=some (.tup [I<|NC s,.nilif]):=by
 have e:J5 [.str s] []=some (.tup [I<|NC s,.nilif],[]):=by
  unfold H3 at h;show(bif (s.data.toList.all W6&&(!s.data.toList.isEmpty&&Nat.ble s.size 18))then some _ else none)=_
  rw[h];rfl
 unfold pfn;rw[V8 (s:=J5) rfl,e];rfl
def Z1O:∀k:Fin 256,K1 k.val=4->48<=k.val/\k.val<=57:=by decide +kernel
def Z1P{s:Str}{i:Nat}(h:atT s i=4):i<s.size/\W6 (s.data.getD i 0)=true:=by
 unfold atT at h;cases c:decide ((i:Int)>=(s.size:Int))with
 |true=>rw[c]at h;cases h
 |false=>
  rw[c,cond_false]at h;have h1:=of_decide_eq_false c;obtain⟨h2,h3⟩:=Z1O ⟨Xc s i,DP s i⟩ h;refine⟨by omega,?_⟩
  unfold W6;rw[ZWT];exact⟨decide_eq_true h2,decide_eq_true h3⟩
def DV(s:Str):∀k i j,i<=j->j<Xd s [4] k i->atT s j=4
 |0,i,j,h1,h2=>by rw[Xd]at h2;omega
 |k+1,i,j,h1,h2=>by
  rw[Xd]at h2;cases c:decide ((i:Int)<(s.size:Int))&&[4].any (λx=>atT s i==x)with
  |false=>rw[c,cond_false]at h2;omega
  |true=>
   rw[c,cond_true]at h2;by_cases e:i=j
   .subst e;rw[ZWT]at c;simpa using c.2
   .exact DV s k (i+1) j (by omega) h2
def Z1Q(s:Str)(i:Nat)(hi:i<s.size)(hs:s.size<=1000000)(h4:(atT s i==4)=true)(h13:decide (W ((ZI s [4] i:Int)-(i:Int))>13)=false):H3 (s.extract i<|ZI s [4] i)=true:=by
 have hge:=K2 s [4] i;have hle:=K3 s [4] (i:=i)<|by omega
 have hgt:i<ZI s [4] i:=by
  rw[NB s [4] hi];have:[4].any (λx=>atT s i==x)=true:=by simpa using h4
  rw[this,cond_true];exact K2 s [4]<|i+1
 have hW:W ((ZI s [4] i:Int)-(i:Int))=(ZI s [4] i:Int)-(i:Int):=YM (by omega)<|by omega
 rw[hW]at h13;have h13':=of_decide_eq_false h13;have hsz:(s.extract i<|ZI s [4] i).size=ZI s [4] i-i:=by
  rw[ByteArray.size_extract];omega
 have hlen:(s.extract i<|ZI s [4] i).data.toList.length=ZI s [4] i-i:=by
  rw[<-hsz];exact ZXD
 unfold H3;simp only[ZWT];refine⟨?_,?_,ZYo<|by omega⟩
 .rw[ZXl];intro b hb;obtain⟨m,hm⟩:=ZYs.1 hb;have hml:m<ZI s [4] i-i:=by rw[<-hlen];exact(ZXg.1 hm).1
  have h5:=Z1P<|DV s (s.size-i) i (i+m) (by omega)<|by unfold ZI at hml;omega
  have h6:s.data[i+m]?=some b:=by
   have h7:(s.extract i<|ZI s [4] i).data[m]?=some b:=by
    rw[<-ZY2];exact hm
   rw[ByteArray.data_extract,Array.getElem?_extract]at h7;split at h7
   .exact h7
   .cases h7
  have h8:s.data.getD (i+m) 0=b:=by
   rw[ZXC,h6];rfl
  rw[h8]at h5;exact h5.2
 .cases h:(s.extract i<|ZI s [4] i).data.toList with
  |nil=>rw[h]at hlen;simp at hlen;omega
  |cons a r=>rfl
structure Tok where
 bq:Int
 At:Int
 N:Int
 Text:Str
def Tok.enc(t:Tok):AV:=.agg [I t.bq,I t.At,I t.N,.str t.Text]
def Yw:Tok:=⟨0,0,0,emp⟩
structure Nx where
 tok:Tok
 stop:Int
 err:Int
abbrev ZX(s:Str)(i j:Nat):Str:=s.extract i j
def quN(s:Str)(i:Nat):Int:=Yc qnB (ZX s (i+1) s.size).data.toList 0
def H4(s:Str)(i:Nat):Bool:=decide (quN s i<0)||Vj (ZX s (i+1) s.size) (quN s i).toNat==10
def We(s:Str)(i:Nat):Nx:=
 bif atT s i==3 then
  (bif decide (W ((ZI s [3,4,5] i:Int)-(i:Int))>24)then⟨Yw,0,2⟩else⟨⟨1,i,0,ZX s i<|ZI s [3,4,5] i⟩,ZI s [3,4,5] i,0⟩)
 else bif atT s i==4 then
  (bif decide (W ((ZI s [4] i:Int)-(i:Int))>13)||(atT s (ZI s [4] i)==3||atT s (ZI s [4] i)==5)then⟨Yw,0,4⟩
   else⟨⟨2,i,NC<|ZX s i<|ZI s [4] i,ZX s i<|ZI s [4] i⟩,ZI s [4] i,0⟩)
 else bif atT s i==6 then
  (bif H4 s i then⟨Yw,0,6⟩else bif decide (quN s i>400)then⟨Yw,0,2⟩else⟨⟨3,i,0,ZX (ZX s (i+1) s.size) 0 (quN s i).toNat⟩,i+(quN s i).toNat+2,0⟩)
 else bif atT s i==7||atT s i==8 then
  (bif Xe (ZX s (i+1) s.size) (B [61])then⟨⟨4,i,0,ZX s i<|i+2⟩,i+2,0⟩else bif atT s i==7 then⟨Yw,0,3⟩else⟨⟨4,i,0,ZX s i<|i+1⟩,i+1,0⟩)
 else bif atT s i==9 then⟨⟨4,i,0,ZX s i<|i+1⟩,i+1,0⟩
 else⟨Yw,0,3⟩
def Nx.val(n:Nx):AV:=.tup [.agg [I n.tok.bq,I n.tok.At,I n.tok.N,.str n.tok.Text],I n.stop,I n.err]
def Z1R(s:Str)(i:Nat)(hs:s.size<=1000000)(hi:i<s.size):pfn rE 286 [.iptr true<|.str s::Qe,I i]=some (We s i).val:=by
 have ha:=H0 s i;have hw1:IntKind.i64.wrap ((i:Int)+1)=(i:Int)+1:=YM (by omega)<|by omega
 have hw2:IntKind.i64.wrap ((i:Int)+2)=(i:Int)+2:=YM (by omega)<|by omega
 have e1:((i:Int)+1)=((i+1:Nat):Int):=by omega
 have e2:((i:Int)+2)=((i+2:Nat):Int):=by omega
 have hb1:bounds (some<|I<|(i:Int)+1) none none s.size=some (i+1,s.size,none):=by rw[e1];exact DS<|by omega
 have hb3:bounds (some<|I i) (some<|I<|(i:Int)+1) none s.size=some (i,i+1,none):=by rw[e1];exact Uo (by omega)<|by omega
 rw[Z5 (f:=286) rfl rfl];unfold We;cases c5003:atT s i==3 with
 |true=>
  have hwh:pfn rE 308 [.iptr true<|.str s::Qe,I i,.isl false false 1 [I 3,I 4,I 5]]=some (I<|ZI s [3,4,5] i):=H1 s [3,4,5] i hs (by omega)<|by simp
  have hb:=Uo (n:=s.size) (K2 s [3,4,5] i)<|K3 s [3,4,5]<|by omega
  cases c:decide (W ((ZI s [3,4,5] i:Int)-(i:Int))>24)<;>simp only[go_sem,c286,ha,c5003,hwh,c,hb,Nx.val,Yw,ZX]
 |false=>
 cases c5004:atT s i==4 with
 |true=>
  have hwh:pfn rE 308 [.iptr true<|.str s::Qe,I i,.isl false false 1 [I 4]]=some (I<|ZI s [4] i):=H1 s [4] i hs (by omega)<|by simp
  have hb:=Uo (n:=s.size) (K2 s [4] i)<|K3 s [4]<|by omega
  have ha2:=H0 s<|ZI s [4] i;cases c:decide (W ((ZI s [4] i:Int)-(i:Int))>13)with
  |true=>simp only[go_sem,c286,ha,c5003,c5004,hwh,c,ha2,Nx.val,Yw]
  |false=>
  cases d3:atT s (ZI s [4] i)==3 with
  |true=>simp only[go_sem,c286,ha,c5003,c5004,hwh,c,ha2,d3,Nx.val,Yw]
  |false=>
  cases d5:atT s (ZI s [4] i)==5 with
  |true=>simp only[go_sem,c286,ha,c5003,c5004,hwh,c,ha2,d3,d5,Nx.val,Yw]
  |false=>
   have hat:=Z1N _<|Z1Q s i hi hs c5004 c;simp only[go_sem,c286,ha,c5003,c5004,hwh,c,ha2,d3,d5,hb,hat,Nx.val,ZX]
 |false=>
 cases c5006:atT s i==6 with
 |true=>
  have hia:pfn rE 312 [.str<|s.extract (i+1) s.size,.str<|B [34,10]]=some (I<|quN s i):=Z1M _<|by rw[ByteArray.size_extract];omega
  unfold H4;cases d1:decide (quN s i<0)with
  |true=>simp only[go_sem,c286,ha,c5003,c5004,c5006,hw1,hb1,hia,d1,Nx.val,Yw]
  |false=>
   have hrs:(s.extract (i+1) s.size).data.toList=(s.data.toList.drop<|i+1).take (s.size-(i+1)):=ext_list _ _ _;have hsz:s.data.toList.length=s.size:=ZXD;obtain⟨j,hj1,hj2,hj3⟩:∃j:Nat,quN s i=(j:Int)/\j<(s.extract (i+1) s.size).size/\i+1+j<s.size:=by
    rcases H2 qnB (ZX s (i+1) s.size).data.toList 0 with h|⟨j,h1,h2,_⟩
    .have h':quN s i=-1:=h;rw[h']at d1;simp at d1
    .refine⟨j,h1.trans (by simp),?_,?_⟩
     .have:(ZX s (i+1) s.size).data.toList.length=(s.extract (i+1) s.size).size:=ZXD;omega
     .have h3:(ZX s (i+1) s.size).data.toList=(s.data.toList.drop<|i+1).take (s.size-(i+1)):=hrs;rw[h3]at h2;simp at h2;have:s.data.size=s.size:=rfl;omega
   have hn:(quN s i).toNat=j:=by rw[hj1];rfl
   have h0:(0<=(j:Int))=True:=by simp
   have hnn:((j:Int)).toNat=j:=rfl;have hg:=DQ hj2;have hby:Vj (ZX s (i+1) s.size) j=((((s.extract (i+1) s.size).data.getD j 0).toNat:Nat):Int):=by
    unfold Vj ZX;rw[hg];rfl
   rw[hj1]at hia d1;have hb4:=DT (i:=j) (n:=(s.extract (i+1) s.size).size)<|by omega
   have hw5:IntKind.i64.wrap ((i:Int)+(j:Int))=(i:Int)+(j:Int):=YM (by omega)<|by omega
   have hw6:IntKind.i64.wrap ((i:Int)+(j:Int)+2)=(i:Int)+(j:Int)+2:=YM (by omega)<|by omega
   rw[hj1,hnn,hby];cases d2:((((s.extract (i+1) s.size).data.getD j 0).toNat:Nat):Int)==10 with
   |true=>simp only[go_sem,c286,ha,c5003,c5004,c5006,hw1,hb1,hia,d1,h0,if_true,hnn,hg,ZXo,d2,Nx.val,Yw]
   |false=>
   cases d3:decide ((j:Int)>400)with
   |true=>simp only[go_sem,c286,ha,c5003,c5004,c5006,hw1,hb1,hia,d1,h0,if_true,hnn,hg,ZXo,d2,d3,Nx.val,Yw]
   |false=>simp only[go_sem,c286,ha,c5003,c5004,c5006,hw1,hb1,hia,d1,h0,if_true,hnn,hg,ZXo,d2,d3,hb4,hw5,hw6,Nx.val,ZX]
 |false=>
 have hpr:pfn rE 313 [.str<|s.extract (i+1) s.size,.str<|B [61]]=some (.bool<|Xe (ZX s (i+1) s.size)<|B [61]):=Z1L _ _;have hpb:Xe (ZX s (i+1) s.size) (B [61])=true->i+2<=s.size:=by
  intro h;unfold Xe at h;have h1:=(ZWT _ _▸h).1;have h2:=of_decide_eq_true h1;have h3:(B [61]).size=1:=rfl;have h4:(ZX s (i+1) s.size).size=(ZX s (i+1) s.size).data.toList.length:=ZXD.symm;have h5:(ZX s (i+1) s.size).data.toList=(s.data.toList.drop<|i+1).take (s.size-(i+1)):=ext_list _ _ _;rw[h3,h4,h5]at h2;simp at h2;have:s.data.size=s.size:=rfl;omega
 cases c5007:atT s i==7 with
 |true=>
  cases d:Xe (ZX s (i+1) s.size) (B [61])with
  |true=>
   have hb:bounds (some<|I i) (some<|I<|(i:Int)+2) none s.size=some (i,i+2,none):=by rw[e2];exact Uo (by omega)<|hpb d
   simp only[go_sem,c286,ha,c5003,c5004,c5006,c5007,hw1,hw2,hb1,hpr,d,hb,Nx.val,ZX]
  |false=>simp only[go_sem,c286,ha,c5003,c5004,c5006,c5007,hw1,hb1,hpr,d,Nx.val,Yw]
 |false=>
 cases c5008:atT s i==8 with
 |true=>
  cases d:Xe (ZX s (i+1) s.size) (B [61])with
  |true=>
   have hb:bounds (some<|I i) (some<|I<|(i:Int)+2) none s.size=some (i,i+2,none):=by rw[e2];exact Uo (by omega)<|hpb d
   simp only[go_sem,c286,ha,c5003,c5004,c5006,c5007,c5008,hw1,hw2,hb1,hpr,d,hb,Nx.val,ZX]
  |false=>simp only[go_sem,c286,ha,c5003,c5004,c5006,c5007,c5008,hw1,hb1,hpr,d,hb3,Nx.val,ZX]
 |false=>
 cases c5009:atT s i==9 with
 |true=>simp only[go_sem,c286,ha,c5003,c5004,c5006,c5007,c5008,c5009,hw1,hb3,Nx.val,ZX]
 |false=>simp only[go_sem,c286,ha,c5003,c5004,c5006,c5007,c5008,c5009,Nx.val,Yw]
def Z1S{s:Str}{i:Nat}{c:UInt8}(h:Xe (ZX s i s.size) (B [c])=true):i+1<=s.size:=by
 unfold Xe at h;have h1:=(ZWT _ _▸h).1;have h2:=of_decide_eq_true h1;have h3:(B [c]).size=1:=rfl;have h4:(ZX s i s.size).size=(ZX s i s.size).data.toList.length:=ZXD.symm;have h5:(ZX s i s.size).data.toList=(s.data.toList.drop i).take (s.size-i):=ext_list _ _ _;rw[h3,h4,h5]at h2;simp at h2;have:s.data.size=s.size:=rfl;omega
def Z1T(s:Str)(i:Nat):quN s i=-1\/∃j:Nat,quN s i=(j:Int)/\i+1+j<s.size:=by
 rcases H2 qnB (ZX s (i+1) s.size).data.toList 0 with h|⟨j,h1,h2,_⟩
 .exact Or.inl h
 .right;refine⟨j,h1.trans (by simp),?_⟩
  have h3:(ZX s (i+1) s.size).data.toList=(s.data.toList.drop<|i+1).take (s.size-(i+1)):=ext_list _ _ _;rw[h3]at h2;simp at h2;have:s.data.size=s.size:=rfl;omega
def DW{s:Str}{cs:List Int}{i:Nat}(h:i<s.size)(hc:cs.any (λx=>atT s i==x)=true):i<ZI s cs i:=by
 rw[NB s cs h,hc,cond_true];exact K2 s cs<|i+1
def Z1U(s:Str)(i:Nat)(hi:i<s.size)(he:(We s i).err=0):∃j:Nat,(We s i).stop=(j:Int)/\i<j/\j<=s.size:=by
 unfold We at he⊢;cases c5003:atT s i==3 with
 |true=>
  rw[c5003,cond_true]at he;rw[cond_true];cases c:decide (W ((ZI s [3,4,5] i:Int)-(i:Int))>24)with
  |true=>rw[c]at he;cases he
  |false=>exact⟨_,rfl,DW hi (by simp[c5003]),K3 _ _<|by omega⟩
 |false=>
 rw[c5003,cond_false]at he;rw[cond_false];cases c5004:atT s i==4 with
 |true=>
  rw[c5004,cond_true]at he;rw[cond_true];cases c:decide (W ((ZI s [4] i:Int)-(i:Int))>13)||(atT s (ZI s [4] i)==3||atT s (ZI s [4] i)==5)with
  |true=>rw[c]at he;cases he
  |false=>exact⟨_,rfl,DW hi (by simp[c5004]),K3 _ _<|by omega⟩
 |false=>
 rw[c5004,cond_false]at he;rw[cond_false];cases c5006:atT s i==6 with
 |true=>
  rw[c5006,cond_true]at he;rw[cond_true];cases c:H4 s i with
  |true=>rw[c]at he;cases he
  |false=>
   rw[c,cond_false]at he;rw[cond_false];cases d:decide (quN s i>400)with
   |true=>rw[d]at he;cases he
   |false=>
    rcases Z1T s i with h|⟨j,h1,h2⟩
    .unfold H4 at c;rw[h]at c;simp at c
    .refine⟨i+j+2,?_,by omega,by omega⟩
     have:(quN s i).toNat=j:=by rw[h1];rfl
     rw[this];simp only[cond_false];omega
 |false=>
 rw[c5006,cond_false]at he;rw[cond_false];cases c5007:atT s i==7||atT s i==8 with
 |true=>
  rw[c5007,cond_true]at he;rw[cond_true];cases c:Xe (ZX s (i+1) s.size) (B [61])with
  |true=>exact⟨i+2,rfl,by omega,Z1S c⟩
  |false=>
   rw[c,cond_false]at he;rw[cond_false];cases d:atT s i==7 with
   |true=>rw[d]at he;cases he
   |false=>exact⟨i+1,rfl,by omega,by omega⟩
 |false=>
 rw[c5007,cond_false]at he;rw[cond_false];cases c5009:atT s i==9 with
 |true=>exact⟨i+1,rfl,by omega,by omega⟩
 |false=>rw[c5009]at he;cases he
structure Lx where
 toks:List Tok
 err:Int
 pos:Int
def ND(n:Nx)(out:List Tok):Int:=bif n.err==0&&(out.length:Int)==5000 then 2 else n.err
def Xf(s:Str):Nat->Nat->List Tok->Lx
 |0,_,_=>⟨[],0,0⟩
 |k+1,i,out=>bif decide ((i:Int)<(s.size:Int))then(bif ND (We s i) out != 0 then⟨[],ND (We s i) out,i⟩else Xf s k (YP s (We s i).stop.toNat)<|out++[(We s i).tok])else⟨out,0,0⟩
def Up(s:Str):Lx:=bif decide ((s.size:Int)>20000)then⟨[],2,-1⟩else Xf s (s.size+1) (YP s 0) []
def Lx.val(x:Lx):AV:=.tup [.isl false false 4<|x.toks.map Tok.enc,I x.err,I x.pos]
def Yx(s:Str)(out:List Tok):Hp:=[.row 257 [.agg<|.str s::Qe],.row 4<|out.map Tok.enc]
def Tok.el(t:Tok):Yu (some 4) t.enc:=⟨rfl,rfl⟩
def Z1V(s:Str)(hs:s.size<=20000):∀k i out,s.size-i<=k->i<=s.size->out.length<=i->∃e fr' h',Zg rE [0,5,6,7] c231L0b [(0,.str s),(5,.ptr 0 0 0 1),(6,.sl 1 out.length 0 out.length false),(7,I i)] (Yx s out)=some (e,fr',h')/\
 ((e=.exit 0/\∃ts:List Tok,Xf s (k+1) i out=⟨ts,0,0⟩/\get fr' 6=.sl 1 ts.length 0 ts.length false/\get fr' 2=.bot/\get fr' 3=.bot/\get fr' 4=.bot/\h'=Yx s ts)\/
  (e=.ret/\(Xf s (k+1) i out).toks=[]/\get fr' 2=.isl false false 4 []/\get fr' 3=I (Xf s (k+1) i out).err/\get fr' 4=I (Xf s (k+1) i out).pos/\get fr' 6=.bot/\∃ts,h'=Yx s ts)):=by
 intro k;have hcc:=Un;have hb2:∀n,Zd n Qe=true:=λn=>ZN _ Un
 have hbt:∀n(l:List Tok),Zd n (l.map Tok.enc)=true:=λn l=>ZN _<|Zw (λt=>rfl) l
 induction k with
 |zero=>
  intro i out hk hi ho;have:i=s.size:=by omega
  subst this;have hf:decide ((s.size:Int)<(s.size:Int))=false:=ZG _;refine⟨_,_,_,Q7 rfl (by simp only[go_sem,Yx,c231L0b,hf];rfl) (by simp),Or.inl ⟨rfl,out,?_,?_,?_,?_,?_,?_⟩⟩
  .unfold Xf;rw[hf];rfl
  .simp only[go_sem]
  .simp only[go_sem]
  .simp only[go_sem]
  .simp only[go_sem]
  .simp only[go_sem,Yx]
 |succ k ih=>
  intro i out hk hi ho;rw[Xf];cases hf:decide ((i:Int)<(s.size:Int))with
  |false=>
   refine⟨_,_,_,Q7 rfl (by simp only[go_sem,Yx,c231L0b,hf];rfl) (by simp),Or.inl ⟨rfl,out,rfl,?_,?_,?_,?_,?_⟩⟩
   .simp only[go_sem]
   .simp only[go_sem]
   .simp only[go_sem]
   .simp only[go_sem]
   .simp only[go_sem,Yx]
  |true=>
   have hi':i<s.size:=by have:=of_decide_eq_true hf;omega
   have hn:=Z1R s i (by omega) hi'
   have hst:=Z1U s i hi';rw[cond_true];generalize hgn:We s i=n at hn hst⊢;obtain⟨⟨tk,ta,tn,tt⟩,stop,err⟩:=n;unfold Nx.val at hn;simp only at hn hst⊢;unfold ND;simp only;have hrow:((out.map Tok.enc).length==out.length)=true:=by simp
   cases c0:err==0 with
   |false=>
    have c1:(err != 0)=true:=by simp[bne,c0]
    simp only[ZWV,cond_false,c1,cond_true];refine⟨_,_,_,Q7 rfl (by simp only[go_sem,Yx,c231L0b,hf,hcc,hn,c0,c1,beq_self_eq_true,hb2,hbt];rfl) (by simp),Or.inr ⟨rfl,by first|rfl|trivial,?_,?_,?_,?_,out,?_⟩⟩
    .simp only[go_sem]
    .simp only[go_sem]
    .simp only[go_sem]
    .simp only[go_sem]
    .simp only[go_sem,Yx]
   |true=>
    have he:err=0:=by simpa using c0
    subst he;cases c5005:(out.length:Int)==5000 with
    |true=>
     have h20:((2:Int) != 0)=true:=rfl;simp only[ZX8,cond_true,h20];refine⟨_,_,_,Q7 rfl (by simp only[go_sem,Yx,c231L0b,hf,hcc,hn,c5005,beq_self_eq_true,hb2,hbt,h20];rfl) (by simp),Or.inr ⟨rfl,by first|rfl|trivial,?_,?_,?_,?_,out,?_⟩⟩
     .simp only[go_sem]
     .simp only[go_sem]
     .simp only[go_sem]
     .simp only[go_sem]
     .simp only[go_sem,Yx]
    |false=>
     obtain⟨j,hj,hij,hjs⟩:=hst rfl;subst hj;have hjn:((j:Int)).toNat=j:=rfl;have hg:=DU s j (by omega) hjs
     simp only[ZWX,cond_false,hjn];have hz:((0:Int) != 0)=false:=rfl;rw[hz,cond_false];obtain⟨e,fr',h',h1,h2⟩:=ih (YP s j) (out++[⟨tk,ta,tn,tt⟩]) (by omega) hg.2.1<|by simp;omega
     refine⟨e,fr',h',?_,h2⟩;rw[<-h1];have happ:=λ(h:Hp)(hr:rowAt h 1 out.length=some (4,out.map Tok.enc))=>XC (fz:=false) (bw:=false) (ex:=false) (ys:=[.agg [I tk,I ta,I tn,.str tt]]) (bytes:=40) hr rfl (by rfl) (by omega) (by omega) (by simp;omega)
     have happ':=happ [.row 257 [.agg<|.str s::Qe],.row 4<|out.map Tok.enc,.row 4 [.agg [I tk,I ta,I tn,.str tt]]]<|by simp[rowAt]
     refine(Yt rfl (by simp only[go_sem,Yx,c231L0b,hf,hcc,hn,c5005,beq_self_eq_true,hb2,hbt,hz,happ',hg.1];rfl)).trans ?_
     simp only[go_sem,Yx,ZX4,Tok.enc]
def c233a:ACode:=
 .seq (.seq (.keep [0,13]<|.region [o 11<|.mv<|.t 0,
  o 12 (.len 0<|.t 11),
  o 13 (.bin .gtr (.t 12)<|.c<|.int .i64 20000)])<|
 .cond (.t 13)
  (.seq (.keep [2,3,4]<|.region [o 2<|.mv<|.c<|.isl false false 4 [],
    o 3 (.mv<|.c<|.int .i64 2),
    o 4 (.mv<|.c<|.int .i64<|-1)])<|
   .ret)
  (.skip))<|
 .seq (.keep [0,5]<|.region [o 14<|.mv<|.t 0,
  o 15 (.call true 284 []),
  o 16 (.build (.str emp::Qj) [(0,1,(.t 14)),(1,256,(.t 15))]),
  o 5 (.box 257<|.c<|.agg<|.str emp::Qj),
  ⟨none,.store 257 (.t 5)<|.t 16,none⟩])<|
 .seq (.region [o 6<|.own 4])<|
 .seq (.seq (.region [o 17<|.call true 285 [(.t 5),(.c<|.int .i64 0)],
  o 7 (.mv<|.t 17)])<|
 .keep [2,3,4,6]<|.block 0<|
  c231L0)<|
 .seq (.keep [2,3,4]<|.region [o 46<|.mv<|.t 6,
  o 2 (.mv<|.t 46),
  o 3 (.mv<|.c<|.int .i64 0),
  o 4 (.mv<|.c<|.int .i64 0)])<|
 .ret
def c233z:ACode:=
 .seq (.keep [0]<|.region [o 2<|.mv<|.c<|.isl false false 4 [],
  o 3 (.mv<|.c<|.int .i64 0),
  o 4 (.mv<|.c<|.int .i64 0)]) c233a
def c231_eq:c231=c233z:=by
 unfold c233z c233a Qj;kernel_rfl
def Z1W(s:Str):pfn rE 231 [.str s]=some (Up s).val:=by
 have hcc:=Un;have hb2:∀n,Zd n Qe=true:=λn=>ZN _ Un
 have hbz:∀n,Zd n Qj=true:=λn=>ZN _ DN
 have hbt:∀n(l:List Tok),Zd n (l.map Tok.enc)=true:=λn l=>ZN _<|Zw (λt=>rfl) l
 have hct:∀(l:List Tok),Z4 (l.map Tok.enc)=true:=λl=>Zw (λt=>rfl) l
 rw[Z5 (f:=231) (c:=c233z) rfl (by rw[<-c231_eq];rfl)]
 unfold Up;cases hc:decide ((s.size:Int)>20000)with
 |true=>simp only[go_sem,c233z,c233a,hc,Lx.val]
 |false=>
  have hs:s.size<=20000:=by have:=of_decide_eq_false hc;omega
  have hd1:List.drop 256 Qj=[]:=DM VY;have hg:=DU s 0 (by omega)<|by omega
  have hg1:pfn rE 285 [.iptr true<|.str s::Qe,.int .i64 0]=_:=hg.1;obtain⟨e,fr',h',h1,h2⟩:=Z1V s hs s.size (YP s 0) [] (by omega) hg.2.1<|by simp
  have h1':Zg rE [0,5,6,7] c231L0b [(0,.str s),(5,.ptr 0 0 0 1),(6,.sl 1 0 0 0 false),(7,I<|YP s 0)] [.row 257 [.agg<|.str s::Qe],.row 4 []]=_:=h1;rcases h2 with⟨rfl,ts,h3,h6,g2,g3,g4,rfl⟩|⟨rfl,ht,g2,h3,h4,g6,ts,rfl⟩
  .rw[h3];unfold Yx at h1';have htk:List.take ts.length (List.map Tok.enc ts)=List.map Tok.enc ts:=ZXp (by simp)
   simp only[go_sem,c233z,c233a,c231L0,hc,DO,Ny,DL,VY,GY,hd1,hcc,hb2,hg1,h1',h6,g2,g3,g4,hbt,hct,htk,beq_self_eq_true,ZXe,Lx.val]
  .unfold Yx at h1';have e:Xf s (s.size+1) (YP s 0) []=⟨[],(Xf s (s.size+1) (YP s 0) []).err,(Xf s (s.size+1) (YP s 0) []).pos⟩:=by
    generalize Xf s (s.size+1) (YP s 0) []=x at ht⊢;cases x;simp only at ht;subst ht;rfl
   rw[e];simp only[go_sem,c233z,c233a,c231L0,hc,DO,Ny,DL,VY,GY,hd1,hcc,hb2,hg1,h1',g2,h3,h4,g6,hbt,beq_self_eq_true,ZXe,Lx.val]
def Jk{E:Env}{α:Type}{live:List Nat}{b:ACode}(l:List α)(P:Nat->α->Bool)(S:Nat->Fr)(H:Nat->Hp)(out:Nat)(Q0 Q:Fr->Hp->Prop)
 (hr:∀i,Z2 live (S i)=S i)
 (good:∀i x,l[i]?=some x->P i x=true->∃fr',Zb E b (S i) (H i)=some (.normal,fr',H<|i+1)/\Z2 live fr'=S (i+1))
 (bad:∀i x,l[i]?=some x->P i x=false->∃fr' h',Zb E b (S i) (H i)=some (.ret,fr',h')/\Q fr' h')
 (last:∃fr' h',Zb E b (S l.length) (H l.length)=some (.exit out,fr',h')/\Q0 fr' h'):
 ∃fr' h',Zg E live b (S 0) (H 0)=some (if Zu P 0 l=true then .exit out else .ret,fr',h')/\(Zu P 0 l=true->Q0 fr' h')/\(Zu P 0 l=false->Q fr' h'):=by
 suffices G:∀k i,k+i=l.length->∃fr' h',Zg E live b (S i) (H i)=some (if Zu P i (l.drop i)=true then .exit out else .ret,fr',h')/\(Zu P i (l.drop i)=true->Q0 fr' h')/\(Zu P i (l.drop i)=false->Q fr' h')by
  have:=G l.length 0<|by omega
  simpa using this
 intro k;induction k with
 |zero=>
  intro i hi;have:i=l.length:=by omega
  subst this;obtain⟨fr',h',h1,h2⟩:=last;refine⟨fr',h',?_,?_,?_⟩
  .rw[Q7 (hr _) h1<|by simp];simp[Zu]
  .intro _;exact h2
  .intro h;simp[Zu]at h
 |succ k ih=>
  intro i hi;have hlt:i<l.length:=by omega
  have hx:l[i]?=some l[i]:=ZX5 hlt;rw[ZY4 hlt];cases hP:P i l[i]with
  |true=>
   obtain⟨fr1,h1,h2⟩:=good _ _ hx hP;obtain⟨fr',h',h3,h4,h5⟩:=ih (i+1)<|by omega
   refine⟨fr',h',?_,?_,?_⟩
   .rw[Yt (hr _) h1,h2,h3];simp only[Zu,hP,ZWR]
   .simpa only[Zu,hP,ZWR]using h4
   .simpa only[Zu,hP,ZWR]using h5
  |false=>
   obtain⟨fr',h',h1,h2⟩:=bad _ _ hx hP;refine⟨fr',h',?_,?_,λ_=>h2⟩
   .rw[Q7 (hr _) h1<|by simp];simp[Zu,hP]
   .intro h;simp[Zu,hP]at h
def Qi{α:Type}(eq:α->α->Bool)(K:List α)(x:α):List α:=bif K.any (eq x)then K else K++[x]
def ZO(n:Nat):List AV:=List.replicate n<|.bool true
def Uq{α:Type}{ag:Bool}{kk:List Nat}{enc:α->AV}{eq:α->α->Bool}(he:∀x y,Zz ag kk (enc x) (enc y)=some (eq x y))(x:α):
 ∀(K:List α)(i:Nat),(ZW ag kk (enc x) (K.map enc) i=some none/\K.any (eq x)=false)\/(∃j,ZW ag kk (enc x) (K.map enc) i=some (some j)/\i<=j/\j<i+K.length/\K.any (eq x)=true)
 |[],i=>Or.inl ⟨rfl,rfl⟩
 |y::r,i=>by
  simp only[ZX3,ZW,he,ZXR,ZXr];rcases Uq he x r (i+1)with⟨h1,h2⟩|⟨j,h1,h2,h3,h4⟩
  .rw[h1];cases eq x y with
   |true=>right;exact⟨i,rfl,by omega,by omega,rfl⟩
   |false=>left;exact⟨rfl,by simp[h2]⟩
  .rw[h1];right;cases eq x y with
   |true=>exact⟨i,rfl,by omega,by omega,rfl⟩
   |false=>exact⟨j,rfl,by omega,by omega,by simp[h4]⟩
def Ur{α:Type}{ag:Bool}{kk:List Nat}{enc:α->AV}{eq:α->α->Bool}(he:∀x y,Zz ag kk (enc x) (enc y)=some (eq x y))(K:List α)(x:α){h:Hp}{b:Nat}(hb:h[b]?=some (.map (K.map enc)<|ZO K.length)):
 YK h ag kk (.mp b) (enc x) (.bool true)=some (.bot,setH h b<|.map ((Qi eq K x).map enc)<|ZO (Qi eq K x).length):=by
 simp only[YK,hb,Yo,he];rcases Uq he x K 0 with⟨h1,h2⟩|⟨j,h1,h2,h3,h4⟩
 .have ht:ZO K.length++[.bool true]=ZO (K.length+1):=by simp[ZO,List.replicate_succ']
  rw[h1];simp only[Qi,h2,cond_false,ZM,ZH,ZX4,ZX3,ZX1,ZX7,ZXh,ht]
 .have:(ZO K.length).set j (.bool true)=ZO K.length:=by
   apply List.ext_getElem
   .simp
   .intro n hn hm;by_cases hj:j=n
    .subst hj;simp[ZO]
    .simp[ZO]
  rw[h1];simp only[Qi,h4,cond_true,ZM,ZH,this]
def H5{α:Type}{ag:Bool}{kk:List Nat}{enc:α->AV}{eq:α->α->Bool}(he:∀x y,Zz ag kk (enc x) (enc y)=some (eq x y))(K:List α)(x:α){h:Hp}{b:Nat}(hb:h[b]?=some (.map (K.map enc)<|ZO K.length)):
 W5 h ag kk false (.bool false) (.mp b) (enc x)=some (.bool<|K.any<|eq x):=by
 simp only[W5,hb,QW,he];rcases Uq he x K 0 with⟨h1,h2⟩|⟨j,h1,h2,h3,h4⟩
 .rw[h1,h2];rfl
 .have:(ZO K.length)[j]?=some (.bool true):=by
   unfold ZO;rw[ZYL];simp;omega
  rw[h1,h4];simp only[this];rfl
def Z1X(ks vs:List AV)(h:Hp):lnM (.map ks vs::h) 0=some (.int .i64 ks.length):=rfl
attribute [go_sem] Z1X
def XH{α:Type}(eq:α->α->Bool)(l:List α):Bool:=(((l.foldl (Qi eq) []).length:Nat):Int)==(l.length:Int)
def Z1Y(x y:Str):Zz false [2] (.str x) (.str y)=some (Z3 x y):=by simp only[go_sem,ZWW]
def QL(a b:HN):Bool:=a.N==b.N&&(Z3 a.bm b.bm&&(a.Num==b.Num&&a.Den==b.Den))
def Xg(a b:Nm):Bool:=Z3 a.Lang b.Lang&&(a.Script==b.Script&&Z3 a.Text b.Text)
def Z1Z(x y:HN):Zz true [1,2,1,1] x.enc y.enc=some (QL x y):=by simp only[go_sem,HN.enc,QL]
def Z20(x y:Nm):Zz true [2,1,2] x.enc y.enc=some (Xg x y):=by simp only[go_sem,Nm.enc,Xg]
def Us{α β:Type}(f:β->α->β)(b:β){l:List α}{i:Nat}{x:α}(h:l[i]?=some x):(l.take<|i+1).foldl f b=f ((l.take i).foldl f b) x:=by
 rw[ZYx,h];simp
def Z21(l:List Str)(bw ex:Bool)(hl:l.length<=1000000):pfn rE 238 [.isl bw ex 1<|l.map encS]=some (.bool<|XH Z3 l):=by
 have L:=Y8 (E:=rE) (live:=[0,3,7,8,9]) (b:=c238L0b) l.length (λi=>[(0,.isl bw ex 1<|l.map encS),(3,.mp 0),(7,.isl bw ex 1<|l.map encS),(8,I l.length),(9,I i)])
  (λi=>[.map (((l.take i).foldl (Qi Z3) []).map encS)<|ZO ((l.take i).foldl (Qi Z3) []).length]) (λi=>rfl)
  (λi hi=>by
   obtain⟨x,hx⟩:∃x,l[i]?=some x:=⟨_,ZX5 hi⟩;have hg:=Z6 (f:=encS) hx;have hi':=Zh hi;have hw:=Zx (n:=i)<|by omega
   have hf:=Us (Qi Z3) [] hx;rw[hf];have hp:=Ur (ag:=false) (kk:=[2]) (enc:=encS) (eq:=Z3) Z1Y ((l.take i).foldl (Qi Z3) []) x (h:=[.map (((l.take i).foldl (Qi Z3) []).map encS)<|ZO ((l.take i).foldl (Qi Z3) []).length]) (b:=0) rfl;generalize(l.take i).foldl (Qi Z3) []=K at hp⊢;have hp':YK [.map (K.map encS)<|ZO K.length] false [2] (.mp 0) (.str x) (.bool true)=_:=hp;refine⟨_,by simp only[go_sem,c238L0b,hg,hi',hw,encS,hp'];rfl,?_⟩
   simp only[go_sem])
  (e:=.exit 0) (by simp only[go_sem,c238L0b,ZG];rfl) (by simp)
 have ht:l.take l.length=l:=ZXu;rw[ht]at L;have L':Zg rE [0,3,7,8,9] c238L0b [(0,.isl bw ex 1<|l.map encS),(3,.mp 0),(7,.isl bw ex 1<|l.map encS),(8,I l.length),(9,.int .i64 0)] [.map [] []]=_:=L;rw[Z5 (f:=238) rfl rfl];unfold XH;simp only[go_sem,c238,c238L0,L']
def Ut:∀n,Z4 (ZO n)=true
 |0=>rfl
 |n+1=>by
  have:ZO (n+1)=.bool true::ZO n:=rfl;rw[this];simp only[N1,Di,Ut n,ZX8]
def Z22(l:List HN)(bw ex:Bool)(hl:l.length<=1000000):pfn rE 245 [.isl bw ex 4<|l.map HN.enc]=some (.bool<|XH QL l):=by
 have L:=Y8 (E:=rE) (live:=[0,3,7,8,9]) (b:=c245L0b) l.length (λi=>[(0,.isl bw ex 4<|l.map HN.enc),(3,.mp 0),(7,.isl bw ex 4<|l.map HN.enc),(8,I l.length),(9,I i)])
  (λi=>[.map (((l.take i).foldl (Qi QL) []).map HN.enc)<|ZO ((l.take i).foldl (Qi QL) []).length]) (λi=>rfl)
  (λi hi=>by
   obtain⟨x,hx⟩:∃x,l[i]?=some x:=⟨_,ZX5 hi⟩;have hg:=Z6 (f:=HN.enc) hx;have hi':=Zh hi;have hw:=Zx (n:=i)<|by omega
   have hf:=Us (Qi QL) [] hx;rw[hf];have hb2:∀n(K:List HN),Zd n (K.map HN.enc)=true:=λn K=>ZN _<|Zw (λt=>rfl) K
   have hb3:∀n k,Zd n (ZO k)=true:=λn k=>ZN _<|Ut k
   have hp:=λhh=>Ur (ag:=true) (kk:=[1,2,1,1]) (enc:=HN.enc) (eq:=QL) Z1Z ((l.take i).foldl (Qi QL) []) x (h:=.map (((l.take i).foldl (Qi QL) []).map HN.enc) (ZO ((l.take i).foldl (Qi QL) []).length)::hh) (b:=0) rfl
   generalize(l.take i).foldl (Qi QL) []=K at hp⊢;have hp':YK [.map (K.map HN.enc)<|ZO K.length,.row 4 [.agg [I x.N,.str x.bm,I x.Num,I x.Den]]] true [1,2,1,1] (.mp 0) (.agg [I x.N,.str x.bm,I x.Num,I x.Den]) (.bool true)=_:=hp [.row 4 [.agg [I x.N,.str x.bm,I x.Num,I x.Den]]];refine⟨_,by simp only[go_sem,c245L0b,hg,hi',hw,HN.enc,hp',hb2,hb3];rfl,?_⟩
   simp only[go_sem])
  (e:=.exit 0) (by simp only[go_sem,c245L0b,ZG];rfl) (by simp)
 have ht:l.take l.length=l:=ZXu;rw[ht]at L;have L':Zg rE [0,3,7,8,9] c245L0b [(0,.isl bw ex 4<|l.map HN.enc),(3,.mp 0),(7,.isl bw ex 4<|l.map HN.enc),(8,I l.length),(9,.int .i64 0)] [.map [] []]=_:=L;rw[Z5 (f:=245) rfl rfl];unfold XH;simp only[go_sem,c245,c245L0,L']
def Z23(l:List Nm)(bw ex:Bool)(hl:l.length<=1000000):pfn rE 237 [.isl bw ex 3<|l.map Nm.enc]=some (.bool<|XH Xg l):=by
 have L:=Y8 (E:=rE) (live:=[0,3,7,8,9]) (b:=c237L0b) l.length (λi=>[(0,.isl bw ex 3<|l.map Nm.enc),(3,.mp 0),(7,.isl bw ex 3<|l.map Nm.enc),(8,I l.length),(9,I i)])
  (λi=>[.map (((l.take i).foldl (Qi Xg) []).map Nm.enc)<|ZO ((l.take i).foldl (Qi Xg) []).length]) (λi=>rfl)
  (λi hi=>by
   obtain⟨x,hx⟩:∃x,l[i]?=some x:=⟨_,ZX5 hi⟩;have hg:=Z6 (f:=Nm.enc) hx;have hi':=Zh hi;have hw:=Zx (n:=i)<|by omega
   have hf:=Us (Qi Xg) [] hx;rw[hf];have hb2:∀n(K:List Nm),Zd n (K.map Nm.enc)=true:=λn K=>ZN _<|Zw (λt=>rfl) K
   have hb3:∀n k,Zd n (ZO k)=true:=λn k=>ZN _<|Ut k
   have hp:=λhh=>Ur (ag:=true) (kk:=[2,1,2]) (enc:=Nm.enc) (eq:=Xg) Z20 ((l.take i).foldl (Qi Xg) []) x (h:=.map (((l.take i).foldl (Qi Xg) []).map Nm.enc) (ZO ((l.take i).foldl (Qi Xg) []).length)::hh) (b:=0) rfl
   generalize(l.take i).foldl (Qi Xg) []=K at hp⊢;have hp':YK [.map (K.map Nm.enc)<|ZO K.length,.row 3 [.agg [.str x.Lang,I x.Script,.str x.Text]]] true [2,1,2] (.mp 0) (.agg [.str x.Lang,I x.Script,.str x.Text]) (.bool true)=_:=hp [.row 3 [.agg [.str x.Lang,I x.Script,.str x.Text]]];refine⟨_,by simp only[go_sem,c237L0b,hg,hi',hw,Nm.enc,hp',hb2,hb3];rfl,?_⟩
   simp only[go_sem])
  (e:=.exit 0) (by simp only[go_sem,c237L0b,ZG];rfl) (by simp)
 have ht:l.take l.length=l:=ZXu;rw[ht]at L;have L':Zg rE [0,3,7,8,9] c237L0b [(0,.isl bw ex 3<|l.map Nm.enc),(3,.mp 0),(7,.isl bw ex 3<|l.map Nm.enc),(8,I l.length),(9,.int .i64 0)] [.map [] []]=_:=L;rw[Z5 (f:=237) rfl rfl];unfold XH;simp only[go_sem,c237,c237L0,L']
def ZZ(s:Str):Bool:=(Up s).err==0&&match(Up s).toks with
 |[t]=>t.bq==1&&Z3 t.Text s
 |_=>false
def Jl(s:Str):pfn rE 170 [.str s]=some (.bool<|ZZ s):=by
 have h:=Z1W s;unfold ZZ;generalize Up s=x at h⊢;obtain⟨ts,err,pos⟩:=x;unfold Lx.val at h;simp only at h⊢;rw[Z5 (f:=170) rfl rfl];cases h0:err==0 with
 |false=>simp only[go_sem,c170,h,h0]
 |true=>
  rcases ts with _|⟨⟨tk,ta,tn,tt⟩,_|⟨t2,ts⟩⟩
  .have e:(((0:Nat):Int)==1)=false:=rfl;simp only[go_sem,c170,h,h0,e]
  .have e:(((0+1:Nat):Int)==1)=true:=rfl;have e0:(0<=(0:Int))=True:=by simp
   have e1:ixG [.agg [I tk,I ta,I tn,.str tt]] 0=some (.agg [I tk,I ta,I tn,.str tt]):=rfl;have e2:(((1:Nat):Int)==1)=true:=rfl;cases h1:tk==1<;>simp only[go_sem,c170,h,h0,e,e1,h1,Tok.enc]
  .have e:(((ts.length+1+1:Nat):Int)==1)=false:=by
    rw[beq_eq_false_iff_ne];omega
   simp only[go_sem,c170,h,h0,e]
def XI(p:Int->Bool)(s:Str):Nat->Nat->Int
 |0,_=>-1
 |k+1,i=>bif Nat.blt i s.size then(bif p ((Utf8.decode s i).1:Nat)then(i:Int)else XI p s k<|i+(Utf8.decode s i).2)else -1
def H6(p:Int->Bool)(s:Str):Bool:=decide (XI p s (s.size+1) 0>=0)
def DX(p:Int->Bool)(g:Nat)(hp:∀c:Int,pfn rE g [.int .i32 c]=some (.bool<|p c))(s:Str):pfn rE 244 [.str s,.clo (.func g) [] []]=some (.bool<|H6 p s):=by
 have L:∀k i,s.size-i<k->∃e fr' h',Zg rE [1,2,10] c321L0b [(1,.clo (.func g) [] []),(2,.bool true),(10,.it 0)] [.iter s i]=some (e,fr',h')/\
  ((e=.exit 0/\XI p s k i=-1)\/(e=.ret/\get fr' 6=I (XI p s k i)/\0<=XI p s k i)):=by
  intro k;induction k with
  |zero=>intro i hi;omega
  |succ k ih=>
   intro i hi;unfold XI;cases hb:Nat.blt i s.size with
   |false=>
    have hb':decide (i<s.size)=false:=by rw[<-N7];exact hb
    exact⟨_,_,_,Q7 rfl (by simp only[go_sem,c321L0b,U8,hb'];rfl) (by simp),Or.inl ⟨rfl,rfl⟩⟩
   |true=>
    have hb':decide (i<s.size)=true:=by rw[<-N7];exact hb
    have hlt:i<s.size:=of_decide_eq_true hb';have hw:=Lib.decode_width_pos s i hlt;have hpc:=hp ((Utf8.decode s i).1:Nat);rw[cond_true];cases hc:p ((Utf8.decode s i).1:Nat)with
    |true=>
     rw[hc]at hpc;rw[cond_true];refine⟨_,_,_,Q7 rfl (by simp only[go_sem,c321L0b,U8,hb',hpc,beq_self_eq_true];rfl) (by simp),Or.inr ⟨rfl,?_,by omega⟩⟩
     simp only[go_sem]
    |false=>
     rw[hc]at hpc;rw[cond_false];obtain⟨e,fr',h',h1,h2⟩:=ih (i+(Utf8.decode s i).2)<|by omega
     refine⟨e,fr',h',?_,h2⟩;rw[<-h1];have e1:(false==true)=false:=rfl;refine(Yt rfl (by simp only[go_sem,c321L0b,U8,hb',hpc,e1];rfl)).trans ?_
     simp only[go_sem]
 obtain⟨e,fr',h',h1,h2⟩:=L (s.size+1) 0<|by omega
 have h358:pfn rE 321 [.str s,.clo (.func g) [] [],.bool true]=some (I<|XI p s (s.size+1) 0):=by
  rw[Z5 (f:=321) rfl rfl];rcases h2 with⟨rfl,h2⟩|⟨rfl,h2,h3⟩
  .rw[h2];simp only[go_sem,c321,c321L0,h1]
  .simp only[go_sem,c321,c321L0,h1,h2]
 have h327:pfn rE 295 [.str s,.clo (.func g) [] []]=some (I<|XI p s (s.size+1) 0):=by
  rw[Z5 (f:=295) rfl rfl];simp only[go_sem,c295,h358]
 rw[Z5 (f:=244) rfl rfl];unfold H6;simp only[go_sem,c244,h327]
def ZD(n lo hi:Int):Bool:=decide (n>=lo)&&decide (n<=hi)
def QU(n lo hi:Int):pfn rE 95 [I n,I lo,I hi]=some (.bool<|ZD n lo hi):=by
 rw[Z5 (f:=95) rfl rfl];unfold ZD;cases h:decide (n>=lo)<;>simp only[go_sem,c95,h]
def DY(n lo hi:Int):pfn rE 94 [I n,I lo,I hi]=some (.bool<|ZD n lo hi):=by
 rw[Z5 (f:=94) rfl rfl];unfold ZD;cases h:decide (n>=lo)<;>simp only[go_sem,c94,h]
def H7(c:Int):Bool:=(decide (c<33)||decide (c>126))||c==34
def Z25(c:Int):pfn rE 243 [.int .i32 c]=some (.bool<|H7 c):=by
 rw[Z5 (f:=243) rfl rfl];unfold H7;cases h1:decide (c<33)<;>cases h2:decide (c>126)<;>simp only[go_sem,c243,h1,h2]
def H8(c:Int):Bool:=((decide (c<48)||decide (c>57))&&(decide (c<97)||decide (c>122)))&&(decide (c<65)||decide (c>90))
def Z26(c:Int):pfn rE 247 [.int .i32 c]=some (.bool<|H8 c):=by
 rw[Z5 (f:=247) rfl rfl];unfold H8;cases h1:decide (c<48)<;>cases h2:decide (c>57)<;>cases h3:decide (c<97)<;>cases h4:decide (c>122)<;>cases h5:decide (c<65)<;>simp only[go_sem,c247,h1,h2,h3,h4,h5]
def Jm(s:Str)(most:Int):Bool:=!Z3 s emp&&(decide ((s.size:Int)<=most)&&!H6 H7 s)
def DZ(s:Str)(most:Int):pfn rE 186 [.str s,I most]=some (.bool<|Jm s most):=by
 have h:=DX H7 243 Z25 s;rw[Z5 (f:=186) rfl rfl];unfold Jm;cases h1:Z3 s emp<;>cases h2:decide ((s.size:Int)<=most)<;>simp only[go_sem,c186,h1,h2,h]
def Uu(s:Str):Bool:=!Z3 s emp&&(decide ((s.size:Int)<=60)&&!H6 H8 s)
def Z27(s:Str):pfn rE 193 [.str s]=some (.bool<|Uu s):=by
 have h:=DX H8 247 Z26 s;rw[Z5 (f:=193) rfl rfl];unfold Uu;cases h1:Z3 s emp<;>cases h2:decide ((s.size:Int)<=60)<;>simp only[go_sem,c193,h1,h2,h]
def F0(p:Str->Bool)(g:Nat)(hp:∀x,pfn rE g [.str x]=some (.bool<|p x))(l:List Str)(bw ex:Bool)(hl:l.length<=1000000):pfn rE 239 [.isl bw ex 1<|l.map encS,.clo (.func g) [] []]=some (.bool<|l.any p):=by
 have h1:=WF (E:=rE) (f:=293) (sz:=1) (n:=none) (enc:=encS) (p:=p) (g:=g) (cap:=[]) rfl rfl rfl l (by omega) (λx _=>Z0C x) (λx _=>hp x) bw ex
 rw[Z5 (f:=239) rfl rfl,<-Vg];unfold WG;cases bw<;>simp only[go_sem,c239,h1]
def Yy(s:Str):List Str:=(Q4 32 s.data.toList).map λl=>⟨⟨l⟩⟩
def Z28(s:Str)(hs:s.size<=1000000):pfn rE 291 [.str s,.str<|B [32]]=some (.isl false false 1<|(Yy s).map encS):=by
 unfold pfn;rw[V8 (s:=Ja) rfl];have e:Ja [.str s,.str<|B [32]] []=some (.sl 0 (Yy s).length 0 (Yy s).length false,[.row 1<|(Yy s).map encS]):=by
  have hb:Nat.blt s.size 4294967281=true:=ZYo<|by omega
  have e2:(Q4 32 s.data.toList).map Qd=(Yy s).map encS:=by
   unfold Yy;rw[List.map_map];rfl
  show(bif Nat.blt s.size 4294967281 then some (AV.sl 0 (Q4 32 s.data.toList).length 0 (Q4 32 s.data.toList).length false,[AObj.row 1<|(Q4 32 s.data.toList).map Qd])else none)=_
  rw[hb,e2];simp[Yy]
 rw[e];have hc:Z4 ((Yy s).map encS)=true:=Zw (λt=>rfl) _
 have ht:((Yy s).map encS).take (Yy s).length=(Yy s).map encS:=ZXp<|by simp
 simp only[go_sem,ZM,beq_self_eq_true,ht,hc]
def F1(c:UInt8):∀l:List UInt8,(Q4 c l).length<=l.length+1
 |[]=>by simp[Q4]
 |x::r=>by
  have:=F1 c r;unfold Q4;cases x==c with
  |true=>simp;omega
  |false=>
   simp only[cond_false];cases h:Q4 c r with
   |nil=>simp
   |cons w ws=>rw[h]at this;simp at this⊢;omega
def H9(w:Str):Bool:=!Jm w 60
def Z29(w:Str):pfn rE 292 [.str w]=some (.bool<|H9 w):=by
 rw[Z5 (f:=292) rfl rfl];unfold H9;simp only[go_sem,c292,DZ]
def Uv(s:Str):Bool:=decide ((s.size:Int)<=60)&&!(Yy s).any H9
def F3(s:Str):pfn rE 236 [.str s]=some (.bool<|Uv s):=by
 rw[Z5 (f:=236) rfl rfl];unfold Uv;cases h1:decide ((s.size:Int)<=60)with
 |false=>simp only[go_sem,c236,h1]
 |true=>
  have hl:(Yy s).length<=1000000:=by
   have h2:=F1 32 s.data.toList;have h3:s.data.toList.length=s.size:=ZXD;have h4:=of_decide_eq_true h1;unfold Yy;rw[ZWQ];omega
  have h:=F0 H9 292 Z29 (Yy s) false false hl;have hsp:=Z28 s (by have:=of_decide_eq_true h1;omega)
  simp only[go_sem,c236,h1,hsp,h]
def Ha(s:Str):Bool:=!ZZ s
def Z2a(s:Str):pfn rE 240 [.str s]=some (.bool<|Ha s):=by
 rw[Z5 (f:=240) rfl rfl];unfold Ha;simp only[go_sem,c240,Jl]
def Qv(l:List Str):Bool:=XH Z3 l&&!l.any Ha
def Uw(l:List Str)(bw ex:Bool)(hl:l.length<=1000000):pfn rE 180 [.isl bw ex 1<|l.map encS]=some (.bool<|Qv l):=by
 have h1:=Z21 l bw ex hl;have h2:=F0 Ha 240 Z2a l bw ex hl;rw[Z5 (f:=180) rfl rfl];unfold Qv;cases hd:XH Z3 l<;>rw[hd]at h1<;>cases bw<;>simp only[go_sem,c180,h1,h2]
def K5(a b:Int):Bool:=ZD a 0 63&&(ZD b 0 63&&a != b)
def Z2b(a b:Int):pfn rE 172 [I a,I b]=some (.bool<|K5 a b):=by
 rw[Z5 (f:=172) rfl rfl];unfold K5;cases h1:ZD a 0 63<;>cases h2:ZD b 0 63<;>simp only[go_sem,c172,QU,h1,h2]
def Ux(zero:Bool)(x:Ent):Bool:=!gOn x.bg||(zero&&!QK x.bg ⟨0,0⟩)
def Z2c(zero:Bool)(x:Ent):pfn rE 246 [x.enc,.iptr false [.bool zero]]=some (.bool<|Ux zero x):=by
 have e1:(x.bg.X==0&&x.bg.Y==0)=QK x.bg ⟨0,0⟩:=rfl;rw[Z5 (f:=246) rfl rfl];unfold Ux;cases h1:gOn x.bg<;>cases zero<;>simp only[go_sem,c246,Ent.enc,W8,h1,e1]
def Vk(l:List Ent)(zero:Bool):Bool:=!l.any (Ux zero)
def F4(l:List Ent)(ex zero:Bool)(hl:l.length<=1000000):pfn rE 189 [.isl false ex 7<|l.map Ent.enc,.bool zero]=some (.bool<|Vk l zero):=by
 have h1:=WF (E:=rE) (f:=204) (sz:=7) (n:=some 7) (enc:=Ent.enc) (p:=Ux zero) (g:=246) (cap:=[.iptr false [.bool zero]]) rfl rfl rfl l (by omega) (λx _=>x.el) (λx _=>Z2c zero x) false ex
 have h2:pfn rE 115 [.isl false ex 7<|l.map Ent.enc,.clo (.func 246) [] [.iptr false [.bool zero]]]=some (.bool<|l.any<|Ux zero):=by
  rw[Z5 (f:=115) rfl rfl,<-Vg];unfold WG;simp only[go_sem,c115,h1]
 rw[Z5 (f:=189) rfl rfl];unfold Vk;simp only[go_sem,c189,h2]
def Uy(n:Nm):Bool:=ZZ n.Lang&&(ZD n.Script 0 7&&Uv n.Text)
def Xh(n:Nm):Nm:=⟨n.Lang,n.Script,emp⟩
def Uz(l:List Nm):Bool:=l.all Uy&&(ZD l.length 1 8&&XH Xg (l.map Xh))
def YW{α β:Type}(f:α->β){l:List α}{i:Nat}{x:α}(h:l[i]?=some x):(l.take<|i+1).map f=(l.take i).map f++[f x]:=by
 rw[ZYx,h];simp
def take_len{α:Type}{l:List α}{i:Nat}{x:α}(h:l[i]?=some x):(l.take i).length=i:=by
 have:=Z7 h;rw[ZXL];omega
def Z2d(l:List Nm)(ex:Bool)(hl:l.length<=1000000):pfn rE 178 [.isl false ex 3<|l.map Nm.enc]=some (.bool<|Uz l):=by
 have hct:∀K:List Nm,Z4 (K.map Nm.enc)=true:=λK=>Zw (λt=>rfl) K
 have hbt:∀n(K:List Nm),Zd n (K.map Nm.enc)=true:=λn K=>ZN _<|hct K
 have L:=Jk (E:=rE) (live:=[0,3,6,7,8]) (b:=c178L0b) l (λ_ x=>Uy x)
  (λi=>[(0,.isl false ex 3<|l.map Nm.enc),(3,.sl 0 i 0 i false),(6,.isl false ex 3<|l.map Nm.enc),(7,I l.length),(8,I i)])
  (λi=>[.row 3<|((l.take i).map Xh).map Nm.enc]) 0
  (λfr h=>get fr 0=.isl false ex 3 (l.map Nm.enc)/\get fr 2=.bot/\get fr 3=.sl 0 l.length 0 l.length false/\h=[.row 3<|(l.map Xh).map Nm.enc])
  (λfr h=>get fr 2=.bool false) (λi=>rfl)
  (λi x hx hP=>by
   have hg:=Z6 (f:=Nm.enc) hx;have hi:=Zh<|Z7 hx;have hw:=Zx (n:=i) (by have:=Z7 hx;omega)
   have ht:=YW Xh hx;have hn:((l.take i).map Xh).length=i:=by rw[ZWQ];exact take_len hx
   rw[ht,ZX4];have hP':ZZ x.Lang=true/\ZD x.Script 0 7=true/\Uv x.Text=true:=by simpa only[Uy,ZWT]using hP
   generalize(l.take i).map Xh=K at hn⊢;subst hn;have happ:=XC (h:=[.row 3<|K.map Nm.enc,.row 3 [.agg [.str x.Lang,I x.Script,.str emp]]]) (fz:=false) (b:=0) (g:=K.length) (sz:=3) (es:=K.map Nm.enc) (bw:=false) (ex:=false) (ys:=[.agg [.str x.Lang,I x.Script,.str emp]]) (bytes:=40) (by simp[rowAt]) rfl (by rfl) (by omega) (by omega) (by have:=Z7 hx;simp;omega)
   refine⟨_,by simp only[go_sem,c178L0b,hg,hi,hw,Nm.enc,Jl,QU,F3,hP'.1,hP'.2.1,hP'.2.2,beq_self_eq_true,happ,hbt];rfl,?_⟩
   simp only[go_sem])
  (λi x hx hP=>by
   have hg:=Z6 (f:=Nm.enc) hx;have hi:=Zh<|Z7 hx;have hn:((l.take i).map Xh).length=i:=by rw[ZWQ];exact take_len hx
   generalize(l.take i).map Xh=K at hn⊢;subst hn;unfold Uy at hP;cases h1:ZZ x.Lang with
   |false=>
    refine⟨_,_,by simp only[go_sem,c178L0b,hg,hi,Nm.enc,Jl,h1,hbt];rfl,?_⟩
    simp only[go_sem]
   |true=>
   cases h2:ZD x.Script 0 7 with
   |false=>
    refine⟨_,_,by simp only[go_sem,c178L0b,hg,hi,Nm.enc,Jl,QU,h1,h2,hbt];rfl,?_⟩
    simp only[go_sem]
   |true=>
    have h3:Uv x.Text=false:=by simpa[h1,h2]using hP
    refine⟨_,_,by simp only[go_sem,c178L0b,hg,hi,Nm.enc,Jl,QU,F3,h1,h2,h3,hbt];rfl,?_⟩
    simp only[go_sem])
  (⟨_,_,by simp only[go_sem,c178L0b,ZG,ZXu];rfl,by
    refine⟨?_,?_,?_,?_⟩<;>simp only[go_sem]⟩)
 rw[QE]at L;obtain⟨fr',h',h1,h2,h3⟩:=L;have h1':Zg rE [0,3,6,7,8] c178L0b [(0,.isl false ex 3<|l.map Nm.enc),(3,.sl 0 0 0 0 false),(6,.isl false ex 3<|l.map Nm.enc),(7,I l.length),(8,.int .i64 0)] [.row 3 []]=_:=h1;rw[Z5 (f:=178) rfl rfl];unfold Uz;cases hc:l.all Uy with
 |false=>
  rw[hc]at h1';have hg:=h3 hc;simp only[go_sem,c178,c178L0,h1',hg,ZX2]
 |true=>
  rw[hc]at h1';obtain⟨g0,g2,g3,rfl⟩:=h2 hc;have hd:=Z23 (l.map Xh) false false<|by simpa using hl
  have hlm:(l.map Xh).length=l.length:=ZWQ ..;have htk:List.take l.length ((l.map Xh).map Nm.enc)=(l.map Xh).map Nm.enc:=ZXp<|by simp
  cases hw:ZD l.length 1 8<;>simp only[go_sem,c178,c178L0,h1',g0,g2,g3,QU,hw,hct,hbt,beq_self_eq_true,htk,hd]
def Yd(e:Ent):Str:=e.Id
def Yl(e:Ent):HN:=e.An
def K6(e:Ent):Bool:=YO e.An
def Xi(l:List Ent)(more:List Str):Bool:=l.all K6&&(Qv (more++l.map Yd)&&XH QL (l.map Yl))
def NE{h:Hp}{aid b g sz bytes:Nat}{es ys:List AV}{bw ex fz:Bool}(hr:rowAt h b g=some (sz,es))(hy:ys.isEmpty=false)(hf:ys.all (fits sz)=true)(h0:0<sz)(h1:0<bytes)(h2:(g+ys.length)*bytes<=140737488355328):
 Qt h aid fz sz bytes (.sl b g 0 g false) (.isl bw ex sz ys)=some (.sl b (g+ys.length) 0 (g+ys.length) false,[b],some (b,.row sz<|es++ys)):=by
 unfold rowAt at hr;cases hb:h[b]? with
 |none=>rw[hb]at hr;cases hr
 |some o=>
  rw[hb]at hr;cases o with
  |row sz' es'=>
   dsimp only at hr;cases hg:(es'.length==g)with
   |false=>rw[hg]at hr;cases hr
   |true=>
    rw[hg]at hr;simp only[cond_true,Option.some.injEq,Prod.mk.injEq]at hr;obtain⟨rfl,rfl⟩:=hr;have hl:es'.length=g:=by simpa using hg
    have ht:List.take g es'=es':=ZXp<|by omega
    subst hl;simp only[Qt,Q2,hb,hg,cond_true,ZXO,ht,Qq,beq_self_eq_true,ZWY,h0,h1,h2,and_self,if_true,hy,cond_false,hf,ZX8,Zs]
  |_=>cases hr
def Z2e{h:Hp}{aid sz bytes:Nat}{es ys:List AV}{bw bw2 ex:Bool}(hy:ys.isEmpty=false)(h0:0<sz)(h1:0<bytes)(h2:(es.length+ys.length)*bytes<=140737488355328):
 Qt h aid false sz bytes (.isl bw true sz es) (.isl bw2 ex sz ys)=some (.sl aid (es++ys).length 0 (es++ys).length false,[],some (aid,.row sz<|es++ys)):=by
 simp only[Qt,Q2,Qq,beq_self_eq_true,ZWY,h0,h1,h2,and_self,if_true,hy,cond_false,Yp,Zs,ZXe]
def F5(x:AObj):setH [] 0 x=[x]:=(rfl)
def liS(v:AV)(m i:Nat)(n:Nat)(v0:AV):Fr:=
 [(1,if i=0 then v0 else .sl 2 (m+i) 0 (m+i) false),(5,.sl 0 i 0 i false),(8,v),(9,I n),(10,I i)]
def liH(l:List Ent)(more:List Str)(i:Nat):Hp:=
 if i=0 then [.row 4 []]else [.row 4<|((l.take i).map Yl).map HN.enc,.row 7<|(l.take 1).map Ent.enc,.row 1<|(more++(l.take i).map Yd).map encS]
def F6(l:List Ent)(ex:Bool)(more:List Str)(bw:Bool)(hl:l.length<=1000)(hm:more.length<=1000):pfn rE 188 [.isl false ex 7<|l.map Ent.enc,.isl bw true 1<|more.map encS]=some (.bool<|Xi l more):=by
 have hcS:∀K:List Str,Z4 (K.map encS)=true:=λK=>Zw (λt=>rfl) K
 have hcN:∀K:List HN,Z4 (K.map HN.enc)=true:=λK=>Zw (λt=>rfl) K
 have hbS:∀n(K:List Str),Zd n (K.map encS)=true:=λn K=>ZN _<|hcS K
 have hbN:∀n(K:List HN),Zd n (K.map HN.enc)=true:=λn K=>ZN _<|hcN K
 have hbE:∀n(K:List Ent),Zd n (K.map Ent.enc)=true:=λn K=>ZN _<|Zw (λt=>rfl) K
 have L:=Jk (E:=rE) (live:=[1,5,8,9,10]) (b:=c188L0b) l (λ_ x=>K6 x)
  (λi=>liS (.isl false ex 7<|l.map Ent.enc) more.length i l.length<|.isl bw true 1<|more.map encS) (liH l more) 0
  (λfr h=>get fr 1=(if l.length=0 then .isl bw true 1 (more.map encS)else .sl 2 (more.length+l.length) 0 (more.length+l.length) false)/\get fr 4=.bot/\get fr 5=.sl 0 l.length 0 l.length false/\h=liH l more l.length)
  (λfr h=>get fr 4=.bool false) (λi=>rfl)
  (λi x hx hP=>by
   have hg:=Z6 (f:=Ent.enc) hx;have hi:=Zh<|Z7 hx;have hil:=Z7 hx;have hw:=Zx (n:=i) (by have:=Z7 hx;omega)
   have hN:=YW Yl hx;have hS:=YW Yd hx;have hlN:((l.take i).map Yl).length=i:=by rw[ZWQ];exact take_len hx
   have hlS:((l.take i).map Yd).length=i:=by rw[ZWQ];exact take_len hx
   have hP':YO x.An=true:=hP;have h1:(l.take 1).map Ent.enc=(l.take 1).map Ent.enc:=rfl;rcases i with _|j
   .have t1:l.take 1=[x]:=by
     have:=YW id hx;simpa using this
    have e1:liH l more (0+1)=[.row 4 [.agg [I x.An.N,.str x.An.bm,I x.An.Num,I x.An.Den]],.row 7 [.agg [.str x.Id,I x.An.N,.str x.An.bm,I x.An.Num,I x.An.Den,I x.bg.X,I x.bg.Y]],.row 1<|more.map encS++[.str x.Id]]:=by
     simp only[liH,ZXf,t1,ZX4];rfl
    rw[e1];have ha:=Z2e (h:=[.row 4 [],.row 7 [.agg [.str x.Id,I x.An.N,.str x.An.bm,I x.An.Num,I x.An.Den,I x.bg.X,I x.bg.Y]]]) (aid:=2) (sz:=1) (bytes:=16) (es:=more.map encS) (ys:=[.str x.Id]) (bw:=bw) (bw2:=false) (ex:=false) rfl (by omega) (by omega) (by simp;omega)
    have hb:=NE (aid:=3) (h:=[.row 4 [],.row 7 [.agg [.str x.Id,I x.An.N,.str x.An.bm,I x.An.Num,I x.An.Den,I x.bg.X,I x.bg.Y]],.row 1<|more.map encS++[.str x.Id]]) (fz:=false) (b:=0) (g:=0) (sz:=4) (es:=[]) (bw:=false) (ex:=false) (ys:=[.agg [I x.An.N,.str x.An.bm,I x.An.Num,I x.An.Den]]) (bytes:=40) (by simp[rowAt]) rfl (by rfl) (by omega) (by omega) (by simp)
    refine⟨_,by simp only[go_sem,c188L0b,liS,liH,hg,hi,hw,Ent.enc,Ji,hP',beq_self_eq_true,ha,hb,appW,ZM,ZH,wrB,ZXo,F5];rfl,?_⟩
    simp only[go_sem,liS,ZXf,Nat.one_ne_zero]
   .have t1:∃y,l.take 1=[y]:=by
     rcases l with _|⟨y,r⟩
     .simp at hx
     .exact⟨y,by simp⟩
    obtain⟨y,ht1⟩:=t1;have e1:liH l more (j+1+1)=[.row 4<|((l.take<|j+1).map Yl).map HN.enc++[.agg [I x.An.N,.str x.An.bm,I x.An.Num,I x.An.Den]],.row 7 [Ent.enc y],.row 1<|(more++(l.take<|j+1).map Yd).map encS++[.str x.Id]]:=by
     simp only[liH,ZYF,if_false,hN,hS,ht1,ZX4];simp only[ZXx];rfl
    have e0:liH l more (j+1)=[.row 4<|((l.take<|j+1).map Yl).map HN.enc,.row 7 [Ent.enc y],.row 1<|(more++(l.take<|j+1).map Yd).map encS]:=by
     simp only[liH,ZYF,if_false,ht1];rfl
    rw[e0,e1];have hby':∀n,bel n (Ent.enc y)=true:=λn=>rfl
    generalize Ent.enc y=ey at hby'⊢;have hlS':(more++(l.take<|j+1).map Yd).length=more.length+(j+1):=by rw[ZX7,hlS]
    generalize(l.take<|j+1).map Yl=KN at hlN⊢;generalize more++(l.take<|j+1).map Yd=KS at hlS'⊢;have ha:=NE (aid:=4) (h:=[.row 4<|KN.map HN.enc,.row 7 [ey],.row 1<|KS.map encS,.row 7 [.agg [.str x.Id,I x.An.N,.str x.An.bm,I x.An.Num,I x.An.Den,I x.bg.X,I x.bg.Y]]]) (fz:=false) (b:=2) (g:=more.length+(j+1)) (sz:=1) (es:=KS.map encS) (bw:=false) (ex:=false) (ys:=[.str x.Id]) (bytes:=16) (by simp[rowAt,hlS']) rfl (by rfl) (by omega) (by omega) (by simp;omega)
    have hb:=NE (aid:=4) (h:=[.row 4<|KN.map HN.enc,.row 7 [ey],.row 1<|KS.map encS++[.str x.Id],.row 7 [.agg [.str x.Id,I x.An.N,.str x.An.bm,I x.An.Num,I x.An.Den,I x.bg.X,I x.bg.Y]]]) (fz:=false) (b:=0) (g:=j+1) (sz:=4) (es:=KN.map HN.enc) (bw:=false) (ex:=false) (ys:=[.agg [I x.An.N,.str x.An.bm,I x.An.Num,I x.An.Den]]) (bytes:=40) (by simp[rowAt,hlN]) rfl (by rfl) (by omega) (by omega) (by simp;omega)
    refine⟨_,by simp only[go_sem,c188L0b,liS,ZYF,if_false,hg,hi,hw,Ent.enc,Ji,hP',beq_self_eq_true,ha,hb,appW,ZM,ZH,wrB,hbS,hbN,hby',ZXo];rfl,?_⟩
    simp only[go_sem,liS,ZYF,if_false,ZXM])
  (λi x hx hP=>by
   have hg:=Z6 (f:=Ent.enc) hx;have hi:=Zh<|Z7 hx;have hP':YO x.An=false:=hP;rcases i with _|j
   .refine⟨_,_,by simp only[go_sem,c188L0b,liS,liH,hg,hi,Ent.enc,Ji,hP'];rfl,?_⟩
    simp only[go_sem]
   .have t1:∃y,l.take 1=[y]:=by
     rcases l with _|⟨y,r⟩
     .simp at hx
     .exact⟨y,by simp⟩
    obtain⟨y,ht1⟩:=t1;have e0:liH l more (j+1)=[.row 4<|((l.take<|j+1).map Yl).map HN.enc,.row 7 [Ent.enc y],.row 1<|(more++(l.take<|j+1).map Yd).map encS]:=by
     simp only[liH,ZYF,if_false,ht1];rfl
    rw[e0];have hby':∀n,bel n (Ent.enc y)=true:=λn=>rfl
    generalize Ent.enc y=ey at hby'⊢;generalize(l.take<|j+1).map Yl=KN;generalize more++(l.take<|j+1).map Yd=KS;refine⟨_,_,by simp only[go_sem,c188L0b,liS,ZYF,if_false,hg,hi,Ent.enc,Ji,hP',beq_self_eq_true,hbS,hbN,hby'];rfl,?_⟩
    simp only[go_sem])
  (by
   refine⟨_,_,by simp only[go_sem,c188L0b,liS,ZG];rfl,?_,?_,?_,?_⟩
   .simp only[go_sem]
   .simp only[go_sem]
   .simp only[go_sem]
   .unfold liH;split<;>simp only[go_sem])
 rw[QE]at L;obtain⟨fr',h',h1,h2,h3⟩:=L;have h1':Zg rE [1,5,8,9,10] c188L0b [(1,.isl bw true 1<|more.map encS),(5,.sl 0 0 0 0 false),(8,.isl false ex 7<|l.map Ent.enc),(9,I l.length),(10,.int .i64 0)] [.row 4 []]=_:=h1;rw[Z5 (f:=188) rfl rfl];unfold Xi;have hany:(λx=>K6 x)=K6:=rfl
 cases hc:l.all K6 with
 |false=>
  have hc':(l.all λx=>K6 x)=false:=hc
  rw[hc']at h1';have hg:=h3 hc';simp only[go_sem,c188,c188L0,h1',hg,ZX2]
 |true=>
  have hc':(l.all λx=>K6 x)=true:=hc
  rw[hc']at h1';obtain⟨g1,g4,g5,rfl⟩:=h2 hc';have hids:=λ(b e:Bool)=>Uw (more++l.map Yd) b e<|by simp;omega
  have hdf:=Z22 (l.map Yl) false false<|by simp;omega
  rcases l with _|⟨y,r⟩
  .have e:more++([]:List Ent).map Yd=more:=by simp
   rw[e]at hids⊢;have hids':=hids bw true;have hdf':pfn rE 245 [.isl false false 4 []]=some (.bool<|XH QL<|([]:List Ent).map Yl):=hdf;have g1':get fr' 1=.isl bw true 1 (more.map encS):=g1;have g5':get fr' 5=.sl 0 0 0 0 false:=g5;have h1'':Zg rE [1,5,8,9,10] c188L0b [(1,.isl bw true 1<|more.map encS),(5,.sl 0 0 0 0 false),(8,.isl false ex 7 []),(9,.int .i64 ((0:Nat):Int)),(10,.int .i64 0)] [.row 4 []]=some (.exit 0,fr',[.row 4 []]):=h1';cases hi:Qv more<;>rw[hi]at hids'<;>cases bw<;>simp only[go_sem,c188,c188L0,h1'',g1',g4,g5',hids',hdf',beq_self_eq_true]
  .generalize hl0:y::r=l at*;have hne:(l.length=0)=False:=by rw[<-hl0];simp
   obtain⟨z,hz⟩:∃z,l.take 1=[z]:=⟨y,by rw[<-hl0];rfl⟩
   have htl:l.take l.length=l:=ZXu;simp only[hne,if_false]at g1;have hzl:∀n,Zd n ([z].map Ent.enc)=true:=λn=>hbE n _
   have hlN:(l.map Yl).length=l.length:=ZWQ ..;have hlS:(more++l.map Yd).length=more.length+l.length:=by simp
   have tkN:List.take l.length ((l.map Yl).map HN.enc)=(l.map Yl).map HN.enc:=ZXp<|by simp
   have tkS:List.take (more.length+l.length) ((more++l.map Yd).map encS)=(more++l.map Yd).map encS:=ZXp<|by simp
   have hids':=hids false false;have heq:(l.length==0)=false:=by rw[beq_eq_false_iff_ne];intro h;rw[hne]at h;exact h
   have hH:liH l more l.length=[.row 4<|(l.map Yl).map HN.enc,.row 7<|[z].map Ent.enc,.row 1<|(more++l.map Yd).map encS]:=by
    simp only[liH,hne,if_false,htl,hz]
   rw[hH]at h1';generalize([z].map Ent.enc)=Z at hzl h1';generalize l.map Yl=KN at*;generalize more++l.map Yd=KS at*;cases hi:Qv KS<;>rw[hi]at hids'<;>simp only[go_sem,c188,c188L0,h1',g1,g4,g5,hids',hdf,beq_self_eq_true,hbN,hcS,hcN,hzl,hlN,hlS,tkN,tkS,if_true]
abbrev evA(e:Gt):AV:=.agg [I e.bq,I e.Day,I e.A,I e.B,I e.bv,.str e.Id,.str e.br,.str e.Text,.isl false e.Ids.ex 1<|e.Ids.l.map encS,.isl false e.bk.ex 3<|e.bk.l.map Nm.enc,
 I e.An.N,.str e.An.bm,I e.An.Num,I e.An.Den,I e.bg.X,I e.bg.Y,.isl false e.Path.ex 2<|e.Path.l.map Pt.enc,.isl false e.Lst.ex 7<|e.Lst.l.map Ent.enc]
structure EvS(e:Gt):Prop where
 ids:e.Ids.l.length<=100
 names:e.bk.l.length<=100
 path:e.Path.l.length<=100
 lst:e.Lst.l.length<=100
 id:e.Id.size<=1000
 other:e.br.size<=1000
 text:e.Text.size<=1000
def F7(fn:Fn):Option (List AV)->Option (List AV)->Option AV
 |some f,some c=>some<|.clo fn f c
 |_,_=>none
def Z2f(fn:Fn)(f c:List AV):F7 fn (some f) (some c)=some (.clo fn f c):=rfl
def Z2g(bw:Bool)(h:Hp)(n:Nat)(fn:Fn)(a c:List AV)(hc:(Z4 a&&Z4 c)=false):freeze bw h (n+1) (.clo fn a c)=F7 fn (ZC bw h n a) (ZC bw h n c):=by
 conv=>lhs;unfold freeze
 have:clean (.clo fn a c)=false:=hc;rw[this,cond_false];dsimp only;cases ZC bw h n a<;>cases ZC bw h n c<;>rfl
attribute [go_sem] Z2f Z2g
def n0:AV:=.iptr false [.clo (.func 169) [] []]
def Vl(e:Gt):pfn rE 169 [evA e]=some (.bool<|ZZ e.Id):=by
 rw[Z5 (f:=169) rfl rfl];simp only[go_sem,c169,Jl]
def F8(e:Gt):pfn rE 171 [evA e]=some (.bool<|K5 e.A e.B):=by
 rw[Z5 (f:=171) rfl rfl];simp only[go_sem,c171,Z2b]
def Z2h(e:Gt):pfn rE 179 [evA e]=some (.bool<|Qv [e.Id,e.br]):=by
 have h:pfn rE 180 [.isl false false 1 [.str e.Id,.str e.br]]=some (.bool<|Qv [e.Id,e.br]):=Uw [e.Id,e.br] false false<|by simp
 rw[Z5 (f:=179) rfl rfl];simp only[go_sem,c179,h]
def Z2i(e:Gt)(hs:EvS e):pfn rE 173 [evA e,.iptr false [.clo (.func 169) [] []]]=some (.bool<|ZZ e.Id&&(ZD e.A 1 3&&Vh e.Path.l)):=by
 have hv:=Dz e.Path.l e.Path.ex (by have:=hs.path;omega)
 rw[Z5 (f:=173) rfl rfl];have h1:=Vl e;cases c1:ZZ e.Id<;>rw[c1]at h1<;>cases c2:ZD e.A 1 3<;>simp only[go_sem,c173,h1,QU,c2,hv]
def Z2j(e:Gt)(hs:EvS e):pfn rE 175 [evA e,.iptr false [.clo (.func 169) [] []]]=some (.bool<|ZZ e.Id&&Ul e.Path.l):=by
 have hv:=Z1o e.Path.l e.Path.ex (by have:=hs.path;omega)
 rw[Z5 (f:=175) rfl rfl];have h1:=Vl e;cases c1:ZZ e.Id<;>rw[c1]at h1<;>simp only[go_sem,c175,h1,hv]
def Z2k(e:Gt)(hs:EvS e):pfn rE 177 [evA e,.iptr false [.clo (.func 169) [] []]]=some (.bool<|ZZ e.Id&&Uz e.bk.l):=by
 have hv:=Z2d e.bk.l e.bk.ex (by have:=hs.names;omega)
 rw[Z5 (f:=177) rfl rfl];have h1:=Vl e;cases c1:ZZ e.Id<;>rw[c1]at h1<;>simp only[go_sem,c177,h1,hv]
def Z2l(e:Gt)(hs:EvS e):pfn rE 181 [evA e,.iptr false [.clo (.func 169) [] []]]=some (.bool<|ZZ e.Id&&Vh e.Path.l):=by
 have hv:=Dz e.Path.l e.Path.ex (by have:=hs.path;omega)
 rw[Z5 (f:=181) rfl rfl];have h1:=Vl e;cases c1:ZZ e.Id<;>rw[c1]at h1<;>simp only[go_sem,c181,h1,hv]
def Z2m(e:Gt):pfn rE 182 [evA e]=some (.bool<|Qv [e.Id,e.br,e.Text]&&(YO e.An&&gOn e.bg)):=by
 have h:pfn rE 180 [.isl false false 1 [.str e.Id,.str e.br,.str e.Text]]=some (.bool<|Qv [e.Id,e.br,e.Text]):=Uw [e.Id,e.br,e.Text] false false<|by simp
 rw[Z5 (f:=182) rfl rfl];cases c1:Qv [e.Id,e.br,e.Text]<;>rw[c1]at h<;>cases c2:YO e.An<;>simp only[go_sem,c182,h,Ji,c2,W8]
def Z2n(e:Gt):pfn rE 185 [evA e]=some (.bool<|Qv [e.Id,e.br]&&Jm e.Text 24):=by
 have h:pfn rE 180 [.isl false false 1 [.str e.Id,.str e.br]]=some (.bool<|Qv [e.Id,e.br]):=Uw [e.Id,e.br] false false<|by simp
 rw[Z5 (f:=185) rfl rfl];cases c1:Qv [e.Id,e.br]<;>rw[c1]at h<;>simp only[go_sem,c185,h,DZ]
def Z2o(e:Gt)(hs:EvS e):pfn rE 187 [evA e,.iptr false [.clo (.func 169) [] []]]=some (.bool<|ZZ e.Id&&(ZD e.Lst.l.length 1 40&&(Xi e.Lst.l []&&Vk e.Lst.l true))):=by
 have hv:pfn rE 188 [.isl false e.Lst.ex 7<|e.Lst.l.map Ent.enc,.isl false true 1 []]=some (.bool<|Xi e.Lst.l []):=F6 e.Lst.l e.Lst.ex [] false (by have:=hs.lst;omega)<|by simp
 have hp:=F4 e.Lst.l e.Lst.ex true (by have:=hs.lst;omega)
 rw[Z5 (f:=187) rfl rfl];have h1:=Vl e;cases c1:ZZ e.Id<;>rw[c1]at h1<;>cases c2:ZD e.Lst.l.length 1 40<;>cases c5003:Xi e.Lst.l []<;>rw[c5003]at hv<;>simp only[go_sem,c187,h1,QU,c2,hv,hp]
def Z2p(e:Gt)(hs:EvS e):pfn rE 190 [evA e]=some (.bool<|ZD e.Lst.l.length 2 8&&(Xi e.Lst.l [e.Id]&&Vk e.Lst.l false)):=by
 have hv:pfn rE 188 [.isl false e.Lst.ex 7<|e.Lst.l.map Ent.enc,.isl true true 1 [.str e.Id]]=some (.bool<|Xi e.Lst.l [e.Id]):=F6 e.Lst.l e.Lst.ex [e.Id] true (by have:=hs.lst;omega)<|by simp
 have hp:=F4 e.Lst.l e.Lst.ex false (by have:=hs.lst;omega)
 rw[Z5 (f:=190) rfl rfl];cases c2:ZD e.Lst.l.length 2 8<;>cases c5003:Xi e.Lst.l [e.Id]<;>rw[c5003]at hv<;>simp only[go_sem,c190,QU,c2,hv,hp]
def Z2q{h:Hp}{aid b g sz bytes:Nat}{es ys:List AV}{bw ex:Bool}(hr:rowAt h b g=some (sz,es))(hy:ys.isEmpty=false)(h0:0<sz)(h1:0<bytes)(h2:(g+ys.length)*bytes<=140737488355328):
 Qt h aid false sz bytes (.sl b g 0 g true) (.isl bw ex sz ys)=some (.sl aid (es++ys).length 0 (es++ys).length false,[b],some (aid,.row sz<|es++ys)):=by
 unfold rowAt at hr;cases hb:h[b]? with
 |none=>rw[hb]at hr;cases hr
 |some o=>
  rw[hb]at hr;cases o with
  |row sz' es'=>
   dsimp only at hr;cases hg:(es'.length==g)with
   |false=>rw[hg]at hr;cases hr
   |true=>
    rw[hg]at hr;simp only[cond_true,Option.some.injEq,Prod.mk.injEq]at hr;obtain⟨rfl,rfl⟩:=hr;have hl:es'.length=g:=by simpa using hg
    have ht:List.take g es'=es':=ZXp<|by omega
    subst hl;simp only[Qt,Q2,hb,hg,cond_true,ZXO,ht,Qq,beq_self_eq_true,ZWY,h0,h1,h2,and_self,if_true,hy,cond_false,Yp,Zs,ZXe]
  |_=>cases hr
def Z2r(e:Gt)(hs:EvS e):pfn rE 191 [evA e]=some (.bool<|ZD e.Ids.l.length 2 8&&(Qv (e.Id::e.Ids.l)&&(YO e.An&&gOn e.bg))):=by
 have hcS:∀K:List Str,Z4 (K.map encS)=true:=λK=>Zw (λt=>rfl) K
 have hbS:∀n(K:List Str),Zd n (K.map encS)=true:=λn K=>ZN _<|hcS K
 have h:pfn rE 180 [.isl true false 1<|.str e.Id::e.Ids.l.map encS]=some (.bool<|Qv<|e.Id::e.Ids.l):=Uw (e.Id::e.Ids.l) true false (by have:=hs.ids;simp;omega)
 rw[Z5 (f:=191) rfl rfl];cases c2:ZD e.Ids.l.length 2 8 with
 |false=>simp only[go_sem,c191,QU,c2]
 |true=>
  have hne:(e.Ids.l.map encS).isEmpty=false:=by
   unfold ZD at c2;cases hl:e.Ids.l with
   |nil=>rw[hl]at c2;simp at c2
   |cons x r=>rfl
  have ha:=Z2q (h:=[.row 1 [.str e.Id]]) (aid:=1) (b:=0) (g:=1) (sz:=1) (bytes:=16) (es:=[.str e.Id]) (bw:=false) (ex:=e.Ids.ex) rfl hne (by omega) (by omega) (by have:=hs.ids;simp;omega)
  have tk:List.take (e.Ids.l.length+1) (.str e.Id::e.Ids.l.map encS)=.str e.Id::e.Ids.l.map encS:=ZXp<|by simp
  have tk1:List.take (1+e.Ids.l.length) (.str e.Id::e.Ids.l.map encS)=.str e.Id::e.Ids.l.map encS:=ZXp<|by simp;omega
  cases c5003:Qv (e.Id::e.Ids.l)<;>rw[c5003]at h<;>cases c5004:YO e.An<;>simp only[go_sem,c191,QU,c2,h,Ji,c5004,W8,appW,ha,ZM,ZH,F5,beq_self_eq_true,tk,hcS]
def Z2s(e:Gt):pfn rE 192 [evA e,.iptr false [.clo (.func 169) [] []]]=some (.bool<|ZZ e.Id&&(ZD e.bv 0 63&&Uu e.Text)):=by
 rw[Z5 (f:=192) rfl rfl];have h1:=Vl e;cases c1:ZZ e.Id<;>rw[c1]at h1<;>cases c2:ZD e.bv 0 63<;>simp only[go_sem,c192,h1,QU,c2,Z27]
def kIn(e:Gt)(ks:List Int):Bool:=ks.any<|λx=>e.bq==x
def Zq(e:Gt):Gt:=
 {bq:=e.bq,Day:=e.Day,
  A:=bif kIn e [13,14]then(bif kIn e [1]then 0 else 0)else(bif kIn e [1]then 0 else e.A),
  B:=bif kIn e [13,14]then 0 else e.B,
  bv:=bif e.bq==15 then 0 else e.bv,
  Id:=bif kIn e [13,14]then e.Id else emp,
  br:=bif kIn e [4,6,7]then emp else e.br,
  Text:=bif kIn e [6,7,15]then emp else e.Text,
  Ids:=bif e.bq==10 then⟨false,[]⟩else e.Ids,
  bk:=bif e.bq==3 then⟨false,[]⟩else e.bk,
  An:=bif kIn e [6,10]then⟨0,emp,0,0⟩else e.An,
  bg:=bif kIn e [6,10]then⟨0,0⟩else e.bg,
  Path:=bif kIn e [1,2,5]then⟨false,[]⟩else e.Path,
  Lst:=bif kIn e [8,9]then⟨false,[]⟩else e.Lst}
def Zc(ks:List Int)(ex:Bool)(k:Int)(hk:ks.length<=100):pfn rE 168 [.isl false ex 1<|ks.map I,.iptr true [I k]]=some (.bool<|ks.any<|λx=>k==x):=by
 have h:=DR ks ex k<|by omega
 rw[Z5 (f:=168) rfl rfl];simp only[go_sem,c168,h]
def Z2t(e:Gt)(hk:e.bq=1):pfn rE 96 [evA e]=some (evA<|Zq e):=by
 have h0:pfn rE 168 [.isl false false 1 [I 13,I 14],.iptr true [I 1]]=some (.bool false):=Zc [13,14] false 1<|by decide
 have b0:kIn e [13,14]=false:=by unfold kIn;rw[hk];rfl
 have h1:pfn rE 168 [.isl false false 1 [I 1],.iptr true [I 1]]=some (.bool true):=Zc [1] false 1<|by decide
 have b1:kIn e [1]=true:=by unfold kIn;rw[hk];rfl
 have h2:pfn rE 168 [.isl false false 1 [I 1,I 2,I 5],.iptr true [I 1]]=some (.bool true):=Zc [1,2,5] false 1<|by decide
 have b2:kIn e [1,2,5]=true:=by unfold kIn;rw[hk];rfl
 have h3:pfn rE 168 [.isl false false 1 [I 4,I 6,I 7],.iptr true [I 1]]=some (.bool false):=Zc [4,6,7] false 1<|by decide
 have b3:kIn e [4,6,7]=false:=by unfold kIn;rw[hk];rfl
 have h4:pfn rE 168 [.isl false false 1 [I 6,I 7,I 15],.iptr true [I 1]]=some (.bool false):=Zc [6,7,15] false 1<|by decide
 have b4:kIn e [6,7,15]=false:=by unfold kIn;rw[hk];rfl
 have h5:pfn rE 168 [.isl false false 1 [I 6,I 10],.iptr true [I 1]]=some (.bool false):=Zc [6,10] false 1<|by decide
 have b5:kIn e [6,10]=false:=by unfold kIn;rw[hk];rfl
 have h6:pfn rE 168 [.isl false false 1 [I 8,I 9],.iptr true [I 1]]=some (.bool false):=Zc [8,9] false 1<|by decide
 have b6:kIn e [8,9]=false:=by unfold kIn;rw[hk];rfl
 have q0:((1:Int)==3)=false:=rfl;have q1:((1:Int)==10)=false:=rfl;have q2:((1:Int)==15)=false:=rfl;rw[Z5 (f:=96) rfl rfl];unfold Zq;simp only[go_sem,c96,hk,h0,h1,h2,h3,h4,h5,h6,b0,b1,b2,b3,b4,b5,b6,q0,q1,q2]
 try rfl
def Z2u(e:Gt)(hk:e.bq=2):pfn rE 96 [evA e]=some (evA<|Zq e):=by
 have h0:pfn rE 168 [.isl false false 1 [I 13,I 14],.iptr true [I 2]]=some (.bool false):=Zc [13,14] false 2<|by decide
 have b0:kIn e [13,14]=false:=by unfold kIn;rw[hk];rfl
 have h1:pfn rE 168 [.isl false false 1 [I 1],.iptr true [I 2]]=some (.bool false):=Zc [1] false 2<|by decide
 have b1:kIn e [1]=false:=by unfold kIn;rw[hk];rfl
 have h2:pfn rE 168 [.isl false false 1 [I 1,I 2,I 5],.iptr true [I 2]]=some (.bool true):=Zc [1,2,5] false 2<|by decide
 have b2:kIn e [1,2,5]=true:=by unfold kIn;rw[hk];rfl
 have h3:pfn rE 168 [.isl false false 1 [I 4,I 6,I 7],.iptr true [I 2]]=some (.bool false):=Zc [4,6,7] false 2<|by decide
 have b3:kIn e [4,6,7]=false:=by unfold kIn;rw[hk];rfl
 have h4:pfn rE 168 [.isl false false 1 [I 6,I 7,I 15],.iptr true [I 2]]=some (.bool false):=Zc [6,7,15] false 2<|by decide
 have b4:kIn e [6,7,15]=false:=by unfold kIn;rw[hk];rfl
 have h5:pfn rE 168 [.isl false false 1 [I 6,I 10],.iptr true [I 2]]=some (.bool false):=Zc [6,10] false 2<|by decide
 have b5:kIn e [6,10]=false:=by unfold kIn;rw[hk];rfl
 have h6:pfn rE 168 [.isl false false 1 [I 8,I 9],.iptr true [I 2]]=some (.bool false):=Zc [8,9] false 2<|by decide
 have b6:kIn e [8,9]=false:=by unfold kIn;rw[hk];rfl
 have q0:((2:Int)==3)=false:=rfl;have q1:((2:Int)==10)=false:=rfl;have q2:((2:Int)==15)=false:=rfl;rw[Z5 (f:=96) rfl rfl];unfold Zq;simp only[go_sem,c96,hk,h0,h1,h2,h3,h4,h5,h6,b0,b1,b2,b3,b4,b5,b6,q0,q1,q2]
 try rfl
def Z2v(e:Gt)(hk:e.bq=3):pfn rE 96 [evA e]=some (evA<|Zq e):=by
 have h0:pfn rE 168 [.isl false false 1 [I 13,I 14],.iptr true [I 3]]=some (.bool false):=Zc [13,14] false 3<|by decide
 have b0:kIn e [13,14]=false:=by unfold kIn;rw[hk];rfl
 have h1:pfn rE 168 [.isl false false 1 [I 1],.iptr true [I 3]]=some (.bool false):=Zc [1] false 3<|by decide
 have b1:kIn e [1]=false:=by unfold kIn;rw[hk];rfl
 have h2:pfn rE 168 [.isl false false 1 [I 1,I 2,I 5],.iptr true [I 3]]=some (.bool false):=Zc [1,2,5] false 3<|by decide
 have b2:kIn e [1,2,5]=false:=by unfold kIn;rw[hk];rfl
 have h3:pfn rE 168 [.isl false false 1 [I 4,I 6,I 7],.iptr true [I 3]]=some (.bool false):=Zc [4,6,7] false 3<|by decide
 have b3:kIn e [4,6,7]=false:=by unfold kIn;rw[hk];rfl
 have h4:pfn rE 168 [.isl false false 1 [I 6,I 7,I 15],.iptr true [I 3]]=some (.bool false):=Zc [6,7,15] false 3<|by decide
 have b4:kIn e [6,7,15]=false:=by unfold kIn;rw[hk];rfl
 have h5:pfn rE 168 [.isl false false 1 [I 6,I 10],.iptr true [I 3]]=some (.bool false):=Zc [6,10] false 3<|by decide
 have b5:kIn e [6,10]=false:=by unfold kIn;rw[hk];rfl
 have h6:pfn rE 168 [.isl false false 1 [I 8,I 9],.iptr true [I 3]]=some (.bool false):=Zc [8,9] false 3<|by decide
 have b6:kIn e [8,9]=false:=by unfold kIn;rw[hk];rfl
 have q0:((3:Int)==3)=true:=rfl;have q1:((3:Int)==10)=false:=rfl;have q2:((3:Int)==15)=false:=rfl;rw[Z5 (f:=96) rfl rfl];unfold Zq;simp only[go_sem,c96,hk,h0,h1,h2,h3,h4,h5,h6,b0,b1,b2,b3,b4,b5,b6,q0,q1,q2]
 try rfl
def Z2w(e:Gt)(hk:e.bq=4):pfn rE 96 [evA e]=some (evA<|Zq e):=by
 have h0:pfn rE 168 [.isl false false 1 [I 13,I 14],.iptr true [I 4]]=some (.bool false):=Zc [13,14] false 4<|by decide
 have b0:kIn e [13,14]=false:=by unfold kIn;rw[hk];rfl
 have h1:pfn rE 168 [.isl false false 1 [I 1],.iptr true [I 4]]=some (.bool false):=Zc [1] false 4<|by decide
 have b1:kIn e [1]=false:=by unfold kIn;rw[hk];rfl
 have h2:pfn rE 168 [.isl false false 1 [I 1,I 2,I 5],.iptr true [I 4]]=some (.bool false):=Zc [1,2,5] false 4<|by decide
 have b2:kIn e [1,2,5]=false:=by unfold kIn;rw[hk];rfl
 have h3:pfn rE 168 [.isl false false 1 [I 4,I 6,I 7],.iptr true [I 4]]=some (.bool true):=Zc [4,6,7] false 4<|by decide
 have b3:kIn e [4,6,7]=true:=by unfold kIn;rw[hk];rfl
 have h4:pfn rE 168 [.isl false false 1 [I 6,I 7,I 15],.iptr true [I 4]]=some (.bool false):=Zc [6,7,15] false 4<|by decide
 have b4:kIn e [6,7,15]=false:=by unfold kIn;rw[hk];rfl
 have h5:pfn rE 168 [.isl false false 1 [I 6,I 10],.iptr true [I 4]]=some (.bool false):=Zc [6,10] false 4<|by decide
 have b5:kIn e [6,10]=false:=by unfold kIn;rw[hk];rfl
 have h6:pfn rE 168 [.isl false false 1 [I 8,I 9],.iptr true [I 4]]=some (.bool false):=Zc [8,9] false 4<|by decide
 have b6:kIn e [8,9]=false:=by unfold kIn;rw[hk];rfl
 have q0:((4:Int)==3)=false:=rfl;have q1:((4:Int)==10)=false:=rfl;have q2:((4:Int)==15)=false:=rfl;rw[Z5 (f:=96) rfl rfl];unfold Zq;simp only[go_sem,c96,hk,h0,h1,h2,h3,h4,h5,h6,b0,b1,b2,b3,b4,b5,b6,q0,q1,q2]
 try rfl
def Z2x(e:Gt)(hk:e.bq=5):pfn rE 96 [evA e]=some (evA<|Zq e):=by
 have h0:pfn rE 168 [.isl false false 1 [I 13,I 14],.iptr true [I 5]]=some (.bool false):=Zc [13,14] false 5<|by decide
 have b0:kIn e [13,14]=false:=by unfold kIn;rw[hk];rfl
 have h1:pfn rE 168 [.isl false false 1 [I 1],.iptr true [I 5]]=some (.bool false):=Zc [1] false 5<|by decide
 have b1:kIn e [1]=false:=by unfold kIn;rw[hk];rfl
 have h2:pfn rE 168 [.isl false false 1 [I 1,I 2,I 5],.iptr true [I 5]]=some (.bool true):=Zc [1,2,5] false 5<|by decide
 have b2:kIn e [1,2,5]=true:=by unfold kIn;rw[hk];rfl
 have h3:pfn rE 168 [.isl false false 1 [I 4,I 6,I 7],.iptr true [I 5]]=some (.bool false):=Zc [4,6,7] false 5<|by decide
 have b3:kIn e [4,6,7]=false:=by unfold kIn;rw[hk];rfl
 have h4:pfn rE 168 [.isl false false 1 [I 6,I 7,I 15],.iptr true [I 5]]=some (.bool false):=Zc [6,7,15] false 5<|by decide
 have b4:kIn e [6,7,15]=false:=by unfold kIn;rw[hk];rfl
 have h5:pfn rE 168 [.isl false false 1 [I 6,I 10],.iptr true [I 5]]=some (.bool false):=Zc [6,10] false 5<|by decide
 have b5:kIn e [6,10]=false:=by unfold kIn;rw[hk];rfl
 have h6:pfn rE 168 [.isl false false 1 [I 8,I 9],.iptr true [I 5]]=some (.bool false):=Zc [8,9] false 5<|by decide
 have b6:kIn e [8,9]=false:=by unfold kIn;rw[hk];rfl
 have q0:((5:Int)==3)=false:=rfl;have q1:((5:Int)==10)=false:=rfl;have q2:((5:Int)==15)=false:=rfl;rw[Z5 (f:=96) rfl rfl];unfold Zq;simp only[go_sem,c96,hk,h0,h1,h2,h3,h4,h5,h6,b0,b1,b2,b3,b4,b5,b6,q0,q1,q2]
 try rfl
def Z2y(e:Gt)(hk:e.bq=6):pfn rE 96 [evA e]=some (evA<|Zq e):=by
 have h0:pfn rE 168 [.isl false false 1 [I 13,I 14],.iptr true [I 6]]=some (.bool false):=Zc [13,14] false 6<|by decide
 have b0:kIn e [13,14]=false:=by unfold kIn;rw[hk];rfl
 have h1:pfn rE 168 [.isl false false 1 [I 1],.iptr true [I 6]]=some (.bool false):=Zc [1] false 6<|by decide
 have b1:kIn e [1]=false:=by unfold kIn;rw[hk];rfl
 have h2:pfn rE 168 [.isl false false 1 [I 1,I 2,I 5],.iptr true [I 6]]=some (.bool false):=Zc [1,2,5] false 6<|by decide
 have b2:kIn e [1,2,5]=false:=by unfold kIn;rw[hk];rfl
 have h3:pfn rE 168 [.isl false false 1 [I 4,I 6,I 7],.iptr true [I 6]]=some (.bool true):=Zc [4,6,7] false 6<|by decide
 have b3:kIn e [4,6,7]=true:=by unfold kIn;rw[hk];rfl
 have h4:pfn rE 168 [.isl false false 1 [I 6,I 7,I 15],.iptr true [I 6]]=some (.bool true):=Zc [6,7,15] false 6<|by decide
 have b4:kIn e [6,7,15]=true:=by unfold kIn;rw[hk];rfl
 have h5:pfn rE 168 [.isl false false 1 [I 6,I 10],.iptr true [I 6]]=some (.bool true):=Zc [6,10] false 6<|by decide
 have b5:kIn e [6,10]=true:=by unfold kIn;rw[hk];rfl
 have h6:pfn rE 168 [.isl false false 1 [I 8,I 9],.iptr true [I 6]]=some (.bool false):=Zc [8,9] false 6<|by decide
 have b6:kIn e [8,9]=false:=by unfold kIn;rw[hk];rfl
 have q0:((6:Int)==3)=false:=rfl;have q1:((6:Int)==10)=false:=rfl;have q2:((6:Int)==15)=false:=rfl;rw[Z5 (f:=96) rfl rfl];unfold Zq;simp only[go_sem,c96,hk,h0,h1,h2,h3,h4,h5,h6,b0,b1,b2,b3,b4,b5,b6,q0,q1,q2]
 try rfl
def Z2z(e:Gt)(hk:e.bq=7):pfn rE 96 [evA e]=some (evA<|Zq e):=by
 have h0:pfn rE 168 [.isl false false 1 [I 13,I 14],.iptr true [I 7]]=some (.bool false):=Zc [13,14] false 7<|by decide
 have b0:kIn e [13,14]=false:=by unfold kIn;rw[hk];rfl
 have h1:pfn rE 168 [.isl false false 1 [I 1],.iptr true [I 7]]=some (.bool false):=Zc [1] false 7<|by decide
 have b1:kIn e [1]=false:=by unfold kIn;rw[hk];rfl
 have h2:pfn rE 168 [.isl false false 1 [I 1,I 2,I 5],.iptr true [I 7]]=some (.bool false):=Zc [1,2,5] false 7<|by decide
 have b2:kIn e [1,2,5]=false:=by unfold kIn;rw[hk];rfl
 have h3:pfn rE 168 [.isl false false 1 [I 4,I 6,I 7],.iptr true [I 7]]=some (.bool true):=Zc [4,6,7] false 7<|by decide
 have b3:kIn e [4,6,7]=true:=by unfold kIn;rw[hk];rfl
 have h4:pfn rE 168 [.isl false false 1 [I 6,I 7,I 15],.iptr true [I 7]]=some (.bool true):=Zc [6,7,15] false 7<|by decide
 have b4:kIn e [6,7,15]=true:=by unfold kIn;rw[hk];rfl
 have h5:pfn rE 168 [.isl false false 1 [I 6,I 10],.iptr true [I 7]]=some (.bool false):=Zc [6,10] false 7<|by decide
 have b5:kIn e [6,10]=false:=by unfold kIn;rw[hk];rfl
 have h6:pfn rE 168 [.isl false false 1 [I 8,I 9],.iptr true [I 7]]=some (.bool false):=Zc [8,9] false 7<|by decide
 have b6:kIn e [8,9]=false:=by unfold kIn;rw[hk];rfl
 have q0:((7:Int)==3)=false:=rfl;have q1:((7:Int)==10)=false:=rfl;have q2:((7:Int)==15)=false:=rfl;rw[Z5 (f:=96) rfl rfl];unfold Zq;simp only[go_sem,c96,hk,h0,h1,h2,h3,h4,h5,h6,b0,b1,b2,b3,b4,b5,b6,q0,q1,q2]
 try rfl
def Z2A(e:Gt)(hk:e.bq=8):pfn rE 96 [evA e]=some (evA<|Zq e):=by
 have h0:pfn rE 168 [.isl false false 1 [I 13,I 14],.iptr true [I 8]]=some (.bool false):=Zc [13,14] false 8<|by decide
 have b0:kIn e [13,14]=false:=by unfold kIn;rw[hk];rfl
 have h1:pfn rE 168 [.isl false false 1 [I 1],.iptr true [I 8]]=some (.bool false):=Zc [1] false 8<|by decide
 have b1:kIn e [1]=false:=by unfold kIn;rw[hk];rfl
 have h2:pfn rE 168 [.isl false false 1 [I 1,I 2,I 5],.iptr true [I 8]]=some (.bool false):=Zc [1,2,5] false 8<|by decide
 have b2:kIn e [1,2,5]=false:=by unfold kIn;rw[hk];rfl
 have h3:pfn rE 168 [.isl false false 1 [I 4,I 6,I 7],.iptr true [I 8]]=some (.bool false):=Zc [4,6,7] false 8<|by decide
 have b3:kIn e [4,6,7]=false:=by unfold kIn;rw[hk];rfl
 have h4:pfn rE 168 [.isl false false 1 [I 6,I 7,I 15],.iptr true [I 8]]=some (.bool false):=Zc [6,7,15] false 8<|by decide
 have b4:kIn e [6,7,15]=false:=by unfold kIn;rw[hk];rfl
 have h5:pfn rE 168 [.isl false false 1 [I 6,I 10],.iptr true [I 8]]=some (.bool false):=Zc [6,10] false 8<|by decide
 have b5:kIn e [6,10]=false:=by unfold kIn;rw[hk];rfl
 have h6:pfn rE 168 [.isl false false 1 [I 8,I 9],.iptr true [I 8]]=some (.bool true):=Zc [8,9] false 8<|by decide
 have b6:kIn e [8,9]=true:=by unfold kIn;rw[hk];rfl
 have q0:((8:Int)==3)=false:=rfl;have q1:((8:Int)==10)=false:=rfl;have q2:((8:Int)==15)=false:=rfl;rw[Z5 (f:=96) rfl rfl];unfold Zq;simp only[go_sem,c96,hk,h0,h1,h2,h3,h4,h5,h6,b0,b1,b2,b3,b4,b5,b6,q0,q1,q2]
 try rfl
def Z2B(e:Gt)(hk:e.bq=9):pfn rE 96 [evA e]=some (evA<|Zq e):=by
 have h0:pfn rE 168 [.isl false false 1 [I 13,I 14],.iptr true [I 9]]=some (.bool false):=Zc [13,14] false 9<|by decide
 have b0:kIn e [13,14]=false:=by unfold kIn;rw[hk];rfl
 have h1:pfn rE 168 [.isl false false 1 [I 1],.iptr true [I 9]]=some (.bool false):=Zc [1] false 9<|by decide
 have b1:kIn e [1]=false:=by unfold kIn;rw[hk];rfl
 have h2:pfn rE 168 [.isl false false 1 [I 1,I 2,I 5],.iptr true [I 9]]=some (.bool false):=Zc [1,2,5] false 9<|by decide
 have b2:kIn e [1,2,5]=false:=by unfold kIn;rw[hk];rfl
 have h3:pfn rE 168 [.isl false false 1 [I 4,I 6,I 7],.iptr true [I 9]]=some (.bool false):=Zc [4,6,7] false 9<|by decide
 have b3:kIn e [4,6,7]=false:=by unfold kIn;rw[hk];rfl
 have h4:pfn rE 168 [.isl false false 1 [I 6,I 7,I 15],.iptr true [I 9]]=some (.bool false):=Zc [6,7,15] false 9<|by decide
 have b4:kIn e [6,7,15]=false:=by unfold kIn;rw[hk];rfl
 have h5:pfn rE 168 [.isl false false 1 [I 6,I 10],.iptr true [I 9]]=some (.bool false):=Zc [6,10] false 9<|by decide
 have b5:kIn e [6,10]=false:=by unfold kIn;rw[hk];rfl
 have h6:pfn rE 168 [.isl false false 1 [I 8,I 9],.iptr true [I 9]]=some (.bool true):=Zc [8,9] false 9<|by decide
 have b6:kIn e [8,9]=true:=by unfold kIn;rw[hk];rfl
 have q0:((9:Int)==3)=false:=rfl;have q1:((9:Int)==10)=false:=rfl;have q2:((9:Int)==15)=false:=rfl;rw[Z5 (f:=96) rfl rfl];unfold Zq;simp only[go_sem,c96,hk,h0,h1,h2,h3,h4,h5,h6,b0,b1,b2,b3,b4,b5,b6,q0,q1,q2]
 try rfl
def Z2C(e:Gt)(hk:e.bq=10):pfn rE 96 [evA e]=some (evA<|Zq e):=by
 have h0:pfn rE 168 [.isl false false 1 [I 13,I 14],.iptr true [I 10]]=some (.bool false):=Zc [13,14] false 10<|by decide
 have b0:kIn e [13,14]=false:=by unfold kIn;rw[hk];rfl
 have h1:pfn rE 168 [.isl false false 1 [I 1],.iptr true [I 10]]=some (.bool false):=Zc [1] false 10<|by decide
 have b1:kIn e [1]=false:=by unfold kIn;rw[hk];rfl
 have h2:pfn rE 168 [.isl false false 1 [I 1,I 2,I 5],.iptr true [I 10]]=some (.bool false):=Zc [1,2,5] false 10<|by decide
 have b2:kIn e [1,2,5]=false:=by unfold kIn;rw[hk];rfl
 have h3:pfn rE 168 [.isl false false 1 [I 4,I 6,I 7],.iptr true [I 10]]=some (.bool false):=Zc [4,6,7] false 10<|by decide
 have b3:kIn e [4,6,7]=false:=by unfold kIn;rw[hk];rfl
 have h4:pfn rE 168 [.isl false false 1 [I 6,I 7,I 15],.iptr true [I 10]]=some (.bool false):=Zc [6,7,15] false 10<|by decide
 have b4:kIn e [6,7,15]=false:=by unfold kIn;rw[hk];rfl
 have h5:pfn rE 168 [.isl false false 1 [I 6,I 10],.iptr true [I 10]]=some (.bool true):=Zc [6,10] false 10<|by decide
 have b5:kIn e [6,10]=true:=by unfold kIn;rw[hk];rfl
 have h6:pfn rE 168 [.isl false false 1 [I 8,I 9],.iptr true [I 10]]=some (.bool false):=Zc [8,9] false 10<|by decide
 have b6:kIn e [8,9]=false:=by unfold kIn;rw[hk];rfl
 have q0:((10:Int)==3)=false:=rfl;have q1:((10:Int)==10)=true:=rfl;have q2:((10:Int)==15)=false:=rfl;rw[Z5 (f:=96) rfl rfl];unfold Zq;simp only[go_sem,c96,hk,h0,h1,h2,h3,h4,h5,h6,b0,b1,b2,b3,b4,b5,b6,q0,q1,q2]
 try rfl
def Z2D(e:Gt)(hk:e.bq=11):pfn rE 96 [evA e]=some (evA<|Zq e):=by
 have h0:pfn rE 168 [.isl false false 1 [I 13,I 14],.iptr true [I 11]]=some (.bool false):=Zc [13,14] false 11<|by decide
 have b0:kIn e [13,14]=false:=by unfold kIn;rw[hk];rfl
 have h1:pfn rE 168 [.isl false false 1 [I 1],.iptr true [I 11]]=some (.bool false):=Zc [1] false 11<|by decide
 have b1:kIn e [1]=false:=by unfold kIn;rw[hk];rfl
 have h2:pfn rE 168 [.isl false false 1 [I 1,I 2,I 5],.iptr true [I 11]]=some (.bool false):=Zc [1,2,5] false 11<|by decide
 have b2:kIn e [1,2,5]=false:=by unfold kIn;rw[hk];rfl
 have h3:pfn rE 168 [.isl false false 1 [I 4,I 6,I 7],.iptr true [I 11]]=some (.bool false):=Zc [4,6,7] false 11<|by decide
 have b3:kIn e [4,6,7]=false:=by unfold kIn;rw[hk];rfl
 have h4:pfn rE 168 [.isl false false 1 [I 6,I 7,I 15],.iptr true [I 11]]=some (.bool false):=Zc [6,7,15] false 11<|by decide
 have b4:kIn e [6,7,15]=false:=by unfold kIn;rw[hk];rfl
 have h5:pfn rE 168 [.isl false false 1 [I 6,I 10],.iptr true [I 11]]=some (.bool false):=Zc [6,10] false 11<|by decide
 have b5:kIn e [6,10]=false:=by unfold kIn;rw[hk];rfl
 have h6:pfn rE 168 [.isl false false 1 [I 8,I 9],.iptr true [I 11]]=some (.bool false):=Zc [8,9] false 11<|by decide
 have b6:kIn e [8,9]=false:=by unfold kIn;rw[hk];rfl
 have q0:((11:Int)==3)=false:=rfl;have q1:((11:Int)==10)=false:=rfl;have q2:((11:Int)==15)=false:=rfl;rw[Z5 (f:=96) rfl rfl];unfold Zq;simp only[go_sem,c96,hk,h0,h1,h2,h3,h4,h5,h6,b0,b1,b2,b3,b4,b5,b6,q0,q1,q2]
 try rfl
def Z2E(e:Gt)(hk:e.bq=12):pfn rE 96 [evA e]=some (evA<|Zq e):=by
 have h0:pfn rE 168 [.isl false false 1 [I 13,I 14],.iptr true [I 12]]=some (.bool false):=Zc [13,14] false 12<|by decide
 have b0:kIn e [13,14]=false:=by unfold kIn;rw[hk];rfl
 have h1:pfn rE 168 [.isl false false 1 [I 1],.iptr true [I 12]]=some (.bool false):=Zc [1] false 12<|by decide
 have b1:kIn e [1]=false:=by unfold kIn;rw[hk];rfl
 have h2:pfn rE 168 [.isl false false 1 [I 1,I 2,I 5],.iptr true [I 12]]=some (.bool false):=Zc [1,2,5] false 12<|by decide
 have b2:kIn e [1,2,5]=false:=by unfold kIn;rw[hk];rfl
 have h3:pfn rE 168 [.isl false false 1 [I 4,I 6,I 7],.iptr true [I 12]]=some (.bool false):=Zc [4,6,7] false 12<|by decide
 have b3:kIn e [4,6,7]=false:=by unfold kIn;rw[hk];rfl
 have h4:pfn rE 168 [.isl false false 1 [I 6,I 7,I 15],.iptr true [I 12]]=some (.bool false):=Zc [6,7,15] false 12<|by decide
 have b4:kIn e [6,7,15]=false:=by unfold kIn;rw[hk];rfl
 have h5:pfn rE 168 [.isl false false 1 [I 6,I 10],.iptr true [I 12]]=some (.bool false):=Zc [6,10] false 12<|by decide
 have b5:kIn e [6,10]=false:=by unfold kIn;rw[hk];rfl
 have h6:pfn rE 168 [.isl false false 1 [I 8,I 9],.iptr true [I 12]]=some (.bool false):=Zc [8,9] false 12<|by decide
 have b6:kIn e [8,9]=false:=by unfold kIn;rw[hk];rfl
 have q0:((12:Int)==3)=false:=rfl;have q1:((12:Int)==10)=false:=rfl;have q2:((12:Int)==15)=false:=rfl;rw[Z5 (f:=96) rfl rfl];unfold Zq;simp only[go_sem,c96,hk,h0,h1,h2,h3,h4,h5,h6,b0,b1,b2,b3,b4,b5,b6,q0,q1,q2]
 try rfl
def Z2F(e:Gt)(hk:e.bq=13):pfn rE 96 [evA e]=some (evA<|Zq e):=by
 have h0:pfn rE 168 [.isl false false 1 [I 13,I 14],.iptr true [I 13]]=some (.bool true):=Zc [13,14] false 13<|by decide
 have b0:kIn e [13,14]=true:=by unfold kIn;rw[hk];rfl
 have h1:pfn rE 168 [.isl false false 1 [I 1],.iptr true [I 13]]=some (.bool false):=Zc [1] false 13<|by decide
 have b1:kIn e [1]=false:=by unfold kIn;rw[hk];rfl
 have h2:pfn rE 168 [.isl false false 1 [I 1,I 2,I 5],.iptr true [I 13]]=some (.bool false):=Zc [1,2,5] false 13<|by decide
 have b2:kIn e [1,2,5]=false:=by unfold kIn;rw[hk];rfl
 have h3:pfn rE 168 [.isl false false 1 [I 4,I 6,I 7],.iptr true [I 13]]=some (.bool false):=Zc [4,6,7] false 13<|by decide
 have b3:kIn e [4,6,7]=false:=by unfold kIn;rw[hk];rfl
 have h4:pfn rE 168 [.isl false false 1 [I 6,I 7,I 15],.iptr true [I 13]]=some (.bool false):=Zc [6,7,15] false 13<|by decide
 have b4:kIn e [6,7,15]=false:=by unfold kIn;rw[hk];rfl
 have h5:pfn rE 168 [.isl false false 1 [I 6,I 10],.iptr true [I 13]]=some (.bool false):=Zc [6,10] false 13<|by decide
 have b5:kIn e [6,10]=false:=by unfold kIn;rw[hk];rfl
 have h6:pfn rE 168 [.isl false false 1 [I 8,I 9],.iptr true [I 13]]=some (.bool false):=Zc [8,9] false 13<|by decide
 have b6:kIn e [8,9]=false:=by unfold kIn;rw[hk];rfl
 have q0:((13:Int)==3)=false:=rfl;have q1:((13:Int)==10)=false:=rfl;have q2:((13:Int)==15)=false:=rfl;rw[Z5 (f:=96) rfl rfl];unfold Zq;simp only[go_sem,c96,hk,h0,h1,h2,h3,h4,h5,h6,b0,b1,b2,b3,b4,b5,b6,q0,q1,q2]
 try rfl
def Z2G(e:Gt)(hk:e.bq=14):pfn rE 96 [evA e]=some (evA<|Zq e):=by
 have h0:pfn rE 168 [.isl false false 1 [I 13,I 14],.iptr true [I 14]]=some (.bool true):=Zc [13,14] false 14<|by decide
 have b0:kIn e [13,14]=true:=by unfold kIn;rw[hk];rfl
 have h1:pfn rE 168 [.isl false false 1 [I 1],.iptr true [I 14]]=some (.bool false):=Zc [1] false 14<|by decide
 have b1:kIn e [1]=false:=by unfold kIn;rw[hk];rfl
 have h2:pfn rE 168 [.isl false false 1 [I 1,I 2,I 5],.iptr true [I 14]]=some (.bool false):=Zc [1,2,5] false 14<|by decide
 have b2:kIn e [1,2,5]=false:=by unfold kIn;rw[hk];rfl
 have h3:pfn rE 168 [.isl false false 1 [I 4,I 6,I 7],.iptr true [I 14]]=some (.bool false):=Zc [4,6,7] false 14<|by decide
 have b3:kIn e [4,6,7]=false:=by unfold kIn;rw[hk];rfl
 have h4:pfn rE 168 [.isl false false 1 [I 6,I 7,I 15],.iptr true [I 14]]=some (.bool false):=Zc [6,7,15] false 14<|by decide
 have b4:kIn e [6,7,15]=false:=by unfold kIn;rw[hk];rfl
 have h5:pfn rE 168 [.isl false false 1 [I 6,I 10],.iptr true [I 14]]=some (.bool false):=Zc [6,10] false 14<|by decide
 have b5:kIn e [6,10]=false:=by unfold kIn;rw[hk];rfl
 have h6:pfn rE 168 [.isl false false 1 [I 8,I 9],.iptr true [I 14]]=some (.bool false):=Zc [8,9] false 14<|by decide
 have b6:kIn e [8,9]=false:=by unfold kIn;rw[hk];rfl
 have q0:((14:Int)==3)=false:=rfl;have q1:((14:Int)==10)=false:=rfl;have q2:((14:Int)==15)=false:=rfl;rw[Z5 (f:=96) rfl rfl];unfold Zq;simp only[go_sem,c96,hk,h0,h1,h2,h3,h4,h5,h6,b0,b1,b2,b3,b4,b5,b6,q0,q1,q2]
 try rfl
def Z2H(e:Gt)(hk:e.bq=15):pfn rE 96 [evA e]=some (evA<|Zq e):=by
 have h0:pfn rE 168 [.isl false false 1 [I 13,I 14],.iptr true [I 15]]=some (.bool false):=Zc [13,14] false 15<|by decide
 have b0:kIn e [13,14]=false:=by unfold kIn;rw[hk];rfl
 have h1:pfn rE 168 [.isl false false 1 [I 1],.iptr true [I 15]]=some (.bool false):=Zc [1] false 15<|by decide
 have b1:kIn e [1]=false:=by unfold kIn;rw[hk];rfl
 have h2:pfn rE 168 [.isl false false 1 [I 1,I 2,I 5],.iptr true [I 15]]=some (.bool false):=Zc [1,2,5] false 15<|by decide
 have b2:kIn e [1,2,5]=false:=by unfold kIn;rw[hk];rfl
 have h3:pfn rE 168 [.isl false false 1 [I 4,I 6,I 7],.iptr true [I 15]]=some (.bool false):=Zc [4,6,7] false 15<|by decide
 have b3:kIn e [4,6,7]=false:=by unfold kIn;rw[hk];rfl
 have h4:pfn rE 168 [.isl false false 1 [I 6,I 7,I 15],.iptr true [I 15]]=some (.bool true):=Zc [6,7,15] false 15<|by decide
 have b4:kIn e [6,7,15]=true:=by unfold kIn;rw[hk];rfl
 have h5:pfn rE 168 [.isl false false 1 [I 6,I 10],.iptr true [I 15]]=some (.bool false):=Zc [6,10] false 15<|by decide
 have b5:kIn e [6,10]=false:=by unfold kIn;rw[hk];rfl
 have h6:pfn rE 168 [.isl false false 1 [I 8,I 9],.iptr true [I 15]]=some (.bool false):=Zc [8,9] false 15<|by decide
 have b6:kIn e [8,9]=false:=by unfold kIn;rw[hk];rfl
 have q0:((15:Int)==3)=false:=rfl;have q1:((15:Int)==10)=false:=rfl;have q2:((15:Int)==15)=true:=rfl;rw[Z5 (f:=96) rfl rfl];unfold Zq;simp only[go_sem,c96,hk,h0,h1,h2,h3,h4,h5,h6,b0,b1,b2,b3,b4,b5,b6,q0,q1,q2]
 try rfl
def Z2I(e:Gt)(h:ZD e.bq 1 15=true):pfn rE 96 [evA e]=some (evA<|Zq e):=by
 have hk:1<=e.bq/\e.bq<=15:=by simpa[ZD]using h
 have:e.bq=1\/e.bq=2\/e.bq=3\/e.bq=4\/e.bq=5\/e.bq=6\/e.bq=7\/e.bq=8\/e.bq=9\/e.bq=10\/e.bq=11\/e.bq=12\/e.bq=13\/e.bq=14\/e.bq=15:=by omega
 rcases this with h|h|h|h|h|h|h|h|h|h|h|h|h|h|h
 .exact Z2t e h
 .exact Z2u e h
 .exact Z2v e h
 .exact Z2w e h
 .exact Z2x e h
 .exact Z2y e h
 .exact Z2z e h
 .exact Z2A e h
 .exact Z2B e h
 .exact Z2C e h
 .exact Z2D e h
 .exact Z2E e h
 .exact Z2F e h
 .exact Z2G e h
 .exact Z2H e h
def F9(e:Gt):(Zq e).Id.size<=e.Id.size:=by
 unfold Zq;dsimp only;cases kIn e [13,14]with
 |true=>exact ZX0 _
 |false=>exact ZXb _
def Jn:List AV:=[.nilfn,.clo (.func 173) [] [.iptr false [.clo (.func 169) [] []]],.clo (.func 175) [] [.iptr false [.clo (.func 169) [] []]],.clo (.func 177) [] [.iptr false [.clo (.func 169) [] []]],.clo (.func 179) [] [],.clo (.func 181) [] [.iptr false [.clo (.func 169) [] []]],.clo (.func 182) [] [],.clo (.func 185) [] [],.clo (.func 187) [] [.iptr false [.clo (.func 169) [] []]],.clo (.func 190) [] [],.clo (.func 191) [] [],.clo (.func 169) [] [],.clo (.func 169) [] [],.clo (.func 171) [] [],.clo (.func 171) [] [],.clo (.func 192) [] [.iptr false [.clo (.func 169) [] []]]]
def Z2J(bw:Bool)(h:Hp)(n:Nat):freeze bw h (n+1) .nilfn=some .nilfn:=(rfl)
def Z2K:clean .nilfn=true:=(rfl)
attribute [go_sem] Z2J Z2K
def Z2L(off n:Nat)(v:AV):stE off n v .nilfn=st1 off v.cells:=(rfl)
attribute [go_sem] Z2L
def Z2M(sz:Nat):fits sz .nilfn=(sz==1):=(rfl)
attribute [go_sem] Z2M
def Z2N:pfn rE 97 []=some (.agg Jn):=by
 rw[Z5 (f:=97) rfl rfl];unfold Jn;simp only[go_sem,c97]
def Q8(e:Gt):Bool:=
 bif e.bq==1 then ZZ e.Id&&(ZD e.A 1 3&&Vh e.Path.l)else
 bif e.bq==2 then ZZ e.Id&&Ul e.Path.l else
 bif e.bq==3 then ZZ e.Id&&Uz e.bk.l else
 bif e.bq==4 then Qv [e.Id,e.br]else
 bif e.bq==5 then ZZ e.Id&&Vh e.Path.l else
 bif e.bq==6 then Qv [e.Id,e.br,e.Text]&&(YO e.An&&gOn e.bg)else
 bif e.bq==7 then Qv [e.Id,e.br]&&Jm e.Text 24 else
 bif e.bq==8 then ZZ e.Id&&(ZD e.Lst.l.length 1 40&&(Xi e.Lst.l []&&Vk e.Lst.l true))else
 bif e.bq==9 then ZD e.Lst.l.length 2 8&&(Xi e.Lst.l [e.Id]&&Vk e.Lst.l false)else
 bif e.bq==10 then ZD e.Ids.l.length 2 8&&(Qv (e.Id::e.Ids.l)&&(YO e.An&&gOn e.bg))else
 bif e.bq==11 then ZZ e.Id else
 bif e.bq==12 then ZZ e.Id else
 bif e.bq==13 then K5 e.A e.B else
 bif e.bq==14 then K5 e.A e.B else
 ZZ e.Id&&(ZD e.bv 0 63&&Uu e.Text)
def NF(x:Gt):Str:=x.Id++x.br++x.Text
def Fb(x:Gt):Bool:=((((x.A != 0||x.B != 0)||x.bv != 0)||!Z3 (NF x) emp)||!QL x.An ⟨0,emp,0,0⟩)||!QK x.bg ⟨0,0⟩
def NG(x:Gt):Bool:=W (W (W ((x.Ids.l.length:Int)+(x.bk.l.length:Int))+(x.Path.l.length:Int))+(x.Lst.l.length:Int))==0
def Q9(e:Gt):Bool:=ZD e.bq 1 15&&(ZD e.Day 0 100000&&(!Fb (Zq e)&&(NG (Zq e)&&Q8 e)))
def Fc(e:Gt):(Zq e).br.size<=e.br.size:=by
 unfold Zq;dsimp only;cases kIn e [4,6,7]with
 |true=>exact ZXb _
 |false=>exact ZX0 _
def Z2O(e:Gt):(Zq e).Text.size<=e.Text.size:=by
 unfold Zq;dsimp only;cases kIn e [6,7,15]with
 |true=>exact ZXb _
 |false=>exact ZX0 _
def Yz(k:Nat)(v:AV)(h:(Jn[k]?)=some v)(hk:k<16):aiV none 1 16 (.agg Jn) (I k)=some v:=by
 rw[LQ];have hb:(0<=(k:Int)/\(k:Int)<((16:Nat):Int)):=by omega
 rw[if_pos hb];have:((k:Int)).toNat*1=k:=by simp
 rw[this];have hl:k<Jn.length:=hk;rw[ZY4 hl,N3];rw[ZX5 hl]at h;exact h
def Z2P(e:Gt)(hs:EvS e)(h:ZD e.bq 1 15=true):∃g cap,aiV none 1 16 (.agg Jn) (I e.bq)=some (.clo (.func g) [] cap)/\(cap=[]\/cap=[.iptr false [.clo (.func 169) [] []]])/\pfn rE g (evA e::cap)=some (.bool<|Q8 e):=by
 have hk:1<=e.bq/\e.bq<=15:=by simpa[ZD]using h
 have:e.bq=1\/e.bq=2\/e.bq=3\/e.bq=4\/e.bq=5\/e.bq=6\/e.bq=7\/e.bq=8\/e.bq=9\/e.bq=10\/e.bq=11\/e.bq=12\/e.bq=13\/e.bq=14\/e.bq=15:=by omega
 rcases this with hk|hk|hk|hk|hk|hk|hk|hk|hk|hk|hk|hk|hk|hk|hk
 .refine⟨173,[.iptr false [.clo (.func 169) [] []]],?_,Or.inr rfl,?_⟩
  .rw[hk];exact Yz 1 _ rfl (by decide)
  .have hn:Q8 e=(ZZ e.Id&&(ZD e.A 1 3&&Vh e.Path.l)):=by unfold Q8;rw[hk];rfl
   rw[hn];exact Z2i e hs
 .refine⟨175,[.iptr false [.clo (.func 169) [] []]],?_,Or.inr rfl,?_⟩
  .rw[hk];exact Yz 2 _ rfl (by decide)
  .have hn:Q8 e=(ZZ e.Id&&Ul e.Path.l):=by unfold Q8;rw[hk];rfl
   rw[hn];exact Z2j e hs
 .refine⟨177,[.iptr false [.clo (.func 169) [] []]],?_,Or.inr rfl,?_⟩
  .rw[hk];exact Yz 3 _ rfl (by decide)
  .have hn:Q8 e=(ZZ e.Id&&Uz e.bk.l):=by unfold Q8;rw[hk];rfl
   rw[hn];exact Z2k e hs
 .refine⟨179,[],?_,Or.inl rfl,?_⟩
  .rw[hk];exact Yz 4 _ rfl (by decide)
  .have hn:Q8 e=(Qv [e.Id,e.br]):=by unfold Q8;rw[hk];rfl
   rw[hn];exact Z2h e
 .refine⟨181,[.iptr false [.clo (.func 169) [] []]],?_,Or.inr rfl,?_⟩
  .rw[hk];exact Yz 5 _ rfl (by decide)
  .have hn:Q8 e=(ZZ e.Id&&Vh e.Path.l):=by unfold Q8;rw[hk];rfl
   rw[hn];exact Z2l e hs
 .refine⟨182,[],?_,Or.inl rfl,?_⟩
  .rw[hk];exact Yz 6 _ rfl (by decide)
  .have hn:Q8 e=(Qv [e.Id,e.br,e.Text]&&(YO e.An&&gOn e.bg)):=by unfold Q8;rw[hk];rfl
   rw[hn];exact Z2m e
 .refine⟨185,[],?_,Or.inl rfl,?_⟩
  .rw[hk];exact Yz 7 _ rfl (by decide)
  .have hn:Q8 e=(Qv [e.Id,e.br]&&Jm e.Text 24):=by unfold Q8;rw[hk];rfl
   rw[hn];exact Z2n e
 .refine⟨187,[.iptr false [.clo (.func 169) [] []]],?_,Or.inr rfl,?_⟩
  .rw[hk];exact Yz 8 _ rfl (by decide)
  .have hn:Q8 e=(ZZ e.Id&&(ZD e.Lst.l.length 1 40&&(Xi e.Lst.l []&&Vk e.Lst.l true))):=by unfold Q8;rw[hk];rfl
   rw[hn];exact Z2o e hs
 .refine⟨190,[],?_,Or.inl rfl,?_⟩
  .rw[hk];exact Yz 9 _ rfl (by decide)
  .have hn:Q8 e=(ZD e.Lst.l.length 2 8&&(Xi e.Lst.l [e.Id]&&Vk e.Lst.l false)):=by unfold Q8;rw[hk];rfl
   rw[hn];exact Z2p e hs
 .refine⟨191,[],?_,Or.inl rfl,?_⟩
  .rw[hk];exact Yz 10 _ rfl (by decide)
  .have hn:Q8 e=(ZD e.Ids.l.length 2 8&&(Qv (e.Id::e.Ids.l)&&(YO e.An&&gOn e.bg))):=by unfold Q8;rw[hk];rfl
   rw[hn];exact Z2r e hs
 .refine⟨169,[],?_,Or.inl rfl,?_⟩
  .rw[hk];exact Yz 11 _ rfl (by decide)
  .have hn:Q8 e=(ZZ e.Id):=by unfold Q8;rw[hk];rfl
   rw[hn];exact Vl e
 .refine⟨169,[],?_,Or.inl rfl,?_⟩
  .rw[hk];exact Yz 12 _ rfl (by decide)
  .have hn:Q8 e=(ZZ e.Id):=by unfold Q8;rw[hk];rfl
   rw[hn];exact Vl e
 .refine⟨171,[],?_,Or.inl rfl,?_⟩
  .rw[hk];exact Yz 13 _ rfl (by decide)
  .have hn:Q8 e=(K5 e.A e.B):=by unfold Q8;rw[hk];rfl
   rw[hn];exact F8 e
 .refine⟨171,[],?_,Or.inl rfl,?_⟩
  .rw[hk];exact Yz 14 _ rfl (by decide)
  .have hn:Q8 e=(K5 e.A e.B):=by unfold Q8;rw[hk];rfl
   rw[hn];exact F8 e
 .refine⟨192,[.iptr false [.clo (.func 169) [] []]],?_,Or.inr rfl,?_⟩
  .rw[hk];exact Yz 15 _ rfl (by decide)
  .have hn:Q8 e=(ZZ e.Id&&(ZD e.bv 0 63&&Uu e.Text)):=by unfold Q8;rw[hk];rfl
   rw[hn];exact Z2s e
def NH(e:Gt)(hs:EvS e):pfn rE 33 [evA e]=some (.bool<|Q9 e):=by
 rw[Z5 (f:=33) rfl rfl];unfold Q9;cases c1:ZD e.bq 1 15 with
 |false=>simp only[go_sem,c33,QU,c1]
 |true=>
 cases c2:ZD e.Day 0 100000 with
 |false=>simp only[go_sem,c33,QU,c1,c2]
 |true=>
 have hb:=Z2I e c1;obtain⟨g,cap,ha,hcap,hn⟩:=Z2P e hs c1;have hz1:(Zq e).Id.size+(Zq e).br.size<=4611686018427387904:=by have:=F9 e;have:=Fc e;have:=hs.id;have:=hs.other;omega
 have hz2:(Zq e).Id.size+(Zq e).br.size+(Zq e).Text.size<=4611686018427387904:=by
  have:=F9 e;have:=Fc e;have:=Z2O e;have:=hs.id;have:=hs.other;have:=hs.text;omega
 have e3:((Zq e).Id++(Zq e).br)++(Zq e).Text=NF (Zq e):=rfl;have hn4:((Zq e).An.N==0&&(Z3 (Zq e).An.bm emp&&((Zq e).An.Num==0&&(Zq e).An.Den==0)))=QL (Zq e).An ⟨0,emp,0,0⟩:=rfl;have hn5:((Zq e).bg.X==0&&(Zq e).bg.Y==0)=QK (Zq e).bg ⟨0,0⟩:=rfl;have hl6:(W (W (W (((Zq e).Ids.l.length:Int)+((Zq e).bk.l.length:Int))+((Zq e).Path.l.length:Int))+((Zq e).Lst.l.length:Int))==0)=NG (Zq e):=rfl;unfold Fb;generalize Zq e=x at hb hz1 hz2 e3 hn4 hn5 hl6⊢;cases a1:x.A != 0 with
 |true=>simp only[go_sem,c33,QU,c1,c2,hb,a1]
 |false=>
 cases a2:x.B != 0 with
 |true=>simp only[go_sem,c33,QU,c1,c2,hb,a1,a2,ZXa,ZWY]
 |false=>
 cases a3:x.bv != 0 with
 |true=>simp only[go_sem,c33,QU,c1,c2,hb,a1,a2,a3,ZXa,ZWY,ZXd]
 |false=>
 cases a4:Z3 (NF x) emp with
 |false=>simp only[go_sem,c33,QU,c1,c2,hb,a1,a2,a3,hz1,hz2,ByteArray.size_append,if_true,e3,a4,ZXa,ZWY,ZXd]
 |true=>
 cases a5:QL x.An ⟨0,emp,0,0⟩with
 |false=>simp only[go_sem,c33,QU,c1,c2,hb,a1,a2,a3,hz1,hz2,ByteArray.size_append,if_true,e3,a4,hn4,a5,ZXa,ZWY,ZXd]
 |true=>
 cases a6:QK x.bg ⟨0,0⟩with
 |false=>simp only[go_sem,c33,QU,c1,c2,hb,a1,a2,a3,hz1,hz2,ByteArray.size_append,if_true,e3,a4,hn4,a5,hn5,a6,ZXa,ZXd]
 |true=>
 cases a7:NG x with
 |false=>simp only[go_sem,c33,QU,c1,c2,hb,a1,a2,a3,hz1,hz2,ByteArray.size_append,if_true,e3,a4,hn4,a5,hn5,a6,hl6,a7,ZXd]
 |true=>
  rcases hcap with rfl|rfl<;>simp only[go_sem,c33,QU,c1,c2,hb,a1,a2,a3,hz1,hz2,ByteArray.size_append,if_true,e3,a4,hn4,a5,hn5,a6,hl6,a7,ZXd,Z2N,ha,hn]
structure Sta where
 Fa:List Gk
 Gm:List By
 Bt:List Ev
 Bc:List Ga
 Nk:List be
 Gc:List bf
 ba:List bf
abbrev stA(s:Sta):AV:=.agg [.isl false false 6<|s.Fa.map Gk.enc,.isl false false 5<|s.Gm.map By.enc,.isl false false 4<|s.Bt.map Ev.enc,.isl false false 16<|s.Bc.map Ga.enc,
 .isl false false 6 (s.Nk.map be.enc),.isl false false 2<|s.Gc.map bf.enc,.isl false false 2<|s.ba.map bf.enc]
structure StS(s:Sta):Prop where
 regions:s.Fa.length<=1000
 streets:s.Gm.length<=1000
 buildings:s.Bt.length<=1000
 doors:s.Bc.length<=1000
 units:s.Nk.length<=1000
 merged:s.Gc.length<=1000
 rulings:s.ba.length<=1000
def Qo(s:Sta)(id:Str):Int:=Zp (λx:Gk=>Z3 x.Id id) s.Fa 0
def ZL(s:Sta)(id:Str):Int:=Zp (λx:By=>Z3 x.Id id) s.Gm 0
def Y1(s:Sta)(id:Str):Int:=Zp (λx:Ev=>Z3 x.Id id) s.Bt 0
def Zn(s:Sta)(id:Str):Int:=Zp (λx:Ga=>Z3 x.Id id) s.Bc 0
def Wf(s:Sta)(id:Str):Int:=Zp (λx:be=>Z3 x.Id id) s.Nk 0
def NI(s:Sta)(hs:StS s)(id:Str):pfn rE 98 [stA s,.str id]=some (I<|Qo s id):=by
 have hp:∀x:Gk,pfn rE 195 [x.enc,.iptr false [.str id]]=some (.bool<|Z3 x.Id id):=λx=>by
  rw[Z5 (f:=195) rfl rfl];simp only[go_sem,c195,Gk.enc,NL.enc]
 have h1:=WF (E:=rE) (f:=248) (sz:=6) (n:=some 6) (enc:=Gk.enc) (p:=λx=>Z3 x.Id id) (g:=195) (cap:=[.iptr false [.str id]]) rfl rfl rfl s.Fa (by have:=hs.regions;omega) (λx _=>x.el) (λx _=>hp x) false false
 have h2:pfn rE 194 [.isl false false 6<|s.Fa.map Gk.enc,.clo (.func 195) [] [.iptr false [.str id]]]=some (I<|Qo s id):=by
  rw[Z5 (f:=194) rfl rfl];simp only[go_sem,c194,h1];rfl
 rw[Z5 (f:=98) rfl rfl];simp only[go_sem,c98,h2]
def K7(s:Sta)(hs:StS s)(id:Str):pfn rE 104 [stA s,.str id]=some (I<|ZL s id):=by
 have hp:∀x:By,pfn rE 199 [x.enc,.iptr false [.str id]]=some (.bool<|Z3 x.Id id):=λx=>by
  rw[Z5 (f:=199) rfl rfl];simp only[go_sem,c199,By.enc,NL.enc]
 have h1:=WF (E:=rE) (f:=250) (sz:=5) (n:=some 5) (enc:=By.enc) (p:=λx=>Z3 x.Id id) (g:=199) (cap:=[.iptr false [.str id]]) rfl rfl rfl s.Gm (by have:=hs.streets;omega) (λx _=>x.el) (λx _=>hp x) false false
 have h2:pfn rE 198 [.isl false false 5<|s.Gm.map By.enc,.clo (.func 199) [] [.iptr false [.str id]]]=some (I<|ZL s id):=by
  rw[Z5 (f:=198) rfl rfl];simp only[go_sem,c198,h1];rfl
 rw[Z5 (f:=104) rfl rfl];simp only[go_sem,c104,h2]
def Hb(s:Sta)(hs:StS s)(id:Str):pfn rE 111 [stA s,.str id]=some (I<|Y1 s id):=by
 have hp:∀x:Ev,pfn rE 202 [x.enc,.iptr false [.str id]]=some (.bool<|Z3 x.Id id):=λx=>by
  rw[Z5 (f:=202) rfl rfl];simp only[go_sem,c202,Ev.enc,NL.enc]
 have h1:=WF (E:=rE) (f:=251) (sz:=4) (n:=some 4) (enc:=Ev.enc) (p:=λx=>Z3 x.Id id) (g:=202) (cap:=[.iptr false [.str id]]) rfl rfl rfl s.Bt (by have:=hs.buildings;omega) (λx _=>x.el) (λx _=>hp x) false false
 have h2:pfn rE 201 [.isl false false 4<|s.Bt.map Ev.enc,.clo (.func 202) [] [.iptr false [.str id]]]=some (I<|Y1 s id):=by
  rw[Z5 (f:=201) rfl rfl];simp only[go_sem,c201,h1];rfl
 rw[Z5 (f:=111) rfl rfl];simp only[go_sem,c111,h2]
def find_ok(s:Sta)(hs:StS s)(id:Str):pfn rE 12 [stA s,.str id]=some (I<|Zn s id):=by
 have hp:∀x:Ga,pfn rE 73 [x.enc,.iptr false [.str id]]=some (.bool<|Z3 x.Id id):=λx=>by
  rw[Z5 (f:=73) rfl rfl];simp only[go_sem,c73,Ga.enc,NL.enc]
 have h1:=WF (E:=rE) (f:=160) (sz:=16) (n:=some 16) (enc:=Ga.enc) (p:=λx=>Z3 x.Id id) (g:=73) (cap:=[.iptr false [.str id]]) rfl rfl rfl s.Bc (by have:=hs.doors;omega) (λx _=>x.el) (λx _=>hp x) false false
 have h2:pfn rE 72 [.isl false false 16<|s.Bc.map Ga.enc,.clo (.func 73) [] [.iptr false [.str id]]]=some (I<|Zn s id):=by
  rw[Z5 (f:=72) rfl rfl];simp only[go_sem,c72,h1];rfl
 rw[Z5 (f:=12) rfl rfl];simp only[go_sem,c12,h2]
def Z2Q(s:Sta)(hs:StS s)(id:Str):pfn rE 127 [stA s,.str id]=some (I<|Wf s id):=by
 have hp:∀x:be,pfn rE 211 [x.enc,.iptr false [.str id]]=some (.bool<|Z3 x.Id id):=λx=>by
  rw[Z5 (f:=211) rfl rfl];simp only[go_sem,c211,be.enc]
 have h1:=WF (E:=rE) (f:=88) (sz:=6) (n:=some 6) (enc:=be.enc) (p:=λx=>Z3 x.Id id) (g:=211) (cap:=[.iptr false [.str id]]) rfl rfl rfl s.Nk (by have:=hs.units;omega) (λx _=>x.el) (λx _=>hp x) false false
 have h2:pfn rE 210 [.isl false false 6<|s.Nk.map be.enc,.clo (.func 211) [] [.iptr false [.str id]]]=some (I<|Wf s id):=by
  rw[Z5 (f:=210) rfl rfl];simp only[go_sem,c210,h1];rfl
 rw[Z5 (f:=127) rfl rfl];simp only[go_sem,c127,h2]
def XJ(s:Sta)(a:Int):Int:=match s.Gc.find? (λp=>p.b==a)with
 |some p=>p.a
 |none=>-1
def UA{α:Type}(P:α->Bool):∀(l:List α)(i:Int),(Zp P l i=-1/\l.find? P=none)\/∃(j:Nat)(x:α),Zp P l i=i+j/\l[j]?=some x/\l.find? P=some x
 |[],i=>Or.inl ⟨rfl,rfl⟩
 |y::r,i=>by
  cases h:P y with
  |true=>right;exact⟨0,y,by simp[Zp,h],by simp,by simp[h]⟩
  |false=>
   rcases UA P r (i+1)with⟨h1,h2⟩|⟨j,x,h1,h2,h3⟩
   .left;exact⟨by simp[Zp,h,h1],by simp[h,h2]⟩
   .right;refine⟨j+1,x,?_,by simpa using h2,by simp[h,h3]⟩
    simp only[Zp,h,cond_false,h1];omega
def NJ(s:Sta)(hs:StS s)(a:Int):pfn rE 130 [stA s,I a]=some (I<|XJ s a):=by
 have hp:∀x:bf,pfn rE 214 [x.enc,.iptr false [I a]]=some (.bool<|x.b==a):=λx=>by
  have hlt:(0<=(1:Int)/\(1:Int)<((2:Nat):Int))=True:=by simp
  have hn:((1:Int)).toNat=1:=rfl;rw[Z5 (f:=214) rfl rfl];simp only[go_sem,c214,bf.enc,hlt,hn,if_true,ZXA]
 have h1:=WF (E:=rE) (f:=252) (sz:=2) (n:=some 2) (enc:=bf.enc) (p:=λx=>x.b==a) (g:=214) (cap:=[.iptr false [I a]]) rfl rfl rfl s.Gc (by have:=hs.merged;omega) (λx _=>x.el) (λx _=>hp x) false false
 have h2:pfn rE 213 [.isl false false 2<|s.Gc.map bf.enc,.clo (.func 214) [] [.iptr false [I a]]]=some (I<|Zp (λx:bf=>x.b==a) s.Gc 0):=by
  rw[Z5 (f:=213) rfl rfl];simp only[go_sem,c213,h1]
 rw[Z5 (f:=130) rfl rfl];unfold XJ;rcases UA (λx:bf=>x.b==a) s.Gc 0 with⟨h3,h4⟩|⟨j,x,h3,h4,h5⟩
 .rw[h4];rw[h3]at h2;have hd:decide ((-1:Int)>=0)=false:=rfl;simp only[go_sem,c130,h2,hd]
 .rw[h5];have e:(0:Int)+(j:Int)=(j:Int):=by omega
  rw[h3,e]at h2;have hd:decide ((j:Int)>=0)=true:=decide_eq_true<|by omega
  have hg:=Z6 (f:=bf.enc) h4;have hlt:(0<=(0:Int)/\(0:Int)<((2:Nat):Int))=True:=by simp
  have hn:((0:Int)).toNat=0:=rfl;simp only[go_sem,c130,h2,hd,hg,bf.enc,hlt,hn,if_true,ZYk]
def Qp(s:Sta):List Str:=s.Fa.map (·.Id)++(s.Gm.map (·.Id)++(s.Bt.map (·.Id)++(s.Bc.map (·.Id)++s.Nk.map (·.Id))))
def Z2R(v:AV)(hv:∀n,bel n v=true)(K:List Str)(l:List Gk)(hl:l.length<=1000)(hK:K.length<=10000):∃fr',Zg rE [1,3,15,16,17] c49L0b [(1,v),(3,.sl 0 K.length 0 K.length false),(15,.isl false false 6<|l.map Gk.enc),(16,I l.length),(17,.int .i64 0)] [.row 1<|K.map encS] =
 some (.exit 0,fr',[.row 1 ((K++l.map (·.Id)).map encS)])/\get fr' 1=v/\get fr' 3=.sl 0 (K.length+l.length) 0 (K.length+l.length) false:=by
 have hbS:∀n(K:List Str),Zd n (K.map encS)=true:=λn K=>ZN _<|Zw (λt=>rfl) K
 have L:=Y8 (E:=rE) (live:=[1,3,15,16,17]) (b:=c49L0b) l.length (λi=>[(1,v),(3,.sl 0 (K.length+i) 0 (K.length+i) false),(15,.isl false false 6<|l.map Gk.enc),(16,I l.length),(17,I i)])
  (λi=>[.row 1 ((K++(l.take i).map (·.Id)).map encS)]) (λi=>rfl)
  (λi hi=>by
   obtain⟨x,hx⟩:∃x,l[i]?=some x:=⟨_,ZX5 hi⟩;have hg:=Z6 (f:=Gk.enc) hx;have hi':=Zh hi;have hw:=Zx (n:=i)<|by omega
   have ht:=YW (λx:Gk=>x.Id) hx
   have hn:(K++(l.take i).map (·.Id)).length=K.length+i:=by rw[ZX7,ZWQ,take_len hx]
   have e1:(K++(l.take<|i+1).map (·.Id)).map encS=(K++(l.take i).map (·.Id)).map encS++[.str x.Id]:=by
    rw[ht,<-ZXx,ZX4];rfl
   rw[e1];generalize K++(l.take i).map (·.Id)=KS at hn⊢;rw[<-hn,<-ZXM,<-hn];have ha:=λq=>XC (h:=[.row 1<|KS.map encS,q]) (fz:=false) (b:=0) (g:=KS.length) (sz:=1) (es:=KS.map encS) (bw:=false) (ex:=false) (ys:=[.str x.Id]) (bytes:=16) (by simp[rowAt]) rfl (by rfl) (by omega) (by omega) (by simp;omega)
   refine⟨_,by simp only[go_sem,c49L0b,hg,hi',hw,Gk.enc,NL.enc,ha,beq_self_eq_true,hbS,hv];rfl,?_⟩
   simp only[go_sem])
  (e:=.exit 0) (by simp only[go_sem,c49L0b,ZG,ZXu];rfl) (by simp)
 have e0:K++(l.take 0).map (λx:Gk=>x.Id)=K:=by simp
 rw[e0]at L;refine⟨_,L,?_,?_⟩<;>simp only[go_sem]
def Z2S(v:AV)(hv:∀n,bel n v=true)(K:List Str)(l:List By)(hl:l.length<=1000)(hK:K.length<=10000):∃fr',Zg rE [1,3,28,29,30] c49L1b [(1,v),(3,.sl 0 K.length 0 K.length false),(28,.isl false false 5<|l.map By.enc),(29,I l.length),(30,.int .i64 0)] [.row 1<|K.map encS] =
 some (.exit 2,fr',[.row 1 ((K++l.map (·.Id)).map encS)])/\get fr' 1=v/\get fr' 3=.sl 0 (K.length+l.length) 0 (K.length+l.length) false:=by
 have hbS:∀n(K:List Str),Zd n (K.map encS)=true:=λn K=>ZN _<|Zw (λt=>rfl) K
 have L:=Y8 (E:=rE) (live:=[1,3,28,29,30]) (b:=c49L1b) l.length (λi=>[(1,v),(3,.sl 0 (K.length+i) 0 (K.length+i) false),(28,.isl false false 5<|l.map By.enc),(29,I l.length),(30,I i)])
  (λi=>[.row 1 ((K++(l.take i).map (·.Id)).map encS)]) (λi=>rfl)
  (λi hi=>by
   obtain⟨x,hx⟩:∃x,l[i]?=some x:=⟨_,ZX5 hi⟩;have hg:=Z6 (f:=By.enc) hx;have hi':=Zh hi;have hw:=Zx (n:=i)<|by omega
   have ht:=YW (λx:By=>x.Id) hx
   have hn:(K++(l.take i).map (·.Id)).length=K.length+i:=by rw[ZX7,ZWQ,take_len hx]
   have e1:(K++(l.take<|i+1).map (·.Id)).map encS=(K++(l.take i).map (·.Id)).map encS++[.str x.Id]:=by
    rw[ht,<-ZXx,ZX4];rfl
   rw[e1];generalize K++(l.take i).map (·.Id)=KS at hn⊢;rw[<-hn,<-ZXM,<-hn];have ha:=λq=>XC (h:=[.row 1<|KS.map encS,q]) (fz:=false) (b:=0) (g:=KS.length) (sz:=1) (es:=KS.map encS) (bw:=false) (ex:=false) (ys:=[.str x.Id]) (bytes:=16) (by simp[rowAt]) rfl (by rfl) (by omega) (by omega) (by simp;omega)
   refine⟨_,by simp only[go_sem,c49L1b,hg,hi',hw,By.enc,NL.enc,ha,beq_self_eq_true,hbS,hv];rfl,?_⟩
   simp only[go_sem])
  (e:=.exit 2) (by simp only[go_sem,c49L1b,ZG,ZXu];rfl) (by simp)
 have e0:K++(l.take 0).map (λx:By=>x.Id)=K:=by simp
 rw[e0]at L;refine⟨_,L,?_,?_⟩<;>simp only[go_sem]
def Z2T(v:AV)(hv:∀n,bel n v=true)(K:List Str)(l:List Ev)(hl:l.length<=1000)(hK:K.length<=10000):∃fr',Zg rE [1,3,41,42,43] c49L2b [(1,v),(3,.sl 0 K.length 0 K.length false),(41,.isl false false 4<|l.map Ev.enc),(42,I l.length),(43,.int .i64 0)] [.row 1<|K.map encS] =
 some (.exit 4,fr',[.row 1 ((K++l.map (·.Id)).map encS)])/\get fr' 1=v/\get fr' 3=.sl 0 (K.length+l.length) 0 (K.length+l.length) false:=by
 have hbS:∀n(K:List Str),Zd n (K.map encS)=true:=λn K=>ZN _<|Zw (λt=>rfl) K
 have L:=Y8 (E:=rE) (live:=[1,3,41,42,43]) (b:=c49L2b) l.length (λi=>[(1,v),(3,.sl 0 (K.length+i) 0 (K.length+i) false),(41,.isl false false 4<|l.map Ev.enc),(42,I l.length),(43,I i)])
  (λi=>[.row 1 ((K++(l.take i).map (·.Id)).map encS)]) (λi=>rfl)
  (λi hi=>by
   obtain⟨x,hx⟩:∃x,l[i]?=some x:=⟨_,ZX5 hi⟩;have hg:=Z6 (f:=Ev.enc) hx;have hi':=Zh hi;have hw:=Zx (n:=i)<|by omega
   have ht:=YW (λx:Ev=>x.Id) hx
   have hn:(K++(l.take i).map (·.Id)).length=K.length+i:=by rw[ZX7,ZWQ,take_len hx]
   have e1:(K++(l.take<|i+1).map (·.Id)).map encS=(K++(l.take i).map (·.Id)).map encS++[.str x.Id]:=by
    rw[ht,<-ZXx,ZX4];rfl
   rw[e1];generalize K++(l.take i).map (·.Id)=KS at hn⊢;rw[<-hn,<-ZXM,<-hn];have ha:=λq=>XC (h:=[.row 1<|KS.map encS,q]) (fz:=false) (b:=0) (g:=KS.length) (sz:=1) (es:=KS.map encS) (bw:=false) (ex:=false) (ys:=[.str x.Id]) (bytes:=16) (by simp[rowAt]) rfl (by rfl) (by omega) (by omega) (by simp;omega)
   refine⟨_,by simp only[go_sem,c49L2b,hg,hi',hw,Ev.enc,NL.enc,ha,beq_self_eq_true,hbS,hv];rfl,?_⟩
   simp only[go_sem])
  (e:=.exit 4) (by simp only[go_sem,c49L2b,ZG,ZXu];rfl) (by simp)
 have e0:K++(l.take 0).map (λx:Ev=>x.Id)=K:=by simp
 rw[e0]at L;refine⟨_,L,?_,?_⟩<;>simp only[go_sem]
def Z2U(v:AV)(hv:∀n,bel n v=true)(K:List Str)(l:List Ga)(hl:l.length<=1000)(hK:K.length<=10000):∃fr',Zg rE [1,3,54,55,56] c49L3b [(1,v),(3,.sl 0 K.length 0 K.length false),(54,.isl false false 16<|l.map Ga.enc),(55,I l.length),(56,.int .i64 0)] [.row 1<|K.map encS] =
 some (.exit 6,fr',[.row 1 ((K++l.map (·.Id)).map encS)])/\get fr' 1=v/\get fr' 3=.sl 0 (K.length+l.length) 0 (K.length+l.length) false:=by
 have hbS:∀n(K:List Str),Zd n (K.map encS)=true:=λn K=>ZN _<|Zw (λt=>rfl) K
 have L:=Y8 (E:=rE) (live:=[1,3,54,55,56]) (b:=c49L3b) l.length (λi=>[(1,v),(3,.sl 0 (K.length+i) 0 (K.length+i) false),(54,.isl false false 16<|l.map Ga.enc),(55,I l.length),(56,I i)])
  (λi=>[.row 1 ((K++(l.take i).map (·.Id)).map encS)]) (λi=>rfl)
  (λi hi=>by
   obtain⟨x,hx⟩:∃x,l[i]?=some x:=⟨_,ZX5 hi⟩;have hg:=Z6 (f:=Ga.enc) hx;have hi':=Zh hi;have hw:=Zx (n:=i)<|by omega
   have ht:=YW (λx:Ga=>x.Id) hx
   have hn:(K++(l.take i).map (·.Id)).length=K.length+i:=by rw[ZX7,ZWQ,take_len hx]
   have e1:(K++(l.take<|i+1).map (·.Id)).map encS=(K++(l.take i).map (·.Id)).map encS++[.str x.Id]:=by
    rw[ht,<-ZXx,ZX4];rfl
   rw[e1];generalize K++(l.take i).map (·.Id)=KS at hn⊢;rw[<-hn,<-ZXM,<-hn];have ha:=λq=>XC (h:=[.row 1<|KS.map encS,q]) (fz:=false) (b:=0) (g:=KS.length) (sz:=1) (es:=KS.map encS) (bw:=false) (ex:=false) (ys:=[.str x.Id]) (bytes:=16) (by simp[rowAt]) rfl (by rfl) (by omega) (by omega) (by simp;omega)
   refine⟨_,by simp only[go_sem,c49L3b,hg,hi',hw,Ga.enc,NL.enc,ha,beq_self_eq_true,hbS,hv];rfl,?_⟩
   simp only[go_sem])
  (e:=.exit 6) (by simp only[go_sem,c49L3b,ZG,ZXu];rfl) (by simp)
 have e0:K++(l.take 0).map (λx:Ga=>x.Id)=K:=by simp
 rw[e0]at L;refine⟨_,L,?_,?_⟩<;>simp only[go_sem]
def Z2V(v:AV)(hv:∀n,bel n v=true)(K:List Str)(l:List be)(hl:l.length<=1000)(hK:K.length<=10000):∃fr',Zg rE [3,67,68,69] c49L4b [(3,.sl 0 K.length 0 K.length false),(67,.isl false false 6<|l.map be.enc),(68,I l.length),(69,.int .i64 0)] [.row 1<|K.map encS] =
 some (.exit 8,fr',[.row 1 ((K++l.map (·.Id)).map encS)])/\get fr' 3=.sl 0 (K.length+l.length) 0 (K.length+l.length) false:=by
 have hbS:∀n(K:List Str),Zd n (K.map encS)=true:=λn K=>ZN _<|Zw (λt=>rfl) K
 have L:=Y8 (E:=rE) (live:=[3,67,68,69]) (b:=c49L4b) l.length (λi=>[(3,.sl 0 (K.length+i) 0 (K.length+i) false),(67,.isl false false 6<|l.map be.enc),(68,I l.length),(69,I i)])
  (λi=>[.row 1 ((K++(l.take i).map (·.Id)).map encS)]) (λi=>rfl)
  (λi hi=>by
   obtain⟨x,hx⟩:∃x,l[i]?=some x:=⟨_,ZX5 hi⟩;have hg:=Z6 (f:=be.enc) hx;have hi':=Zh hi;have hw:=Zx (n:=i)<|by omega
   have ht:=YW (λx:be=>x.Id) hx
   have hn:(K++(l.take i).map (·.Id)).length=K.length+i:=by rw[ZX7,ZWQ,take_len hx]
   have e1:(K++(l.take<|i+1).map (·.Id)).map encS=(K++(l.take i).map (·.Id)).map encS++[.str x.Id]:=by
    rw[ht,<-ZXx,ZX4];rfl
   rw[e1];generalize K++(l.take i).map (·.Id)=KS at hn⊢;rw[<-hn,<-ZXM,<-hn];have ha:=λq=>XC (h:=[.row 1<|KS.map encS,q]) (fz:=false) (b:=0) (g:=KS.length) (sz:=1) (es:=KS.map encS) (bw:=false) (ex:=false) (ys:=[.str x.Id]) (bytes:=16) (by simp[rowAt]) rfl (by rfl) (by omega) (by omega) (by simp;omega)
   refine⟨_,by simp only[go_sem,c49L4b,hg,hi',hw,be.enc,ha,beq_self_eq_true,hbS];rfl,?_⟩
   simp only[go_sem])
  (e:=.exit 8) (by simp only[go_sem,c49L4b,ZG,ZXu];rfl) (by simp)
 have e0:K++(l.take 0).map (λx:be=>x.Id)=K:=by simp
 rw[e0]at L;refine⟨_,L,?_⟩<;>simp only[go_sem]
def Fd(s:Sta)(hs:StS s):pfn rE 49 [stA s]=some (.isl false false 1<|(Qp s).map encS):=by
 have hcS:∀K:List Str,Z4 (K.map encS)=true:=λK=>Zw (λt=>rfl) K
 have hbS:∀n(K:List Str),Zd n (K.map encS)=true:=λn K=>ZN _<|hcS K
 have z:=hs.regions;have z1:=hs.streets;have z2:=hs.buildings;have z3:=hs.doors;have z4:=hs.units;have hbs:∀n,bel n (.iptr false [.isl false false 6<|s.Fa.map Gk.enc,.isl false false 5<|s.Gm.map By.enc,.isl false false 4<|s.Bt.map Ev.enc,.isl false false 16<|s.Bc.map Ga.enc,.isl false false 6<|s.Nk.map be.enc,.isl false false 2<|s.Gc.map bf.enc,.isl false false 2<|s.ba.map bf.enc])=true:=λn=>rfl
 obtain⟨f0,h0,a0,b0⟩:=Z2R _ hbs [] s.Fa z<|by simp
 obtain⟨f1,h1,a1,b1⟩:=Z2S _ hbs (s.Fa.map (·.Id)) s.Gm z1<|by simp;omega
 obtain⟨f2,h2,a2,b2⟩:=Z2T _ hbs (s.Fa.map (·.Id)++s.Gm.map (·.Id)) s.Bt z2<|by simp;omega
 obtain⟨f3,h3,a3,b3⟩:=Z2U _ hbs ((s.Fa.map (·.Id)++s.Gm.map (·.Id))++s.Bt.map (·.Id)) s.Bc z3<|by simp;omega
 obtain⟨f4,h4,b4⟩:=Z2V .bot (λn=>rfl) (((s.Fa.map (·.Id)++s.Gm.map (·.Id))++s.Bt.map (·.Id))++s.Bc.map (·.Id)) s.Nk z4<|by simp;omega
 have e:((((s.Fa.map (·.Id)++s.Gm.map (·.Id))++s.Bt.map (·.Id))++s.Bc.map (·.Id))++s.Nk.map (·.Id))=Qp s:=by simp[Qp,ZXx]
 rw[e]at h4;have hz:∀K:List Str,List.take K.length (K.map encS)=K.map encS:=λK=>ZXp<|by simp
 have l5:(((s.Fa.map (·.Id)++s.Gm.map (·.Id))++s.Bt.map (·.Id))++s.Bc.map (·.Id)).length+s.Nk.length=(Qp s).length:=by rw[<-e];simp;omega
 rw[l5]at b4;rw[Z5 (f:=49) rfl rfl];simp only[ZWQ,ZX7,ZXm,ZXt,ZXf,ZX1]at h0 b0 h1 b1 h2 b2 h3 b3 h4 b4;simp only[go_sem,c49,c49L0,c49L1,c49L2,c49L3,c49L4,h0,a0,b0,h1,a1,b1,h2,a2,b2,h3,a3,b3,h4,b4,hbS,hcS,beq_self_eq_true,hz]
def QM(a b c:Int):Bool:=ZD a 0 63&&(ZD b (-1) 100000&&ZD c 0 100000)
def Qc(a b c:Int):pfn rE 32 [I a,I b,I c]=some (.bool<|QM a b c):=by
 rw[Z5 (f:=32) rfl rfl];unfold QM;cases h1:ZD a 0 63<;>cases h2:ZD b (-1) 100000<;>simp only[go_sem,c32,DY,h1,h2]
def Wg(k:Int)(e:Gt)(hs:EvS e):pfn rE 57 [I k,evA e]=some (.bool<|Q9 {e with bq:=k}):=by
 have h:=NH {e with bq:=k} ⟨hs.ids,hs.names,hs.path,hs.lst,hs.id,hs.other,hs.text⟩
 rw[Z5 (f:=57) rfl rfl];simp only[go_sem,c57,h]
def Jo(l:List Nm)(ex:Bool):Gt:=⟨3,0,0,0,0,B [120],emp,emp,⟨false,[]⟩,⟨ex,l⟩,⟨0,emp,0,0⟩,⟨0,0⟩,⟨false,[]⟩,⟨false,[]⟩⟩
def Jp(l:List Nm)(ex:Bool):Bool:=(l.length:Int)==0||Q9 (Jo l ex)
def Hc(l:List Nm)(ex:Bool)(hl:l.length<=100):pfn rE 56 [.isl false ex 3<|l.map Nm.enc]=some (.bool<|Jp l ex):=by
 have h:=NH (Jo l ex) ⟨by simp[Jo],hl,by simp[Jo],by simp[Jo],ZXs rfl,ZXs rfl,ZXs rfl⟩
 have h':pfn rE 33 [.agg [I 3,I 0,I 0,I 0,I 0,.str<|B [120],.str emp,.str emp,.isl false false 1 [],.isl false ex 3<|l.map Nm.enc,I 0,.str emp,I 0,I 0,I 0,I 0,.isl false false 2 [],.isl false false 7 []]]=some (.bool<|Q9<|Jo l ex):=h;rw[Z5 (f:=56) rfl rfl];unfold Jp;cases c:(l.length:Int)==0<;>simp only[go_sem,c56,c,h']
def Jq(l:List Str):Bool:=(((Ys<|Yk<|l.map encS).length:Nat):Int)==(l.length:Int)
def Fe(x:AV):∀l,(Vb x l).length=l.length+1
 |[]=>rfl
 |y::r=>by unfold Vb;cases GP x y<;>simp[Fe x r]
def Ff:∀l,(Yk l).length=l.length
 |[]=>rfl
 |x::r=>by unfold Yk;rw[Fe,Ff r,ZXr]
def Fg(p:AV->Bool)(x:AV):∀l,(Vb x l).all p=(p x&&l.all p)
 |[]=>rfl
 |y::r=>by
  unfold Vb;cases GP x y with
  |true=>rfl
  |false=>
   rw[cond_false,ZXz,Fg p x r,ZXz];cases p x<;>cases p y<;>rfl
def Fh(p:AV->Bool):∀l,(Yk l).all p=l.all p
 |[]=>rfl
 |x::r=>by unfold Yk;rw[Fg,Fh p r,ZXz]
def Fi:∀m:List AV,(Ys m).length<=m.length
 |[]=>by simp[Ys]
 |a::r=>by
  have ih:=Fi r;unfold Ys;cases h:Ys r with
  |nil=>simp
  |cons b t=>rw[h]at ih;simp at ih⊢;cases sameKey a b<;>simp<;>omega
def Fj(l:List Str)(ex:Bool)(hlen:l.length<=1000000):pfn rE 59 [.isl false ex 1<|l.map encS]=some (.bool<|Jq l):=by
 have hble:Nat.ble l.length 1000000=true:=ZYo hlen;have hfit:(l.map encS).all (fits 1)=true:=by rw[ZYN,ZXl];intro x _;rfl
 have hstr:(l.map encS).all WB=true:=by rw[ZYN,ZXl];intro x _;rfl
 have h1:fnV rE 156 [.isl false ex 1<|l.map encS] []=some (.sl 0 l.length 0 l.length false,[.row 1<|l.map encS]):=by
  rw[V8 (s:=J9) rfl];simp only[J9,Q2,Qq,hfit,ZWQ,hble,beq_self_eq_true,ZWY,ZWW,cond_true,ZXm,ZXt]
 have h2:fnV rE 157 [.sl 0 l.length 0 l.length false] [.row 1<|l.map encS]=some (.tup [],[.row 1<|Yk<|l.map encS]):=by
  rw[V8 (s:=J7) rfl];simp only[J7,ZXy,ZWQ,beq_self_eq_true,hstr,hble,ZWW,cond_true,GM]
 have h3:∃h',fnV rE 158 [.sl 0 l.length 0 l.length false] [.row 1<|Yk<|l.map encS]=some (.sl 0 l.length 0 (Ys<|Yk<|l.map encS).length false,[.row 1 h'])/\h'.length=l.length:=by
  rw[V8 (s:=J8) rfl];have hl:(Yk<|l.map encS).length=l.length:=by rw[Ff,ZWQ]
  have ha:(Yk<|l.map encS).all WB=true:=by rw[Fh,hstr]
  have hc:=Fi<|Yk<|l.map encS;simp only[J8,ZXy,hl,beq_self_eq_true,ha,hble,ZWW,cond_true,GM];refine⟨_,rfl,?_⟩;simp;omega
 obtain⟨h',h3,h4⟩:=h3;rw[Z5 (f:=59) rfl rfl];unfold Jq;simp only[go_sem,c59,h1,h2,h3,h4,beq_self_eq_true]
structure Adr where
 street:Str
 n:HN
def Adr.enc(a:Adr):AV:=.agg [.str a.street,I a.n.N,.str a.n.bm,I a.n.Num,I a.n.Den]
def XK(a b:Adr):Bool:=Z3 a.street b.street&&(a.n.N==b.n.N&&(Z3 a.n.bm b.n.bm&&(a.n.Num==b.n.Num&&a.n.Den==b.n.Den)))
def NK(x y:Adr):Zz true [2,1,2,1,1] x.enc y.enc=some (XK x y):=by simp only[go_sem,Adr.enc,XK]
def WI(d:Ga):Adr:=⟨d.By,d.An⟩
def Jr(d:Ga):Bool:=d.Ld != -1||!Z3 d.Veil emp
def Hd(K:List Adr)(d:Ga):List Adr:=bif Jr d then K else Qi XK K<|WI d
def Y9(l:List Ga)(i:Nat):List Adr:=(l.take i).foldl Hd []
def Wh(l:List Ga):Bool:=Zu (λi d=>Jr d||!(Y9 l i).any (XK<|WI d)) 0 l
def Fk(s:Sta)(hs:StS s):pfn rE 50 [stA s]=some (.bool<|Wh s.Bc):=by
 have hcl:Z4 (s.Bc.map Ga.enc)=true:=Zw (λt=>rfl) _
 have hbA:∀n(K:List Adr),Zd n (K.map Adr.enc)=true:=λn K=>ZN _<|Zw (λt=>rfl) K
 have hbT:∀n k,Zd n (ZO k)=true:=λn k=>ZN _<|Ut k
 have L:=Jk (E:=rE) (live:=[3,9,10,11]) (b:=c50L0b) s.Bc (λi d=>Jr d||!(Y9 s.Bc i).any (XK<|WI d))
  (λi=>[(3,.mp 0),(9,.isl false false 16<|s.Bc.map Ga.enc),(10,I s.Bc.length),(11,I i)])
  (λi=>[.map ((Y9 s.Bc i).map Adr.enc)<|ZO (Y9 s.Bc i).length]) 0 (λfr h=>get fr 2=.bot) (λfr h=>get fr 2=.bool false) (λi=>rfl)
  (λi x hx hP=>by
   have hg:=Z6 (f:=Ga.enc) hx;have hi:=Zh<|Z7 hx;have hw:=Zx (n:=i) (by have:=Z7 hx;have:=hs.doors;omega)
   have hf:Y9 s.Bc (i+1)=Hd (Y9 s.Bc i) x:=Us Hd [] hx;have hp:=λhh=>Ur (ag:=true) (kk:=[2,1,2,1,1]) (enc:=Adr.enc) (eq:=XK) NK (Y9 s.Bc i) (WI x) (h:=.map ((Y9 s.Bc i).map Adr.enc) (ZO (Y9 s.Bc i).length)::hh) (b:=0) rfl
   have hq:=λhh=>H5 (ag:=true) (kk:=[2,1,2,1,1]) (enc:=Adr.enc) (eq:=XK) NK (Y9 s.Bc i) (WI x) (h:=.map ((Y9 s.Bc i).map Adr.enc) (ZO (Y9 s.Bc i).length)::hh) (b:=0) rfl
   rw[hf];generalize Y9 s.Bc i=K at hp hq hP⊢;have hp':∀a b,YK [.map (K.map Adr.enc)<|ZO K.length,a,b] true [2,1,2,1,1] (.mp 0) (.agg [.str x.By,I x.An.N,.str x.An.bm,I x.An.Num,I x.An.Den]) (.bool true)=_:=λa b=>hp [a,b]
   have hq':∀a b,W5 [.map (K.map Adr.enc)<|ZO K.length,a,b] true [2,1,2,1,1] false (.bool false) (.mp 0) (.agg [.str x.By,I x.An.N,.str x.An.bm,I x.An.Num,I x.An.Den])=_:=λa b=>hq [a,b]
   unfold Hd;unfold Jr at hP⊢;cases h1:x.Ld != -1 with
   |true=>
    refine⟨_,by simp only[go_sem,c50L0b,hg,hi,hw,Ga.enc,NL.enc,h1,hbA,hbT];rfl,?_⟩
    simp only[go_sem]
   |false=>
   cases h2:Z3 x.Veil emp with
   |false=>
    refine⟨_,by simp only[go_sem,c50L0b,hg,hi,hw,Ga.enc,NL.enc,h1,h2,hbA,hbT];rfl,?_⟩
    simp only[go_sem]
   |true=>
    have h3:K.any (XK<|WI x)=false:=by simpa[h1,h2]using hP
    refine⟨_,by simp only[go_sem,c50L0b,hg,hi,hw,Ga.enc,NL.enc,h1,h2,hq',hp',h3,hbA,hbT];rfl,?_⟩
    simp only[go_sem])
  (λi x hx hP=>by
   have hg:=Z6 (f:=Ga.enc) hx;have hi:=Zh<|Z7 hx;have hq:=λhh=>H5 (ag:=true) (kk:=[2,1,2,1,1]) (enc:=Adr.enc) (eq:=XK) NK (Y9 s.Bc i) (WI x) (h:=.map ((Y9 s.Bc i).map Adr.enc) (ZO (Y9 s.Bc i).length)::hh) (b:=0) rfl
   generalize Y9 s.Bc i=K at hq hP⊢;have hq':∀a b,W5 [.map (K.map Adr.enc)<|ZO K.length,a,b] true [2,1,2,1,1] false (.bool false) (.mp 0) (.agg [.str x.By,I x.An.N,.str x.An.bm,I x.An.Num,I x.An.Den])=_:=λa b=>hq [a,b]
   unfold Jr at hP;have h1:(x.Ld != -1)=false:=by cases h:x.Ld != -1<;>simp_all
   have h2:Z3 x.Veil emp=true:=by cases h:Z3 x.Veil emp<;>simp_all
   have h3:K.any (XK<|WI x)=true:=by simpa[h1,h2]using hP
   refine⟨_,_,by simp only[go_sem,c50L0b,hg,hi,Ga.enc,NL.enc,h1,h2,hq',h3,hbA,hbT];rfl,?_⟩
   simp only[go_sem])
  (⟨_,_,by simp only[go_sem,c50L0b,ZG];rfl,by simp only[go_sem]⟩)
 obtain⟨fr',h',h1,h2,h3⟩:=L;have h1':Zg rE [3,9,10,11] c50L0b [(3,.mp 0),(9,.isl false false 16<|s.Bc.map Ga.enc),(10,I s.Bc.length),(11,.int .i64 0)] [.map [] []]=_:=h1;rw[Z5 (f:=50) rfl rfl];have hdef:Zu (λi d=>Jr d||!(Y9 s.Bc i).any (XK<|WI d)) 0 s.Bc=Wh s.Bc:=rfl
 rw[hdef]at h1' h3;cases hc:Wh s.Bc with
 |true=>rw[hc]at h1';simp only[go_sem,c50,c50L0,h1']
 |false=>rw[hc]at h1';simp only[go_sem,c50,c50L0,h1',h3 hc,ZX2]
end Go.AM
