/- What the functions of the program compute, part 1, for TicketIssues. No condition. -/
import Derived.Test.YtnjibjdmniajjaaGreatDoorC3
import Derived.Test.YtnjibjdmniajjaaGreatDoorQ5
import Derived.Lib.ItoaNum
import Derived.Lib.ItoaLen
set_option linter.unusedVariables false
set_option linter.defProp false
set_option linter.unusedSimpArgs false
set_option linter.unusedSectionVars false
attribute [go_sem_proc] Nat.reduceBEq Nat.reduceAdd Nat.reduceSub Nat.reduceMul Nat.reduceLT Nat.reduceLeDiff reduceIte
namespace Go.AM
open Go
def Ib:clean .bot=true:=(rfl)
def Di(b:Bool):clean (.bool b)=true:=(rfl)
def Dj(k:IntKind)(n:Int):clean (.int k n)=true:=(rfl)
def Ic(s:ByteArray):clean (.str s)=true:=(rfl)
def Ie:clean .nilif=true:=(rfl)
def Ig(cs:List AV):clean (.agg cs)=Z4 cs:=(rfl)
def Ih(cs:List AV):clean (.tup cs)=Z4 cs:=(rfl)
def Ii(bw ex:Bool)(sz:Nat)(es:List AV):clean (.isl bw ex sz es) = !bw:=(rfl)
def Ij(bw:Bool)(es:List AV):clean (.iptr bw es) = !bw:=(rfl)
def Ik(bw:Bool)(es vs:List AV):clean (.imap bw es vs) = !bw:=(rfl)
def Il(fn:Fn)(a c:List AV):clean (.clo fn a c)=(Z4 a&&Z4 c):=(rfl)
def Im(b i off g:Nat):clean (.ptr b i off g)=false:=(rfl)
def Io(b g off len:Nat)(ex:Bool):clean (.sl b g off len ex)=false:=(rfl)
def Ip(b:Nat):clean (.mp b)=false:=(rfl)
def Dk:Z4 []=true:=(rfl)
def N1(a:AV)(r:List AV):Z4 (a::r)=(clean a&&Z4 r):=(rfl)
def Iq(b:Bool):Zy (.bool b)=true:=(rfl)
def Ir(k:IntKind)(n:Int):Zy (.int k n)=true:=(rfl)
def It(s:ByteArray):Zy (.str s)=true:=(rfl)
def Iu(cs:List AV):Zy (.agg cs)=Zi cs:=(rfl)
def Iv(cs:List AV):Zy (.tup cs)=Zi cs:=(rfl)
def Iw(bw ex:Bool)(sz:Nat)(es:List AV):Zy (.isl bw ex sz es)=true:=(rfl)
def Ix(bw:Bool)(es:List AV):Zy (.iptr bw es)=true:=(rfl)
def Iy(bw:Bool)(es vs:List AV):Zy (.imap bw es vs)=true:=(rfl)
def Iz(fn:Fn)(a c:List AV):Zy (.clo fn a c)=(Zi a&&Zi c):=(rfl)
def IA:Zi []=true:=(rfl)
def IB(a:AV)(r:List AV):Zi (a::r)=(Zy a&&Zi r):=(rfl)
attribute [go_sem] Ib Di Dj Ic Ie Ig Ih Ii Ij Ik Il Im Io Ip Dk N1
 Iq Ir It Iu Iv Iw Ix Iy Iz IA IB
def N3(c:AV)(r:List AV):takeC none (c::r)=some c:=rfl
def IC(n:Nat)(cs:List AV):takeC (some n) cs=bif Nat.ble n cs.length then some (.agg<|cs.take n)else none:=rfl
def ID(cs:List AV):(AV.agg cs).cells=cs:=rfl
def IE(b:Bool):(AV.bool b).cells=[.bool b]:=rfl
def IF(k:IntKind)(n:Int):(AV.int k n).cells=[.int k n]:=rfl
def IG(s:ByteArray):(AV.str s).cells=[.str s]:=rfl
def IH(bw ex:Bool)(sz:Nat)(es:List AV):(AV.isl bw ex sz es).cells=[.isl bw ex sz es]:=rfl
def II(b g off len:Nat)(ex:Bool):(AV.sl b g off len ex).cells=[.sl b g off len ex]:=rfl
def IJ(b i off g:Nat):(AV.ptr b i off g).cells=[.ptr b i off g]:=rfl
def IK(bw:Bool)(es:List AV):(AV.iptr bw es).cells=[.iptr bw es]:=rfl
def IL(fn:Fn)(a c:List AV):(AV.clo fn a c).cells=[.clo fn a c]:=rfl
def IM(b:Nat):(AV.mp b).cells=[.mp b]:=rfl
def IN:AV.nilp.cells=[.nilp]:=rfl
def IP:AV.nilfn.cells=[.nilfn]:=rfl
attribute [go_sem] N3 IC ID IE IF IG IH II IJ IK IL IM IN IP
attribute [go_sem] eq_self Bool.and_true Bool.true_and Bool.and_false Bool.false_and Bool.not_true Bool.not_false Bool.and_self
def XA{a b:List AV}:Z4 (a++b)=(Z4 a&&Z4 b):=by
 induction a with
 |nil=>simp[Z4]
 |cons x a ih=>simp[Z4,ih,ZTG]
def Zw{α:Type}{f:α->AV}(h:∀x,clean (f x)=true):∀l:List α,Z4 (l.map f)=true
 |[]=>rfl
 |x::l=>by simp[Z4,h,Zw h l]
def YM{n:Int}(h1:-9223372036854775808<=n)(h2:n<=9223372036854775807):IntKind.i64.wrap n=n:=by
 simp[IntKind.wrap,IntKind.signed,IntKind.bits];omega
def Zx{n:Nat}(h:n<9223372036854775807):IntKind.i64.wrap ((n:Int)+1)=((n+1:Nat):Int):=by
 rw[YM (by omega)<|by omega];rfl
variable {E:Env}
def IQ{v:Option AV}{r:Zt}(he:Zl v=some r):r.2.2=none:=by
 unfold Zl at he;cases v with
 |none=>cases he
 |some v=>simp only[ZSt,Option.some.injEq]at he;rw[<-he]
def YV(h:Hp)(r:Zt):Prop:=Ya h r.2.2=true
def IR{h:Hp}{r:Zt}(hr:r.2.2=none):YV h r:=by unfold YV;rw[hr];rfl
def N4{h:Hp}{v:Option AV}{r:Zt}(he:Zl v=some r):YV h r:=IR<|IQ he
def Vc{h:Hp}{v:AV}{rs:List Nat}{b:Nat}{o:AObj}{r:Zt}(hb:b<=h.length)(he:some (v,rs,some (b,o))=some r):YV h r:=by
 cases he;exact ZT2 hb
def VU{h:Hp}{v:AV}{rs:List Nat}{r:Zt}(he:some (v,rs,none)=some r):YV h r:=by
 cases he;rfl
def ZA0{h:Hp}{r:Zt}(hb:∀b o,r.2.2=some (b,o)->b<=h.length):YV h r:=by
 obtain⟨v,rs,wr⟩:=r;cases wr with
 |none=>rfl
 |some p=>exact ZT2<|hb p.1 p.2 rfl
def N5{h:Hp}{b:Nat}{o:AObj}(hb:h[b]?=some o):b<=h.length:=ZSB (ZS7.1 hb).1
def N6{h:Hp}{fz:Bool}{sz:Nat}{all:List AV}{rs:List Nat}{r:Zt}(he:Yp h.length fz sz all rs=some r):YV h r:=by
 unfold Yp at he;cases fz with
 |true=>
  cases hc:Z4 all with
  |true=>rw[hc]at he;exact VU he
  |false=>rw[hc]at he;cases he
 |false=>exact Vc (ZS6 _) he
def IS{h:Hp}{fz:Bool}{sz bytes:Nat}{s x:AV}{r:Zt}(he:Qt h h.length fz sz bytes s x=some r):YV h r:=by
 unfold Qt at he;split at he
 .split at he
  .rename_i es ys _ _ _;cases hy:ys.isEmpty with
   |true=>rw[hy]at he;exact VU he
   |false=>
    rw[hy,cond_false]at he;split at he
    .exact N6 he
    .exact N6 he
    .exact N6 he
    .split at he
     .rename_i hb;simp only[cond]at he;split at he
      .exact Vc (N5 hb) he
      .cases he
     .cases he
    .cases he
  .cases he
 .cases he
def IT{h:Hp}{ag:Bool}{kk:List Nat}{b:Nat}{ks vs:List AV}{k v:AV}{r:Zt}(hb:b<=h.length)(he:Yo ag kk b ks vs k v=some r):YV h r:=by
 unfold Yo at he;split at he
 .exact Vc hb he
 .exact Vc hb he
 .cases he
def IU{h:Hp}{v:Option AV}{rs:List Nat}{r:Zt}(he:v.map (λv=>((v,rs,none):Zt))=some r):YV h r:=by
 cases v with
 |none=>cases he
 |some v=>exact VU he
def IV{h:Hp}{ag ok:Bool}{kk rs:List Nat}{z:AV}{ks vs:List AV}{k:AV}{r:Zt}(he:QW ag kk ok z rs ks vs k=some r):YV h r:=by
 unfold QW at he;split at he
 .exact VU he
 .rename_i i _ _;cases hv:vs[i]? with
  |none=>rw[hv]at he;cases he
  |some v=>rw[hv]at he;exact VU he
 .cases he
def IW{h:Hp}{x:AV}{r:Zt}(he:X1 h x=some r):YV h r:=by
 unfold X1 at he
 repeat' (split at he)
 all_goals try simp only[cond]at he
 all_goals (repeat' (split at he))
 all_goals first
  |exact N4 he
  |exact VU he
  |(cases he;done)
def ZA1{h:Hp}{b c:Nat}{x:AV}{r:Zt}(he:ZvH h b c x=some r):YV h r:=by
 unfold ZvH at he
 repeat' (split at he)
 all_goals try simp only[cond]at he
 all_goals (repeat' (split at he))
 all_goals first
  |(exact Vc (N5<|by assumption) he)
  |(cases he;done)
def IX{fr:Fr}{h:Hp}{op:AOp}{r:Zt}(he:Z8 E fr h h.length op=some r):YV h r:=by
 cases op<;>simp only[Z8]at he
 case app=>exact IS he
 case apr sz bytes s x=>
  cases hap:Qt h h.length false sz bytes (ev E fr s) (ev E fr x)with
  |none=>rw[hap]at he;cases he
  |some r0=>
   rw[hap]at he;exact ZA0<|Zzd (ZxP (ZS6 _) hap) he
 case own=>exact Vc (ZS6 _) he
 case mkm=>exact Vc (ZS6 _) he
 all_goals first
  |exact N4 he
  |(repeat' (split at he)
    all_goals try simp only[cond]at he
    all_goals (repeat' (split at he))
    all_goals first
     |exact N4 he
     |exact VU he
     |exact Vc (ZS6 _) he
     |(cases he;done)
     |(exact Vc (N5<|by assumption) he)
     |(exact IT (N5<|by assumption) he)
     |exact IU he
     |exact IV he
     |exact ZA1 he
     |exact IW he)
def Za(E:Env)(op:AOp)(fr:Fr)(h:Hp):DRec:=
 match op with
 | .call _ _ args=>⟨!Zi (evs E fr args),[],none,none⟩
 | .callv _ x args=>(match ev E fr x with| .clo (.func _) first cap=>⟨!Zi (first++evs E fr args++cap),[],none,none⟩|_=>⟨false,[],none,none⟩)
 |op=>QG E (Z2 op.slots fr) h op (match Z8 E (Z2 op.slots fr) h h.length op with|some r=>r.2.2|none=>none)
noncomputable def dk(E:Env)(d:Option Nat)(r:List AOper)(us:List<|List Nat)(ok:Bool)(fr:Fr)(recs:List DRec)(rec:DRec):Option (Fr×Hp)->Option (Fr×Hp)
 |some ((_,v)::_,h')=>bif ok then Zm E r us (ZB fr d v) h' (recs++[rec])else none
 |_=>none
def IY(d:Option Nat)(r:List AOper)(us:List<|List Nat)(fr:Fr)(recs:List DRec)(rec:DRec)(k:Nat)(v:AV)(fr':Fr)(h':Hp):dk E d r us true fr recs rec (some ((k,v)::fr',h'))=Zm E r us (ZB fr d v) h' (recs++[rec]):=rfl
def Qb{d:Option Nat}{op:AOp}{r:List AOper}{u:List Nat}{us:List (List Nat)}{fr:Fr}{h:Hp}{recs:List DRec}(hc:op.isCall=false):
 Zm E (⟨d,op,none⟩::r) (u::us) fr h recs=dk E d r us (Zv (Za E op fr h) recs u) fr recs (Za E op fr h) (Z9 E [⟨some 0,op,none⟩] (Z2 op.slots fr) h):=by
 rw[VS,LG hc,V9,GE hc];have hd:Za E op fr h=QG E (Z2 op.slots fr) h op (match Z8 E (Z2 op.slots fr) h h.length op with|some r=>r.2.2|none=>none):=by
  cases op<;>first|rfl|(simp[AOp.isCall]at hc)
 rw[hd];cases he:Z8 E (Z2 op.slots fr) h h.length op with
 |none=>rfl
 |some q=>
  simp only[ZM,KZ,GG,dk,okd];have hw:=IX he;unfold YV at hw;rw[hw,ZSu]
def IZ{d:Option Nat}{f:Nat}{args:List Arg}{r:List AOper}{u:List Nat}{us:List (List Nat)}{fr:Fr}{h:Hp}{recs:List DRec}:
 Zm E (⟨d,.call true f args,none⟩::r) (u::us) fr h recs=dk E d r us (Zv (Za E (.call true f args) fr h) recs u) fr recs (Za E (.call true f args) fr h) (Z9 E [⟨some 0,.call true f args,none⟩] fr h):=by
 rw[VS,S6,V9,RE,GD];simp only[Za,evs];cases Ql h (args.map<|ev E fr)with
 |none=>rfl
 |some aS=>
  simp only[ZM];cases pfn E f aS with
  |none=>rfl
  |some v=>
   simp only[ZM,KZ,GG,dk,okd,ZH,Ya,ZSu]
noncomputable def rkw(E:Env)(d:Option Nat)(r:List AOper)(u:List Nat)(us:List<|List Nat)(fr:Fr)(h:Hp)(recs:List DRec)(o:Option<|AV×DRec×Option (Nat×AObj)):Option (Fr×Hp):=thn o λp=>okd recs u h p.2.1 p.2.2<|Zm E r us (ZB fr d p.1) (ZH h p.2.2)<|recs++[p.2.1]
def ZL4{d:Option Nat}{f:Nat}{args:List Arg}{r:List AOper}{u:List Nat}{us:List (List Nat)}{fr:Fr}{h:Hp}{recs:List DRec}:
 Zm E (⟨d,.call false f args,none⟩::r) (u::us) fr h recs=rkw E d r u us fr h recs (rsD (E.rs f) h<|evs E fr args):=by
 rw[VS,ZIH];rfl
def O0{d:Option Nat}{x:Arg}{args:List Arg}{r:List AOper}{u:List Nat}{us:List (List Nat)}{fr:Fr}{h:Hp}{recs:List DRec}:
 Zm E (⟨d,.callv true x args,none⟩::r) (u::us) fr h recs=dk E d r us (Zv (Za E (.callv true x args) fr h) recs u) fr recs (Za E (.callv true x args) fr h) (Z9 E [⟨some 0,.callv true x args,none⟩] fr h):=by
 rw[VS,S7,V9,RF];simp only[Za,evs,dcv];generalize ev E fr x=fv;by_cases hv:∃g a c,fv=.clo (.func g) a c
 .obtain⟨g,a,c,rfl⟩:=hv;simp only;rw[RD,GD];cases Ql h (a++args.map (ev E fr)++c)with
  |none=>rfl
  |some aS=>
   simp only[ZM];cases pfn E g aS with
   |none=>rfl
   |some v=>simp only[ZM,KZ,GG,dk,okd,ZH,Ya,ZSu]
 .rw[LU (λg a c e=>hv ⟨g,a,c,e⟩)<|λ_ _=>rfl]
  split
  .next g a c=>exact absurd ⟨g,a,c,rfl⟩ hv
  .rfl
noncomputable def dg(E:Env)(d:Option Nat)(op:AOp)(r:List AOper)(u:List Nat)(us:List<|List Nat)(fr:Fr)(h:Hp)(recs:List DRec):Bool->AV->Option (Fr×Hp)
 |true,.bool true=>Zm E (⟨d,op,none⟩::r) (u::us) fr h recs
 |false,.bool false=>Zm E (⟨d,op,none⟩::r) (u::us) fr h recs
 |true,.bool false=>bif Zv ⟨false,[],none,none⟩ recs u then Zm E r us (ZB fr d<|.tup []) h (recs++[⟨false,[],none,none⟩])else none
 |false,.bool true=>bif Zv ⟨false,[],none,none⟩ recs u then Zm E r us (ZB fr d<|.tup []) h (recs++[⟨false,[],none,none⟩])else none
 |_,.tup []=>bif Zv ⟨false,[],none,none⟩ recs u then Zm E r us (ZB fr d<|.tup []) h (recs++[⟨false,[],none,none⟩])else none
 |_,_=>none
def O1(d:Option Nat)(op:AOp)(r:List AOper)(u:List Nat)(us:List<|List Nat)(fr:Fr)(h:Hp)(recs:List DRec):dg E d op r u us fr h recs true (.bool true)=Zm E (⟨d,op,none⟩::r) (u::us) fr h recs:=rfl
def O2(d:Option Nat)(op:AOp)(r:List AOper)(u:List Nat)(us:List<|List Nat)(fr:Fr)(h:Hp)(recs:List DRec):dg E d op r u us fr h recs false (.bool false)=Zm E (⟨d,op,none⟩::r) (u::us) fr h recs:=rfl
def O3(d:Option Nat)(op:AOp)(r:List AOper)(u:List Nat)(us:List<|List Nat)(fr:Fr)(h:Hp)(recs:List DRec):dg E d op r u us fr h recs true (.bool false)=bif Zv ⟨false,[],none,none⟩ recs u then Zm E r us (ZB fr d<|.tup []) h (recs++[⟨false,[],none,none⟩])else none:=rfl
def O4(d:Option Nat)(op:AOp)(r:List AOper)(u:List Nat)(us:List<|List Nat)(fr:Fr)(h:Hp)(recs:List DRec):dg E d op r u us fr h recs false (.bool true)=bif Zv ⟨false,[],none,none⟩ recs u then Zm E r us (ZB fr d<|.tup []) h (recs++[⟨false,[],none,none⟩])else none:=rfl
def Dm(d:Option Nat)(op:AOp)(r:List AOper)(u:List Nat)(us:List<|List Nat)(fr:Fr)(h:Hp)(recs:List DRec)(b:Bool):dg E d op r u us fr h recs b (.tup [])=bif Zv ⟨false,[],none,none⟩ recs u then Zm E r us (ZB fr d<|.tup []) h (recs++[⟨false,[],none,none⟩])else none:=by cases b<;>rfl
def O5{d:Option Nat}{op:AOp}{t:Nat}{b:Bool}{r:List AOper}{u:List Nat}{us:List (List Nat)}{fr:Fr}{h:Hp}{recs:List DRec}:
 Zm E (⟨d,op,some (t,b)⟩::r) (u::us) fr h recs=dg E d op r u us fr h recs b (get fr t):=by
 rw[VS,S5];generalize get fr t=g;have hu:(thn (some ((AV.tup []:AV),(⟨false,[],none,none⟩:DRec),(none:Option<|Nat×AObj))) λp=>okd recs u h p.2.1 p.2.2<|Zm E r us (ZB fr d p.1) (ZH h p.2.2)<|recs++[p.2.1]) =
  bif Zv ⟨false,[],none,none⟩ recs u then Zm E r us (ZB fr d<|.tup []) h (recs++[⟨false,[],none,none⟩])else none:=by
  simp only[ZM,okd,Ya,ZSu,ZH]
 cases g with
 |bool c=>
  cases b<;>cases c
  .exact VS.symm
  .exact hu
  .exact hu
  .exact VS.symm
 |tup vs=>
  cases vs with
  |nil=>rw[Dm];exact hu
  |cons v vs=>cases b<;>rfl
 |_=>cases b<;>rfl
noncomputable def dn(E:Env)(p2:List AOper):Option (Fr×Hp)->Option (AExit×Fr×Hp)
 |some (fr,h)=>nrm<|Z9 E p2 fr h
 |none=>none
def O6(p2:List AOper)(fr:Fr)(h:Hp):dn E p2 (some (fr,h))=nrm (Z9 E p2 fr h):=rfl
def O7{un:List (List Nat)}{p1 p2:List AOper}{fr:Fr}{h:Hp}:Zb E (.draw un p1 p2) fr h=dn E p2 (Zm E p1 un fr h []):=by
 rw[Si];cases Zm E p1 un fr h []<;>rfl
def O8(x:DRec)(recs:List DRec):Zv x recs []=true:=(rfl)
def okQ(x:DRec):Option DRec->Bool
 |some y=>Qy x y
 |none=>false
def O9(x:DRec)(recs:List DRec)(j:Nat)(u:List Nat):Zv x recs (j::u)=(okQ x recs[j]?&&Zv x recs u):=by
 simp only[Zv,okQ];cases recs[j]?<;>rfl
def Oa(x y:DRec):okQ x (some y)=Qy x y:=(rfl)
def Ob{d:Option Nat}{x:Arg}{r:List AOper}{u:List Nat}{us:List (List Nat)}{fr:Fr}{h:Hp}{recs:List DRec}:
 Zm E (⟨d,.mv x,none⟩::r) (u::us) fr h recs=bif Zv ⟨false,[],none,none⟩ recs u then Zm E r us (ZB fr d<|ev E fr x) h (recs++[⟨false,[],none,none⟩])else none:=by
 rw[VS,LG rfl];have he:ev E (Z2 (AOp.mv x).slots fr) x=ev E fr x:=by
  cases x<;>first|rfl|skip
  case t n=>simp[AOp.slots,Arg.slots,ev,Z2,get]
 simp only[Z8,he,Zl,ZSt,ZM,okd,Ya,ZSu,ZH];rfl
end Go.AM
namespace Go.AM
open Go
variable {E:Env}
def QD{op:AOp}{fr:Fr}{h:Hp}(hq:X3 op=true)(hc:op.isCall=false):Za E op fr h=⟨false,opT E (Z2 op.slots fr) op,none,none⟩:=by
 have hd:Za E op fr h=QG E (Z2 op.slots fr) h op (match Z8 E (Z2 op.slots fr) h h.length op with|some r=>r.2.2|none=>none):=by
  cases op<;>first|rfl|(simp[AOp.isCall]at hc)
 have hn:(match Z8 E (Z2 op.slots fr) h h.length op with|some r=>r.2.2|none=>none)=none:=by
  cases he:Z8 E (Z2 op.slots fr) h h.length op with
  |none=>rfl
  |some r=>obtain⟨v,rs,wr⟩:=r;exact Lm hq he
 rw[hd,hn];cases op<;>first|rfl|(simp[X3]at hq)
def bxr(h:Hp)(b:Bool):DRec:=bif b then⟨false,[],some h.length,none⟩else⟨false,[],none,none⟩
def Oc(h:Hp):bxr h true=⟨false,[],some h.length,none⟩:=rfl
def Od{sz:Nat}{x:Arg}{fr:Fr}{h:Hp}:Za E (.box sz x) fr h=bxr h (fits sz<|ev E (Z2 x.slots fr) x):=by
 simp only[Za,Z8,AOp.slots];cases fits sz (ev E (Z2 x.slots fr) x)<;>rfl
def str(a:AV):Option (AV×Hp)->DRec
 |some _=>⟨false,Zs a,(Zs a).head?,none⟩
 |none=>⟨false,Zs a,none,none⟩
def Oe(b i off g:Nat)(p:AV×Hp):str (.ptr b i off g) (some p)=⟨false,[b],some b,none⟩:=rfl
def Of{n:Nat}{a x:Arg}{fr:Fr}{h:Hp}:Za E (.store n a x) fr h=str (ev E (Z2 (a.slots++x.slots) fr) a) (stV h n (ev E (Z2 (a.slots++x.slots) fr) x)<|ev E (Z2 (a.slots++x.slots) fr) a):=by
 have hd:Za E (.store n a x) fr h=QG E (Z2 (a.slots++x.slots) fr) h (.store n a x) (match Z8 E (Z2 (a.slots++x.slots) fr) h h.length (.store n a x)with|some r=>r.2.2|none=>none):=rfl
 rw[hd];have h1:=@LR E none n a x [] (Z2 (a.slots++x.slots) fr) h;rw[V9,GE rfl]at h1;generalize Z2 (a.slots++x.slots) fr=f at h1⊢;have hr:∀wr,QG E f h (.store n a x) wr=⟨false,Zs<|ev E f a,wr.map (·.1),none⟩:=λwr=>rfl
 rw[hr];cases he:Z8 E f h h.length (.store n a x)with
 |none=>
  rw[he]at h1;cases hs:stV h n (ev E f x) (ev E f a)with
  |none=>rfl
  |some p=>obtain⟨v,h2⟩:=p;rw[hs]at h1;simp only[LA,LI,KZ,RH]at h1;cases h1
 |some r=>
  rw[he]at h1;cases hs:stV h n (ev E f x) (ev E f a)with
  |none=>rw[hs]at h1;simp only[ZM,KZ,RH,stw,LA]at h1;cases h1
  |some p=>
   obtain⟨v,rs,wr⟩:=r;simp only[Z8]at he;cases hv:ev E f a with
   |ptr b i off g=>
    rw[hv]at he;simp only at he;have:wr.map (·.1)=some b:=by
     repeat' (split at he)
     all_goals try simp only[cond]at he
     all_goals (repeat' (split at he))
     all_goals first|(cases he;done)|(cases he;rfl)
    simp only[str,Zs,List.head?_cons,this]
   |_=>rw[hv]at he;cases he
def wrB:Option Zt->Option Nat
 |some r=>r.2.2.map (·.1)
 |none=>none
def Og{fz:Bool}{sz bytes:Nat}{s x:Arg}{fr:Fr}{h:Hp}:Za E (.app fz sz bytes s x) fr h =
 ⟨false,Zs (ev E (Z2 (s.slots++x.slots) fr) s)++Zs (ev E (Z2 (s.slots++x.slots) fr) x),wrB<|Qt h h.length fz sz bytes (ev E (Z2 (s.slots++x.slots) fr) s)<|ev E (Z2 (s.slots++x.slots) fr) x,none⟩:=by
 simp only[Za,Z8,AOp.slots,QG,Wm,opT];cases Qt h h.length fz sz bytes (ev E (Z2 (s.slots++x.slots) fr) s) (ev E (Z2 (s.slots++x.slots) fr) x)<;>rfl
def ZA2{sz bytes:Nat}{s x:Arg}{fr:Fr}{h:Hp}:Za E (.apr sz bytes s x) fr h =
 ⟨false,Zs (ev E (Z2 (s.slots++x.slots) fr) s)++Zs (ev E (Z2 (s.slots++x.slots) fr) x),wrB<|Zwk h sz bytes (ev E (Z2 (s.slots++x.slots) fr) s)<|ev E (Z2 (s.slots++x.slots) fr) x,none⟩:=by
 simp only[Za,Z8,AOp.slots,QG,Wm,opT,Zwk];generalize Qt h h.length false sz bytes (ev E (Z2 (s.slots++x.slots) fr) s) (ev E (Z2 (s.slots++x.slots) fr) x)=q;cases q with
 |none=>rfl
 |some r=>dsimp only;cases ZvE h r<;>rfl
def ZA3{sz bytes:Nat}{s x:Arg}{d:Option Nat}{r:List AOper}{u:List Nat}{us:List (List Nat)}{fr:Fr}{h:Hp}{recs:List DRec}:Zm E (⟨d,(.apr sz bytes s x),none⟩::r) (u::us) fr h recs=dk E d r us (Zv (Za E (.apr sz bytes s x) fr h) recs u) fr recs (Za E (.apr sz bytes s x) fr h) (Z9 E [⟨some 0,(.apr sz bytes s x),none⟩] (Z2 (AOp.slots<|.apr sz bytes s x) fr) h):=Qb rfl
attribute [go_sem] ZA3 ZA2
def Oh{fr:Fr}{h:Hp}:Za E .mkm fr h=⟨false,[],some h.length,none⟩:=rfl
def Oi{p:Bool}{f:Nat}{args:List Arg}{fr:Fr}{h:Hp}:Za E (.call p f args) fr h=⟨!Zi (evs E fr args),[],none,none⟩:=rfl
def cvr(args:List AV):AV->DRec
 | .clo (.func _) first cap=>⟨!Zi (first++args++cap),[],none,none⟩
 |_=>⟨false,[],none,none⟩
def Oj(args:List AV)(g:Nat)(first cap:List AV):cvr args (.clo (.func g) first cap)=⟨!Zi (first++args++cap),[],none,none⟩:=rfl
def Ok{p:Bool}{x:Arg}{args:List Arg}{fr:Fr}{h:Hp}:Za E (.callv p x args) fr h=cvr (evs E fr args) (ev E fr x):=by
 simp only[Za];generalize ev E fr x=v;cases v<;>first|rfl|(rename_i fn _ _;cases fn<;>rfl)
def Ol{ex:Bool}{sz:Nat}{z:AV}{n:Nat}{ps:List (Nat×Arg)}{fr:Fr}{h:Hp}:Za E (.bsl true ex sz z n ps) fr h=⟨false,[],none,none⟩:=(QD rfl rfl).trans rfl
def Om{c a b:Arg}{d:Option Nat}{r:List AOper}{u:List Nat}{us:List (List Nat)}{fr:Fr}{h:Hp}{recs:List DRec}:Zm E (⟨d,(.pick c a b),none⟩::r) (u::us) fr h recs=dk E d r us (Zv (Za E (.pick c a b) fr h) recs u) fr recs (Za E (.pick c a b) fr h) (Z9 E [⟨some 0,(.pick c a b),none⟩] (Z2 (AOp.slots<|.pick c a b) fr) h):=Qb rfl
def Oo{c a b:Arg}{fr:Fr}{h:Hp}:Za E (.pick c a b) fr h=⟨false,opT E (Z2 (AOp.slots<|.pick c a b) fr)<|.pick c a b,none,none⟩:=QD rfl rfl
def Oq{sz:Nat}{x:Arg}{d:Option Nat}{r:List AOper}{u:List Nat}{us:List (List Nat)}{fr:Fr}{h:Hp}{recs:List DRec}:Zm E (⟨d,(.box sz x),none⟩::r) (u::us) fr h recs=dk E d r us (Zv (Za E (.box sz x) fr h) recs u) fr recs (Za E (.box sz x) fr h) (Z9 E [⟨some 0,(.box sz x),none⟩] (Z2 (AOp.slots<|.box sz x) fr) h):=Qb rfl
def Ot{sz:Nat}{x:Arg}{d:Option Nat}{r:List AOper}{u:List Nat}{us:List (List Nat)}{fr:Fr}{h:Hp}{recs:List DRec}:Zm E (⟨d,(.ibox sz x),none⟩::r) (u::us) fr h recs=dk E d r us (Zv (Za E (.ibox sz x) fr h) recs u) fr recs (Za E (.ibox sz x) fr h) (Z9 E [⟨some 0,(.ibox sz x),none⟩] (Z2 (AOp.slots<|.ibox sz x) fr) h):=Qb rfl
def Ou{z:List AV}{ps:List (Nat×Nat×Arg)}{d:Option Nat}{r:List AOper}{u:List Nat}{us:List (List Nat)}{fr:Fr}{h:Hp}{recs:List DRec}:Zm E (⟨d,(.build z ps),none⟩::r) (u::us) fr h recs=dk E d r us (Zv (Za E (.build z ps) fr h) recs u) fr recs (Za E (.build z ps) fr h) (Z9 E [⟨some 0,(.build z ps),none⟩] (Z2 (AOp.slots<|.build z ps) fr) h):=Qb rfl
def Ov{z:List AV}{ps:List (Nat×Nat×Arg)}{fr:Fr}{h:Hp}:Za E (.build z ps) fr h=⟨false,opT E (Z2 (AOp.slots<|.build z ps) fr)<|.build z ps,none,none⟩:=QD rfl rfl
def Ow{fz ex:Bool}{sz:Nat}{z:AV}{n:Nat}{ps:List (Nat×Arg)}{d:Option Nat}{r:List AOper}{u:List Nat}{us:List (List Nat)}{fr:Fr}{h:Hp}{recs:List DRec}:Zm E (⟨d,(.bsl fz ex sz z n ps),none⟩::r) (u::us) fr h recs=dk E d r us (Zv (Za E (.bsl fz ex sz z n ps) fr h) recs u) fr recs (Za E (.bsl fz ex sz z n ps) fr h) (Z9 E [⟨some 0,(.bsl fz ex sz z n ps),none⟩] (Z2 (AOp.slots<|.bsl fz ex sz z n ps) fr) h):=Qb rfl
def Ox{n:Option Nat}{x:Arg}{d:Option Nat}{r:List AOper}{u:List Nat}{us:List (List Nat)}{fr:Fr}{h:Hp}{recs:List DRec}:Zm E (⟨d,(.load n x),none⟩::r) (u::us) fr h recs=dk E d r us (Zv (Za E (.load n x) fr h) recs u) fr recs (Za E (.load n x) fr h) (Z9 E [⟨some 0,(.load n x),none⟩] (Z2 (AOp.slots<|.load n x) fr) h):=Qb rfl
def Oy{n:Option Nat}{x:Arg}{fr:Fr}{h:Hp}:Za E (.load n x) fr h=⟨false,opT E (Z2 (AOp.slots<|.load n x) fr)<|.load n x,none,none⟩:=QD rfl rfl
def Oz{n:Nat}{a x:Arg}{d:Option Nat}{r:List AOper}{u:List Nat}{us:List (List Nat)}{fr:Fr}{h:Hp}{recs:List DRec}:Zm E (⟨d,(.store n a x),none⟩::r) (u::us) fr h recs=dk E d r us (Zv (Za E (.store n a x) fr h) recs u) fr recs (Za E (.store n a x) fr h) (Z9 E [⟨some 0,(.store n a x),none⟩] (Z2 (AOp.slots<|.store n a x) fr) h):=Qb rfl
def OA{x:Arg}{d:Option Nat}{r:List AOper}{u:List Nat}{us:List (List Nat)}{fr:Fr}{h:Hp}{recs:List DRec}:Zm E (⟨d,(.nilck x),none⟩::r) (u::us) fr h recs=dk E d r us (Zv (Za E (.nilck x) fr h) recs u) fr recs (Za E (.nilck x) fr h) (Z9 E [⟨some 0,(.nilck x),none⟩] (Z2 (AOp.slots<|.nilck x) fr) h):=Qb rfl
def OB{x:Arg}{fr:Fr}{h:Hp}:Za E (.nilck x) fr h=⟨false,opT E (Z2 (AOp.slots<|.nilck x) fr)<|.nilck x,none,none⟩:=QD rfl rfl
def OC{f:BinOp}{x y:Arg}{d:Option Nat}{r:List AOper}{u:List Nat}{us:List (List Nat)}{fr:Fr}{h:Hp}{recs:List DRec}:Zm E (⟨d,(.bin f x y),none⟩::r) (u::us) fr h recs=dk E d r us (Zv (Za E (.bin f x y) fr h) recs u) fr recs (Za E (.bin f x y) fr h) (Z9 E [⟨some 0,(.bin f x y),none⟩] (Z2 (AOp.slots<|.bin f x y) fr) h):=Qb rfl
def OD{f:BinOp}{x y:Arg}{fr:Fr}{h:Hp}:Za E (.bin f x y) fr h=⟨false,opT E (Z2 (AOp.slots<|.bin f x y) fr)<|.bin f x y,none,none⟩:=QD rfl rfl
def OE{neg ag:Bool}{ks:List Nat}{x y:Arg}{d:Option Nat}{r:List AOper}{u:List Nat}{us:List (List Nat)}{fr:Fr}{h:Hp}{recs:List DRec}:Zm E (⟨d,(.eqv neg ag ks x y),none⟩::r) (u::us) fr h recs=dk E d r us (Zv (Za E (.eqv neg ag ks x y) fr h) recs u) fr recs (Za E (.eqv neg ag ks x y) fr h) (Z9 E [⟨some 0,(.eqv neg ag ks x y),none⟩] (Z2 (AOp.slots<|.eqv neg ag ks x y) fr) h):=Qb rfl
def OF{neg ag:Bool}{ks:List Nat}{x y:Arg}{fr:Fr}{h:Hp}:Za E (.eqv neg ag ks x y) fr h=⟨false,opT E (Z2 (AOp.slots<|.eqv neg ag ks x y) fr)<|.eqv neg ag ks x y,none,none⟩:=QD rfl rfl
def OG{f:UnOp}{x:Arg}{d:Option Nat}{r:List AOper}{u:List Nat}{us:List (List Nat)}{fr:Fr}{h:Hp}{recs:List DRec}:Zm E (⟨d,(.un f x),none⟩::r) (u::us) fr h recs=dk E d r us (Zv (Za E (.un f x) fr h) recs u) fr recs (Za E (.un f x) fr h) (Z9 E [⟨some 0,(.un f x),none⟩] (Z2 (AOp.slots<|.un f x) fr) h):=Qb rfl
def OH{f:UnOp}{x:Arg}{fr:Fr}{h:Hp}:Za E (.un f x) fr h=⟨false,opT E (Z2 (AOp.slots<|.un f x) fr)<|.un f x,none,none⟩:=QD rfl rfl
def OI{k:Option IntKind}{x:Arg}{d:Option Nat}{r:List AOper}{u:List Nat}{us:List (List Nat)}{fr:Fr}{h:Hp}{recs:List DRec}:Zm E (⟨d,(.conv k x),none⟩::r) (u::us) fr h recs=dk E d r us (Zv (Za E (.conv k x) fr h) recs u) fr recs (Za E (.conv k x) fr h) (Z9 E [⟨some 0,(.conv k x),none⟩] (Z2 (AOp.slots<|.conv k x) fr) h):=Qb rfl
def OJ{k:Option IntKind}{x:Arg}{fr:Fr}{h:Hp}:Za E (.conv k x) fr h=⟨false,opT E (Z2 (AOp.slots<|.conv k x) fr)<|.conv k x,none,none⟩:=QD rfl rfl
def OK{n:Option Nat}{off:Nat}{x:Arg}{d:Option Nat}{r:List AOper}{u:List Nat}{us:List (List Nat)}{fr:Fr}{h:Hp}{recs:List DRec}:Zm E (⟨d,(.fld n off x),none⟩::r) (u::us) fr h recs=dk E d r us (Zv (Za E (.fld n off x) fr h) recs u) fr recs (Za E (.fld n off x) fr h) (Z9 E [⟨some 0,(.fld n off x),none⟩] (Z2 (AOp.slots<|.fld n off x) fr) h):=Qb rfl
def OL{n:Option Nat}{off:Nat}{x:Arg}{fr:Fr}{h:Hp}:Za E (.fld n off x) fr h=⟨false,opT E (Z2 (AOp.slots<|.fld n off x) fr)<|.fld n off x,none,none⟩:=QD rfl rfl
def OM{off:Nat}{x:Arg}{d:Option Nat}{r:List AOper}{u:List Nat}{us:List (List Nat)}{fr:Fr}{h:Hp}{recs:List DRec}:Zm E (⟨d,(.fadr off x),none⟩::r) (u::us) fr h recs=dk E d r us (Zv (Za E (.fadr off x) fr h) recs u) fr recs (Za E (.fadr off x) fr h) (Z9 E [⟨some 0,(.fadr off x),none⟩] (Z2 (AOp.slots<|.fadr off x) fr) h):=Qb rfl
def ON{off:Nat}{x:Arg}{fr:Fr}{h:Hp}:Za E (.fadr off x) fr h=⟨false,opT E (Z2 (AOp.slots<|.fadr off x) fr)<|.fadr off x,none,none⟩:=QD rfl rfl
def OO{sz:Nat}{x i:Arg}{d:Option Nat}{r:List AOper}{u:List Nat}{us:List (List Nat)}{fr:Fr}{h:Hp}{recs:List DRec}:Zm E (⟨d,(.iadr sz x i),none⟩::r) (u::us) fr h recs=dk E d r us (Zv (Za E (.iadr sz x i) fr h) recs u) fr recs (Za E (.iadr sz x i) fr h) (Z9 E [⟨some 0,(.iadr sz x i),none⟩] (Z2 (AOp.slots<|.iadr sz x i) fr) h):=Qb rfl
def OP{sz:Nat}{x i:Arg}{fr:Fr}{h:Hp}:Za E (.iadr sz x i) fr h=⟨false,opT E (Z2 (AOp.slots<|.iadr sz x i) fr)<|.iadr sz x i,none,none⟩:=QD rfl rfl
def OQ{sz n:Nat}{x i:Arg}{d:Option Nat}{r:List AOper}{u:List Nat}{us:List (List Nat)}{fr:Fr}{h:Hp}{recs:List DRec}:Zm E (⟨d,(.aadr sz n x i),none⟩::r) (u::us) fr h recs=dk E d r us (Zv (Za E (.aadr sz n x i) fr h) recs u) fr recs (Za E (.aadr sz n x i) fr h) (Z9 E [⟨some 0,(.aadr sz n x i),none⟩] (Z2 (AOp.slots<|.aadr sz n x i) fr) h):=Qb rfl
def OR{sz n:Nat}{x i:Arg}{fr:Fr}{h:Hp}:Za E (.aadr sz n x i) fr h=⟨false,opT E (Z2 (AOp.slots<|.aadr sz n x i) fr)<|.aadr sz n x i,none,none⟩:=QD rfl rfl
def OS{x i:Arg}{d:Option Nat}{r:List AOper}{u:List Nat}{us:List (List Nat)}{fr:Fr}{h:Hp}{recs:List DRec}:Zm E (⟨d,(.sidx x i),none⟩::r) (u::us) fr h recs=dk E d r us (Zv (Za E (.sidx x i) fr h) recs u) fr recs (Za E (.sidx x i) fr h) (Z9 E [⟨some 0,(.sidx x i),none⟩] (Z2 (AOp.slots<|.sidx x i) fr) h):=Qb rfl
def OT{x i:Arg}{fr:Fr}{h:Hp}:Za E (.sidx x i) fr h=⟨false,opT E (Z2 (AOp.slots<|.sidx x i) fr)<|.sidx x i,none,none⟩:=QD rfl rfl
def OU{n:Option Nat}{sz len:Nat}{x i:Arg}{d:Option Nat}{r:List AOper}{u:List Nat}{us:List (List Nat)}{fr:Fr}{h:Hp}{recs:List DRec}:Zm E (⟨d,(.aidx n sz len x i),none⟩::r) (u::us) fr h recs=dk E d r us (Zv (Za E (.aidx n sz len x i) fr h) recs u) fr recs (Za E (.aidx n sz len x i) fr h) (Z9 E [⟨some 0,(.aidx n sz len x i),none⟩] (Z2 (AOp.slots<|.aidx n sz len x i) fr) h):=Qb rfl
def OV{n:Option Nat}{sz len:Nat}{x i:Arg}{fr:Fr}{h:Hp}:Za E (.aidx n sz len x i) fr h=⟨false,opT E (Z2 (AOp.slots<|.aidx n sz len x i) fr)<|.aidx n sz len x i,none,none⟩:=QD rfl rfl
def OW{x:Arg}{i:Nat}{d:Option Nat}{r:List AOper}{u:List Nat}{us:List (List Nat)}{fr:Fr}{h:Hp}{recs:List DRec}:Zm E (⟨d,(.ext x i),none⟩::r) (u::us) fr h recs=dk E d r us (Zv (Za E (.ext x i) fr h) recs u) fr recs (Za E (.ext x i) fr h) (Z9 E [⟨some 0,(.ext x i),none⟩] (Z2 (AOp.slots<|.ext x i) fr) h):=Qb rfl
def OX{x:Arg}{i:Nat}{fr:Fr}{h:Hp}:Za E (.ext x i) fr h=⟨false,opT E (Z2 (AOp.slots<|.ext x i) fr)<|.ext x i,none,none⟩:=QD rfl rfl
def OY{fn:Fn}{f c:List Arg}{d:Option Nat}{r:List AOper}{u:List Nat}{us:List (List Nat)}{fr:Fr}{h:Hp}{recs:List DRec}:Zm E (⟨d,(.mkf fn f c),none⟩::r) (u::us) fr h recs=dk E d r us (Zv (Za E (.mkf fn f c) fr h) recs u) fr recs (Za E (.mkf fn f c) fr h) (Z9 E [⟨some 0,(.mkf fn f c),none⟩] (Z2 (AOp.slots<|.mkf fn f c) fr) h):=Qb rfl
def OZ{fn:Fn}{f c:List Arg}{fr:Fr}{h:Hp}:Za E (.mkf fn f c) fr h=⟨false,opT E (Z2 (AOp.slots<|.mkf fn f c) fr)<|.mkf fn f c,none,none⟩:=QD rfl rfl
def P0{d:Option Nat}{r:List AOper}{u:List Nat}{us:List (List Nat)}{fr:Fr}{h:Hp}{recs:List DRec}:Zm E (⟨d,.mkm,none⟩::r) (u::us) fr h recs=dk E d r us (Zv (Za E .mkm fr h) recs u) fr recs (Za E .mkm fr h) (Z9 E [⟨some 0,.mkm,none⟩] (Z2 (AOp.slots .mkm) fr) h):=Qb rfl
def P1{ag:Bool}{ks:List Nat}{m k v:Arg}{d:Option Nat}{r:List AOper}{u:List Nat}{us:List (List Nat)}{fr:Fr}{h:Hp}{recs:List DRec}:Zm E (⟨d,(.ins ag ks m k v),none⟩::r) (u::us) fr h recs=dk E d r us (Zv (Za E (.ins ag ks m k v) fr h) recs u) fr recs (Za E (.ins ag ks m k v) fr h) (Z9 E [⟨some 0,(.ins ag ks m k v),none⟩] (Z2 (AOp.slots<|.ins ag ks m k v) fr) h):=Qb rfl
def P2{ag:Bool}{ks:List Nat}{m k v:Arg}{d:Option Nat}{r:List AOper}{u:List Nat}{us:List (List Nat)}{fr:Fr}{h:Hp}{recs:List DRec}:Zm E (⟨d,(.mupd ag ks m k v),none⟩::r) (u::us) fr h recs=dk E d r us (Zv (Za E (.mupd ag ks m k v) fr h) recs u) fr recs (Za E (.mupd ag ks m k v) fr h) (Z9 E [⟨some 0,(.mupd ag ks m k v),none⟩] (Z2 (AOp.slots<|.mupd ag ks m k v) fr) h):=Qb rfl
def P3{ag ok:Bool}{ks:List Nat}{z:AV}{m k:Arg}{d:Option Nat}{r:List AOper}{u:List Nat}{us:List (List Nat)}{fr:Fr}{h:Hp}{recs:List DRec}:Zm E (⟨d,(.lkp ag ks ok z m k),none⟩::r) (u::us) fr h recs=dk E d r us (Zv (Za E (.lkp ag ks ok z m k) fr h) recs u) fr recs (Za E (.lkp ag ks ok z m k) fr h) (Z9 E [⟨some 0,(.lkp ag ks ok z m k),none⟩] (Z2 (AOp.slots<|.lkp ag ks ok z m k) fr) h):=Qb rfl
def P4{ag ok:Bool}{ks:List Nat}{z:AV}{m k:Arg}{fr:Fr}{h:Hp}:Za E (.lkp ag ks ok z m k) fr h=⟨false,opT E (Z2 (AOp.slots<|.lkp ag ks ok z m k) fr)<|.lkp ag ks ok z m k,none,none⟩:=QD rfl rfl
def P5{sz:Nat}{x:Arg}{lo hi mx:Option Arg}{d:Option Nat}{r:List AOper}{u:List Nat}{us:List (List Nat)}{fr:Fr}{h:Hp}{recs:List DRec}:Zm E (⟨d,(.slc sz x lo hi mx),none⟩::r) (u::us) fr h recs=dk E d r us (Zv (Za E (.slc sz x lo hi mx) fr h) recs u) fr recs (Za E (.slc sz x lo hi mx) fr h) (Z9 E [⟨some 0,(.slc sz x lo hi mx),none⟩] (Z2 (AOp.slots<|.slc sz x lo hi mx) fr) h):=Qb rfl
def P6{sz:Nat}{x:Arg}{lo hi mx:Option Arg}{fr:Fr}{h:Hp}:Za E (.slc sz x lo hi mx) fr h=⟨false,opT E (Z2 (AOp.slots<|.slc sz x lo hi mx) fr)<|.slc sz x lo hi mx,none,none⟩:=QD rfl rfl
def P7{x:Arg}{lo hi:Option Arg}{d:Option Nat}{r:List AOper}{u:List Nat}{us:List (List Nat)}{fr:Fr}{h:Hp}{recs:List DRec}:Zm E (⟨d,(.ssl x lo hi),none⟩::r) (u::us) fr h recs=dk E d r us (Zv (Za E (.ssl x lo hi) fr h) recs u) fr recs (Za E (.ssl x lo hi) fr h) (Z9 E [⟨some 0,(.ssl x lo hi),none⟩] (Z2 (AOp.slots<|.ssl x lo hi) fr) h):=Qb rfl
def P8{x:Arg}{lo hi:Option Arg}{fr:Fr}{h:Hp}:Za E (.ssl x lo hi) fr h=⟨false,opT E (Z2 (AOp.slots<|.ssl x lo hi) fr)<|.ssl x lo hi,none,none⟩:=QD rfl rfl
def P9{k:Nat}{x:Arg}{d:Option Nat}{r:List AOper}{u:List Nat}{us:List (List Nat)}{fr:Fr}{h:Hp}{recs:List DRec}:Zm E (⟨d,(.len k x),none⟩::r) (u::us) fr h recs=dk E d r us (Zv (Za E (.len k x) fr h) recs u) fr recs (Za E (.len k x) fr h) (Z9 E [⟨some 0,(.len k x),none⟩] (Z2 (AOp.slots<|.len k x) fr) h):=Qb rfl
def Pa{k:Nat}{x:Arg}{fr:Fr}{h:Hp}:Za E (.len k x) fr h=⟨false,opT E (Z2 (AOp.slots<|.len k x) fr)<|.len k x,none,none⟩:=QD rfl rfl
def Pb{fz:Bool}{sz bytes:Nat}{s x:Arg}{d:Option Nat}{r:List AOper}{u:List Nat}{us:List (List Nat)}{fr:Fr}{h:Hp}{recs:List DRec}:Zm E (⟨d,(.app fz sz bytes s x),none⟩::r) (u::us) fr h recs=dk E d r us (Zv (Za E (.app fz sz bytes s x) fr h) recs u) fr recs (Za E (.app fz sz bytes s x) fr h) (Z9 E [⟨some 0,(.app fz sz bytes s x),none⟩] (Z2 (AOp.slots<|.app fz sz bytes s x) fr) h):=Qb rfl
def Pc{t:TypeId}{x:Arg}{d:Option Nat}{r:List AOper}{u:List Nat}{us:List (List Nat)}{fr:Fr}{h:Hp}{recs:List DRec}:Zm E (⟨d,(.mkif t x),none⟩::r) (u::us) fr h recs=dk E d r us (Zv (Za E (.mkif t x) fr h) recs u) fr recs (Za E (.mkif t x) fr h) (Z9 E [⟨some 0,(.mkif t x),none⟩] (Z2 (AOp.slots<|.mkif t x) fr) h):=Qb rfl
def Pd{t:TypeId}{x:Arg}{fr:Fr}{h:Hp}:Za E (.mkif t x) fr h=⟨false,opT E (Z2 (AOp.slots<|.mkif t x) fr)<|.mkif t x,none,none⟩:=QD rfl rfl
def Pe{mx:Bool}{x y:Arg}{d:Option Nat}{r:List AOper}{u:List Nat}{us:List (List Nat)}{fr:Fr}{h:Hp}{recs:List DRec}:Zm E (⟨d,(.mm mx x y),none⟩::r) (u::us) fr h recs=dk E d r us (Zv (Za E (.mm mx x y) fr h) recs u) fr recs (Za E (.mm mx x y) fr h) (Z9 E [⟨some 0,(.mm mx x y),none⟩] (Z2 (AOp.slots<|.mm mx x y) fr) h):=Qb rfl
def Pf{mx:Bool}{x y:Arg}{fr:Fr}{h:Hp}:Za E (.mm mx x y) fr h=⟨false,opT E (Z2 (AOp.slots<|.mm mx x y) fr)<|.mm mx x y,none,none⟩:=QD rfl rfl
def Pg{sz:Nat}{d:Option Nat}{r:List AOper}{u:List Nat}{us:List (List Nat)}{fr:Fr}{h:Hp}{recs:List DRec}:Zm E (⟨d,(.own sz),none⟩::r) (u::us) fr h recs=dk E d r us (Zv (Za E (.own sz) fr h) recs u) fr recs (Za E (.own sz) fr h) (Z9 E [⟨some 0,(.own sz),none⟩] (Z2 (AOp.slots<|.own sz) fr) h):=Qb rfl
def Ph{x:Arg}{d:Option Nat}{r:List AOper}{u:List Nat}{us:List (List Nat)}{fr:Fr}{h:Hp}{recs:List DRec}:Zm E (⟨d,(.rel x),none⟩::r) (u::us) fr h recs=dk E d r us (Zv (Za E (.rel x) fr h) recs u) fr recs (Za E (.rel x) fr h) (Z9 E [⟨some 0,(.rel x),none⟩] (Z2 (AOp.slots<|.rel x) fr) h):=Qb rfl
attribute [go_sem] Om Oo Oq Ot Ou Ov Ow Ox Oy Oz OA OB OC OD OE OF OG OH OI OJ OK OL OM ON OO OP OQ OR OS OT OU OV OW OX OY OZ P0 P1 P2 P3 P4 P5 P6 P7 P8 P9 Pa Pb Pc Pd Pe Pf Pg Ph Od Of Og Oh Oi Ok Ol Oc Oe Oj Ob IZ O0 O5 O1 O2 O3 O4 Dm IY S8 O7 O6 O8 O9 Oa
 AOp.slots Arg.slots Xp Ko opT Zs
end Go.AM
namespace Go.AM
open Go
variable {E:Env}
def rlO(h:Hp)(b g off len:Nat)(ex:Bool):Option (Nat×List AV)->Option (AV×Hp)
 |some (sz,es)=>bif Z4 es then some (.isl false ex sz<|(es.drop off).take len,setH h b .gone)else none
 |none=>none
def Pi(h:Hp)(b g off len:Nat)(ex:Bool)(sz:Nat)(es:List AV)(hc:Z4 es=true):rlO h b g off len ex (some (sz,es))=some (.isl false ex sz<|(es.drop off).take len,setH h b .gone):=by simp[rlO,hc]
def rlV(h:Hp):AV->Option (AV×Hp)
 | .sl b g off len ex=>rlO h b g off len ex<|rowAt h b g
 |v=>bif (Zs v).isEmpty then some (v,h)else none
def Pj(h:Hp)(bw ex:Bool)(sz:Nat)(es:List AV):rlV h (.isl bw ex sz es)=some (.isl bw ex sz es,h):=(rfl)
def Pl(h:Hp)(b g off len:Nat)(ex:Bool):rlV h (.sl b g off len ex)=rlO h b g off len ex (rowAt h b g):=(rfl)
def Pm{d:Option Nat}{x:Arg}{r:List AOper}{fr:Fr}{h:Hp}:Z9 E (⟨d,.rel x,none⟩::r) fr h=stw E r d fr (rlV h<|ev E fr x):=
 X9 rfl (by
  simp only[Z8];generalize ev E fr x=v;cases v<;>first|rfl|skip
  case sl b g off len ex=>
   simp only[rlV,rowAt,rlO];cases h[b]? with
   |none=>rfl
   |some o=>
    cases o<;>first|rfl|skip
    case row sz es=>
     dsimp only;cases hg:(es.length==g)
     .rfl
     .cases hc:Z4 es<;>simp[hc,ZH]<;>rfl)
attribute [go_sem] Pi Pj Pl Pm
def Zwr(cs:List AV)(c:Nat):Option (AV×Hp)->Option (AV×Hp)
 |some p=>some (.agg<|cs.set c p.1,p.2)
 |none=>none
def ZA4(cs:List AV)(c:Nat)(v:AV)(h:Hp):Zwr cs c (some (v,h))=some (.agg<|cs.set c v,h):=rfl
def ZwU(h:Hp)(cs:List AV)(c b2 g off len:Nat)(ex:Bool)(q:Bool):Option (AV×Hp):=bif q then Zwr cs c (rlV h<|.sl b2 g off len ex)else none
def Zyk(h:Hp)(cs:List AV)(c b2 g off len:Nat)(ex:Bool):ZwU h cs c b2 g off len ex true=Zwr cs c (rlV h<|.sl b2 g off len ex):=rfl
def ZwV(h:Hp)(b:Nat)(cs:List AV)(c:Nat):Option AV->Option (AV×Hp)
 |some (.sl b2 g off len ex)=>ZwU h cs c b2 g off len ex<|b2==b+1
 |_=>none
def Zyl(h:Hp)(b:Nat)(cs:List AV)(c b2 g off len:Nat)(ex:Bool):ZwV h b cs c (some<|.sl b2 g off len ex)=ZwU h cs c b2 g off len ex (b2==b+1):=rfl
def Zws(h:Hp)(b c:Nat):Option AV->Option (AV×Hp)
 |some (.agg cs)=>ZwV h b cs c cs[c]?
 |_=>none
def Zym(h:Hp)(b c:Nat)(cs:List AV):Zws h b c (some<|.agg cs)=ZwV h b cs c cs[c]?:=rfl
def Zyn(h:Hp)(n c:Nat):AV->Option (AV×Hp)
 | .ptr b i off g=>Zws h b c<|ldV h (some n)<|.ptr b i off g
 |_=>none
def Zyo(h:Hp)(n c b i off g:Nat):Zyn h n c (.ptr b i off g)=Zws h b c (ldV h (some n)<|.ptr b i off g):=rfl
def ZA5(h:Hp)(b c:Nat)(u:AV):(thn (ZvH h b c u) λx=>some (x.1,ZH h x.2.2))=Zws h b c (some u):=by
 cases u<;>first|rfl|skip
 case agg cs=>
  rw[Zym];unfold ZvH;dsimp only;cases cs[c]? with
  |none=>rfl
  |some q=>
   cases q<;>first|rfl|skip
   case sl b2 g off len ex=>
    rw[Zyl];dsimp only;cases hbb:(b2==b+1)with
    |false=>rfl
    |true=>
     have hbe:b2=b+1:=by simpa using hbb
     subst hbe;rw[Zyk];simp only[cond_true,rlV,rowAt,rlO];cases h[b+1]? with
     |none=>rfl
     |some o=>
      cases o<;>first|rfl|skip
      case row sz es=>
       dsimp only;cases hg:(es.length==g)
       .rfl
       .cases hc:Z4 es<;>simp[hc,ZH,Zwr]<;>rfl
def ZA6{d:Option Nat}{n c:Nat}{x:Arg}{r:List AOper}{fr:Fr}{h:Hp}:Z9 E (⟨d,.ldr n c x,none⟩::r) fr h=stw E r d fr (Zyn h n c<|ev E fr x):=
 X9 rfl (by
  simp only[Z8];generalize ev E fr x=v;cases v<;>first|rfl|skip
  case ptr b i off g=>
   rw[Zyo,Az];simp only[rowAt];cases h[b]? with
   |none=>rfl
   |some o=>
    cases o<;>first|rfl|skip
    case row sz es=>
     dsimp only;cases hg:(es.length==g)
     .rfl
     .simp only[cond_true,ldE];cases es[i]? with
      |none=>rfl
      |some e=>
       simp only[ZM];cases takeC (some n) (e.cells.drop off)with
       |none=>rfl
       |some u=>exact ZA5 h b c u)
attribute [go_sem] ZA4 Zyk Zyl Zym Zyo ZA6
mutual
def msz:AV->Nat
 | .agg cs=>1+QJ cs
 | .tup cs=>1+QJ cs
 | .clo _ a c=>1+QJ a+QJ c
 | .ifc _ v=>1+msz v
 |_=>1
def QJ:List AV->Nat
 |[]=>1
 |v::r=>1+msz v+QJ r
end
mutual
def Dn{h:Hp}:∀(n:Nat)(v:AV),Zy v=true->msz v<=n->freeze true h n v=some v
 |0,v,_,hm=>by cases v<;>simp[msz]at hm<;>omega
 |n+1,v,hn,hm=>by
  cases hc:clean v with
  |true=>unfold freeze;rw[hc];rfl
  |false=>
   unfold freeze;rw[hc,cond_false];cases v with
   |agg cs=>
    have:=Jb (h:=h) n cs hn<|by simp[msz]at hm;omega
    simp only[this,ZSt]
   |tup cs=>
    have:=Jb (h:=h) n cs hn<|by simp[msz]at hm;omega
    simp only[this,ZSt]
   |ifc t x=>
    have:=Dn (h:=h) n x hn<|by simp[msz]at hm;omega
    simp only[this,ZSt]
   |clo fn a c=>
    have hn':Zi a=true/\Zi c=true:=by simpa[Zy]using hn
    have h1:=Jb (h:=h) n a hn'.1<|by simp[msz]at hm;omega
    have h2:=Jb (h:=h) n c hn'.2<|by simp[msz]at hm;omega
    simp only[h1,h2]
   |iptr bw cs=>cases bw<;>first|rfl|(simp[clean]at hc)
   |isl bw ex sz es=>cases bw<;>first|rfl|(simp[clean]at hc)
   |imap bw ks vs=>cases bw<;>first|rfl|(simp[clean]at hc)
   |ptr b i off g=>simp[Zy]at hn
   |sl b g off len ex=>simp[Zy]at hn
   |mp b=>simp[Zy]at hn
   |it b=>simp[Zy]at hn
   |yld b=>simp[Zy]at hn
   |_=>simp[clean]at hc
def Jb{h:Hp}:∀(n:Nat)(v:List AV),Zi v=true->QJ v<=n->ZC true h n v=some v
 |0,v,_,hm=>by cases v<;>simp[QJ]at hm<;>omega
 |n+1,v,hn,hm=>by
  cases hc:Z4 v with
  |true=>unfold ZC;rw[hc];rfl
  |false=>
   unfold ZC;rw[hc,cond_false];cases v with
   |nil=>rfl
   |cons x r=>
    have hn':Zy x=true/\Zi r=true:=by simpa[Zi]using hn
    have h1:=Dn (h:=h) n x hn'.1<|by simp[QJ]at hm;omega
    have h2:=Jb (h:=h) n r hn'.2<|by simp[QJ]at hm;omega
    simp only[h1,h2]
end
def GQ(h:Hp)(l:List AV)(hn:Zi l=true)(hm:QJ l<=40):Ql h l=some l:=by
 unfold Ql;cases hc:Z4 l with
 |true=>rfl
 |false=>exact Jb 40 l hn hm
def Pn:QJ []=1:=(rfl)
def Po(v:AV)(r:List AV):QJ (v::r)=1+msz v+QJ r:=(rfl)
def Pp(cs:List AV):msz (.agg cs)=1+QJ cs:=(rfl)
def Pq(cs:List AV):msz (.tup cs)=1+QJ cs:=(rfl)
def Pr(fn:Fn)(a c:List AV):msz (.clo fn a c)=1+QJ a+QJ c:=(rfl)
def Ps(b:Bool):msz (.bool b)=1:=(rfl)
def Pu(k:IntKind)(n:Int):msz (.int k n)=1:=(rfl)
def Pv(s:ByteArray):msz (.str s)=1:=(rfl)
def Pw(bw ex:Bool)(sz:Nat)(es:List AV):msz (.isl bw ex sz es)=1:=(rfl)
def Px(bw:Bool)(es:List AV):msz (.iptr bw es)=1:=(rfl)
def Py(bw:Bool)(es vs:List AV):msz (.imap bw es vs)=1:=(rfl)
attribute [go_sem] Pn Po Pp Pq Pr Ps Pu Pv Pw Px Py
attribute [go_sem 1100] GQ
end Go.AM
namespace Go.AM
open Go
variable {E:Env}
def frV(fr:Fr):List AV:=fr.map (·.2)
def Pz(n:Nat):Zd n []=true:=(rfl)
def PA(n:Nat)(v:AV)(r:List AV):Zd n (v::r)=(bel n v&&Zd n r):=(rfl)
def PB(n:Nat):bel n .bot=true:=(rfl)
def PC(n:Nat)(b:Bool):bel n (.bool b)=true:=(rfl)
def PD(n:Nat)(k:IntKind)(i:Int):bel n (.int k i)=true:=(rfl)
def PE(n:Nat)(s:ByteArray):bel n (.str s)=true:=(rfl)
def PF(n:Nat)(bw ex:Bool)(sz:Nat)(es:List AV):bel n (.isl bw ex sz es)=true:=(rfl)
def PG(n:Nat)(bw:Bool)(es:List AV):bel n (.iptr bw es)=true:=(rfl)
def PH(n:Nat)(bw:Bool)(es vs:List AV):bel n (.imap bw es vs)=true:=(rfl)
def PI(n:Nat)(cs:List AV):bel n (.agg cs)=Zd n cs:=(rfl)
def PJ(n:Nat)(cs:List AV):bel n (.tup cs)=Zd n cs:=(rfl)
def PK(n:Nat)(t:TypeId)(v:AV):bel n (.ifc t v)=bel n v:=(rfl)
def PL(n:Nat):bel n .nilif=true:=(rfl)
def PM(n:Nat):bel n .nilp=true:=(rfl)
def PN(n:Nat):bel n .nilfn=true:=(rfl)
def PO(n:Nat)(fn:Fn)(a c:List AV):bel n (.clo fn a c)=(Zd n a&&Zd n c):=(rfl)
def PQ(n b i off g:Nat):bel n (.ptr b i off g)=Nat.blt b n:=(rfl)
def PR(n b g off len:Nat)(ex:Bool):bel n (.sl b g off len ex)=Nat.blt b n:=(rfl)
def PS(n b:Nat):bel n (.mp b)=Nat.blt b n:=(rfl)
def PT(n b:Nat):bel n (.it b)=Nat.blt b n:=(rfl)
def PU(n b:Nat):bel n (.yld b)=Nat.blt b n:=(rfl)
def PV(n sz:Nat)(es:List AV):Zj n (.row sz es)=Zd n es:=(rfl)
def PW(n:Nat)(ks vs:List AV):Zj n (.map ks vs)=(Zd n ks&&Zd n vs):=(rfl)
def PX(n:Nat)(s:ByteArray)(p:Nat):Zj n (.iter s p)=true:=(rfl)
def PY(n:Nat):Zj n .gone=true:=(rfl)
def PZ(n:Nat):Zj n .dead=true:=(rfl)
def Z00(n:Nat)(st:LoopState)(p:AExit)(fr:Fr)(ps:List Nat)(a b:ACode):Zj n (.loop st p fr ps a b)=Zd n (frV fr):=(rfl)
def Z01(n:Nat):X4 n []=true:=(rfl)
def Z02(n:Nat)(o:AObj)(r:List AObj):X4 n (o::r)=(Zj n o&&X4 n r):=(rfl)
def trimB(n:Nat)(h:Hp)(b:Bool):Hp:=bif b then h.take n else h
def Z03(n:Nat)(h:Hp):trimB n h true=h.take n:=(rfl)
def Z04(n:Nat)(h:Hp):trimB n h false=h:=(rfl)
def Z05:frV []=[]:=(rfl)
def Z06(t:Nat)(v:AV)(r:Fr):frV ((t,v)::r)=v::frV r:=(rfl)
def Z07(n:Nat)(fr:Fr)(o:AObj)(h:Hp):Xq n fr (o::h)=trimB n (o::h) (Zd n (frV fr)&&X4 n ((o::h).take n)):=(rfl)
mutual
def Dp{n:Nat}:∀v:AV,clean v=true->bel n v=true
 | .agg cs,h=>ZN cs h
 | .tup cs,h=>ZN cs h
 | .ifc _ v,h=>Dp v h
 | .clo _ a c,h=>by
  have h':Z4 a=true/\Z4 c=true:=by simpa[clean]using h
  simp only[bel,ZN a h'.1,ZN c h'.2,ZSJ]
 | .ptr ..,h| .sl ..,h| .mp _,h| .it _,h| .yld _,h=>by simp[clean]at h
 | .bot,_| .bool _,_| .int ..,_| .str _,_| .nilp,_| .nilsl,_| .nilmap,_| .nilfn,_| .nilif,_| .iptr ..,_| .isl ..,_| .imap ..,_=>rfl
def ZN{n:Nat}:∀l:List AV,Z4 l=true->Zd n l=true
 |[],_=>rfl
 |v::r,h=>by
  have h':clean v=true/\Z4 r=true:=by simpa[Z4]using h
  simp only[Zd,Dp v h'.1,ZN r h'.2,ZSJ]
end
attribute [go_sem] Pz PA PB PC PD PE PF PG PH PI PJ PK PL PM PN PO PQ PR PS PT PU PV PW PX PY PZ Z00 Z01 Z02
 Z03 Z04 Z05 Z06 Z07 ZTH List.take_zero List.take_nil ZSl ZT8 ZSf ZS9 ZSA ZT1 ZSr
def Z08(b:Bool):scalar (.bool b)=true:=(rfl)
def scalar_int(k:IntKind)(n:Int):scalar (.int k n)=true:=(rfl)
def Z09(s:ByteArray):scalar (.str s)=true:=(rfl)
def Z0a(bw ex:Bool)(sz:Nat)(es:List AV):scalar (.isl bw ex sz es)=true:=(rfl)
def Z0b(bw:Bool)(es:List AV):scalar (.iptr bw es)=true:=(rfl)
def Z0c(bw:Bool)(es vs:List AV):scalar (.imap bw es vs)=true:=(rfl)
def Z0d(fn:Fn)(a c:List AV):scalar (.clo fn a c)=true:=(rfl)
def Z0e(b i off g:Nat):scalar (.ptr b i off g)=true:=(rfl)
def Z0f(b g off len:Nat)(ex:Bool):scalar (.sl b g off len ex)=true:=(rfl)
def Z0g(b:Nat):scalar (.mp b)=true:=(rfl)
def Z0h:scalar .nilif=true:=(rfl)
def Z0i:scalar .nilp=true:=(rfl)
def Z0j:scalar .nilfn=true:=(rfl)
def Z0k(sz:Nat)(cs:List AV):fits sz (.agg cs)=(cs.length==sz&&cs.all scalar):=(rfl)
def fits_bool(sz:Nat)(b:Bool):fits sz (.bool b)=(sz==1):=(rfl)
def fits_int(sz:Nat)(k:IntKind)(n:Int):fits sz (.int k n)=(sz==1):=(rfl)
def Z0l(sz:Nat)(s:ByteArray):fits sz (.str s)=(sz==1):=(rfl)
def Z0m(sz:Nat)(bw ex:Bool)(z:Nat)(es:List AV):fits sz (.isl bw ex z es)=(sz==1):=(rfl)
def Z0n(sz:Nat)(b g off len:Nat)(ex:Bool):fits sz (.sl b g off len ex)=(sz==1):=(rfl)
def Z0o(sz:Nat)(b i off g:Nat):fits sz (.ptr b i off g)=(sz==1):=(rfl)
def Z0p(sz:Nat)(bw:Bool)(es:List AV):fits sz (.iptr bw es)=(sz==1):=(rfl)
def Z0q(sz:Nat)(b:Nat):fits sz (.mp b)=(sz==1):=(rfl)
def Z0r(sz:Nat)(fn:Fn)(a c:List AV):fits sz (.clo fn a c)=(sz==1):=(rfl)
attribute [go_sem] Z08 scalar_int Z09 Z0a Z0b Z0c Z0d Z0e Z0f Z0g Z0h Z0i Z0j Z0k fits_bool fits_int Z0l Z0m Z0n Z0o Z0p Z0q Z0r List.all_cons List.all_nil
 List.drop_succ_cons ZTA List.drop_nil
def Ue(a b:Nat):Nat.ble a b=decide (a<=b):=by rw[ZTD];simp
def N7(a b:Nat):Nat.blt a b=decide (a<b):=by rw[ZTD];simp[ZSK]
def Z0s(cs:List AV):fill cs []=some cs:=(rfl)
def Z0t(cs:List AV)(off sz:Nat)(v:AV)(r:List<|Nat×Nat×AV):fill cs ((off,sz,v)::r)=bif fits sz v&&Nat.ble (off+sz) cs.length then fill (cs.take off++v.cells++cs.drop (off+sz)) r else none:=(rfl)
def Z0u(sz:Nat)(cs:List AV):YC sz cs []=some cs:=(rfl)
def Z0v(sz:Nat)(cs:List AV)(i:Nat)(v:AV)(r:List<|Nat×AV):YC sz cs ((i,v)::r)=bif fits sz v&&Nat.blt i cs.length then YC sz (cs.set i v) r else none:=(rfl)
attribute [go_sem] Ue N7 Z0s Z0t Z0u Z0v List.set_cons_zero List.set_cons_succ List.set_nil List.replicate_succ List.replicate_zero
def Z0w(a1 a2:Bool)(r1 r2:List Nat)(k1 k2:Option<|AV×AV):Qy ⟨a1,r1,none,k1⟩ ⟨a2,r2,none,k2⟩=true:=(rfl)
def Z0x(a1 a2:Bool)(r1 r2:List Nat)(b:Nat)(k1 k2:Option<|AV×AV):Qy ⟨a1,r1,some b,k1⟩ ⟨a2,r2,none,k2⟩=(!a2&&!r2.contains b):=by simp[Qy]
def Z0y(a1 a2:Bool)(r1 r2:List Nat)(b:Nat)(k1 k2:Option<|AV×AV):Qy ⟨a1,r1,none,k1⟩ ⟨a2,r2,some b,k2⟩=(!a1&&!r1.contains b):=by simp[Qy]
def Z0z(a1 a2:Bool)(r1 r2:List Nat)(b c:Nat)(k1 k2:Option<|AV×AV):Qy ⟨a1,r1,some b,k1⟩ ⟨a2,r2,some c,k2⟩=((!a2&&!r2.contains b&&(!(c==b)||Kp ⟨a1,r1,some b,k1⟩ ⟨a2,r2,some c,k2⟩))&&(!a1&&!r1.contains c)):=(rfl)
attribute [go_sem] Z0w Z0x Z0y Z0z List.contains_cons List.contains_nil Bool.true_or Bool.or_true Bool.false_or Bool.or_false
noncomputable def Zg(E:Env)(live:List Nat)(b:ACode)(fr:Fr)(h:Hp):Option (AExit×Fr×Hp):=Zb E (.loop live b) fr h
def Z0A{live:List Nat}{b:ACode}{fr:Fr}{h:Hp}:Zb E (.loop live b) fr h=Zg E live b (Z2 live fr) h:=by
 unfold Zg;exact GF
attribute [go_sem] Z0A
def Yt{live:List Nat}{b:ACode}{fr fr':Fr}{h h':Hp}(hr:Z2 live fr=fr)(hc:Zb E b fr h=some (.normal,fr',h')):Zg E live b fr h=Zg E live b (Z2 live fr') h':=by
 unfold Zg;rw[J2,hr,hc,LH];exact GF
def Q7{live:List Nat}{b:ACode}{fr fr':Fr}{h h':Hp}{e:AExit}(hr:Z2 live fr=fr)(hc:Zb E b fr h=some (e,fr',h'))(he:e≠.normal):Zg E live b fr h=some (e,fr',h'):=by
 unfold Zg;rw[J2,hr,hc];cases e<;>first|exact absurd rfl he|rfl
def Z9Y{live:List Nat}{b:ACode}(n:Nat)(M:Nat->Fr->Hp->Prop)(Q:AExit->Fr->Hp->Prop)
 (hr:∀i fr h,M i fr h->Z2 live fr=fr)
 (step:∀i fr h,i<n->M i fr h->(∃fr' h',Zb E b fr h=some (.normal,fr',h')/\M (i+1) (Z2 live fr') h')\/(∃e fr' h',Zb E b fr h=some (e,fr',h')/\e≠.normal/\Q e fr' h'))
 (last:∀fr h,M n fr h->∃e fr' h',Zb E b fr h=some (e,fr',h')/\e≠.normal/\Q e fr' h'):
 ∀k i fr h,k+i=n->M i fr h->∃e fr' h',Zg E live b fr h=some (e,fr',h')/\Q e fr' h':=by
 intro k;induction k with
 |zero=>
  intro i fr h hi hm;have:i=n:=by omega
  subst this;obtain⟨e,fr',h',h1,h2,h3⟩:=last fr h hm;exact⟨e,fr',h',Q7 (hr _ _ _ hm) h1 h2,h3⟩
 |succ k ih=>
  intro i fr h hi hm;rcases step i fr h (by omega) hm with⟨fr',h',h1,h2⟩|⟨e,fr',h',h1,h2,h3⟩
  .obtain⟨e,fr2,h2',h4,h5⟩:=ih (i+1) _ h' (by omega) h2
   exact⟨e,fr2,h2',(Yt (hr _ _ _ hm) h1).trans h4,h5⟩
  .exact⟨e,fr',h',Q7 (hr _ _ _ hm) h1 h2,h3⟩
def Zu{α:Type}(P:Nat->α->Bool):Nat->List α->Bool
 |_,[]=>true
 |i,x::r=>P i x&&Zu P (i+1) r
def QE{α:Type}(P:α->Bool):∀(l:List α)(i:Nat),Zu (λ_ x=>P x) i l=l.all P
 |[],_=>rfl
 |x::r,i=>by simp only[Zu,ZSU,QE P r]
def Uf{α:Type}{live:List Nat}{b:ACode}{h:Hp}(l:List α)(P:Nat->α->Bool)(S:Nat->Fr)(out:Nat)(Q:Fr->Prop)
 (hr:∀i,Z2 live (S i)=S i)
 (good:∀i x,l[i]?=some x->P i x=true->∃fr',Zb E b (S i) h=some (.normal,fr',h)/\Z2 live fr'=S (i+1))
 (bad:∀i x,l[i]?=some x->P i x=false->∃fr',Zb E b (S i) h=some (.ret,fr',h)/\Q fr')
 (last:∃fr',Zb E b (S l.length) h=some (.exit out,fr',h)):
 ∃fr',Zg E live b (S 0) h=some (if Zu P 0 l=true then .exit out else .ret,fr',h)/\(Zu P 0 l=false->Q fr'):=by
 suffices H:∀(post pre:List α),l=pre++post->∃fr',Zg E live b (S pre.length) h=some (if Zu P pre.length post=true then .exit out else .ret,fr',h)/\(Zu P pre.length post=false->Q fr')from H l [] rfl
 intro post;induction post with
 |nil=>
  intro pre hp;obtain⟨fr',h1⟩:=last;have:l.length=pre.length:=by rw[hp];simp
  rw[this]at h1;exact⟨fr',by simpa[Zu]using Q7 (hr _) h1 (by simp),λh=>by simp[Zu]at h⟩
 |cons x post ih=>
  intro pre hp;have hx:l[pre.length]?=some x:=by rw[hp];simp
  cases hP:P pre.length x with
  |true=>
   obtain⟨fr1,h1,h2⟩:=good _ _ hx hP;obtain⟨fr',h3,h4⟩:=ih (pre++[x])<|by simp[hp]
   rw[ZSM,ZU5]at h3 h4;refine⟨fr',?_,?_⟩
   .rw[Yt (hr _) h1,h2,h3];simp only[Zu,hP,ZSS]
   .simpa only[Zu,hP,ZSS]using h4
  |false=>
   obtain⟨fr',h1,h2⟩:=bad _ _ hx hP;refine⟨fr',?_,λ_=>h2⟩
   rw[Q7 (hr _) h1<|by simp]
   simp[Zu,hP]
end Go.AM
namespace Go.AM
open Go
variable {E:Env}
def ghC(h:Hp)(b off s sz:Nat)(cs:List AV):Option AV->Option Hp
 |some .nilsl=>bif Nat.blt 0 s then some (setH h b (.row sz [.agg<|cs.set off<|.sl h.length 0 0 0 false])++[.row s []])else none
 |_=>none
def ZQB(h:Hp)(b off s sz:Nat)(cs:List AV):ghC h b off (s+1) sz cs (some .nilsl)=some (setH h b (.row sz [.agg<|cs.set off<|.sl h.length 0 0 0 false])++[.row (s+1) []]):=rfl
def ghP(h:Hp)(b off s:Nat):Option (Nat×List AV)->Option Hp
 |some (sz,[.agg cs])=>ghC h b off s sz cs cs[off]?
 |_=>none
def ZQC(h:Hp)(b off s sz:Nat)(cs:List AV):ghP h b off s (some (sz,[.agg cs]))=ghC h b off s sz cs cs[off]?:=rfl
def ghV(off s:Nat)(h:Hp):AV->Option Hp
 | .ptr b 0 0 1=>ghP h b off s<|rowAt h b 1
 |_=>none
def ZQD(off s:Nat)(h:Hp)(b:Nat):ghV off s h (.ptr b 0 0 1)=ghP h b off s (rowAt h b 1):=rfl
def ZQE{d off s:Nat}{fr:Fr}{h:Hp}:ghW d off s fr h=ghV off s h (get fr d):=by
 unfold ghW;generalize get fr d=v;unfold ghV;split
 .rename_i b;simp only[rowAt];cases h[b]? with
  |none=>rfl
  |some o=>
   cases o<;>first|rfl|skip
   case row sz es=>
    match es with
    |[]=>rfl
    |[e]=>cases e<;>rfl
    |e::e2::r=>
     have:((e::e2::r).length==1)=false:=by simp
     simp only[this,cond_false,ghP]
 .rename_i hne;split
  .rename_i b;exact(hne b rfl).elim
  .rfl
def ghN(fr:Fr):Option Hp->Option (AExit×Fr×Hp)
 |some h=>some (.normal,fr,h)
 |none=>none
def ZQF(fr:Fr)(h:Hp):ghN fr (some h)=some (.normal,fr,h):=rfl
def ZQG(d off s:Nat)(fr:Fr)(h:Hp):gh d off s (some (.normal,fr,h))=ghN fr (ghV off s h<|get fr d):=by
 rw[ZQo,ZQE];cases ghV off s h (get fr d)<;>rfl
def ZOF(h:Hp)(b:Nat):Option (Nat×List AV):=match h[b]? with|some (.row sz es)=>some (sz,es)|_=>none
def ZQH(sz:Nat)(es:List AV)(h:Hp):ZOF (.row sz es::h) 0=some (sz,es):=rfl
def ZQI(x:AObj)(h:Hp)(b:Nat):ZOF (x::h) (b+1)=ZOF h b:=rfl
def ZOG(h:Hp)(b:Nat):Option (List AV×List AV):=match h[b]? with|some (.map ks vs)=>some (ks,vs)|_=>none
def ZQJ(ks vs:List AV)(h:Hp):ZOG (.map ks vs::h) 0=some (ks,vs):=rfl
def ZQK(x:AObj)(h:Hp)(b:Nat):ZOG (x::h) (b+1)=ZOG h b:=rfl
def rcQ(b sz:Nat):Option (List AV)->Option (AV×Option (Nat×AObj))
 |some [e',v]=>some (v,some (b,.row sz [e']))
 |_=>none
def ZQL(b sz:Nat)(e' v:AV):rcQ b sz (some [e',v])=some (v,some (b,.row sz [e'])):=rfl
def rcP(s:List AV->Nat->List AV->Option (List AV))(r:List AV)(b:Nat):Option (Nat×List AV)->Option (Nat×List AV)->Option (List AV×List AV)->Option (AV×Option (Nat×AObj))
 |some (sz,[e]),some (sz2,es),some (ks,vs)=>bif Z4 ks&&Z4 vs then rcQ b sz (s (.ptr b 0 0 sz2::r) sz<|e::es)else none
 |_,_,_=>none
def ZQM(s:List AV->Nat->List AV->Option (List AV))(r:List AV)(b sz sz2:Nat)(e:AV)(es ks vs:List AV)(hc:(Z4 ks&&Z4 vs)=true):
 rcP s r b (some (sz,[e])) (some (sz2,es)) (some (ks,vs))=rcQ b sz (s (.ptr b 0 0 sz2::r) sz<|e::es):=by
 show(bif Z4 ks&&Z4 vs then _ else _)=_
 rw[hc];rfl
def ZQN(s:List AV->Nat->List AV->Option (List AV))(h:Hp)(b:Nat)(r:List AV):ZE8 s h (.ptr b 0 0 1::r)=rcP s r b (rowAt h b 1) (ZOF h<|b+1) (ZOG h<|b-1):=by
 unfold rowAt ZOF ZOG;simp only[ZE8];generalize h[b+1]?=o2;generalize h[b-1]?=o3;cases h[b]? with
 |none=>rfl
 |some o=>
  cases o<;>first|rfl|skip
  case row sz es=>
   match es with
   |[]=>rfl
   |[e]=>
    cases o2 with
    |none=>rfl
    |some o2=>
     cases o2<;>first|rfl|skip
     case row sz2 es2=>
      cases o3 with
      |none=>rfl
      |some o3=>cases o3<;>rfl
   |e::e2::t=>
    have:((e::e2::t).length==1)=false:=by simp
    simp only[this,cond_false,rcP]
def rdW(args:List AV):Option (AV×Option (Nat×AObj))->Option (AV×DRec×Option (Nat×AObj))
 |some r=>some (r.1,⟨false,ZEZ args,r.2.map (·.1),none⟩,r.2)
 |none=>none
def ZQO(args:List AV)(v:AV)(b:Nat)(o:AObj):rdW args (some (v,some (b,o)))=some (v,⟨false,ZEZ args,some b,none⟩,some (b,o)):=rfl
def ZQP(s:List AV->Nat->List AV->Option (List AV))(h:Hp)(args:List AV):rsD (some s) h args=rdW args (ZE8 s h args):=by
 show ZEn s h args=_
 unfold ZEn;cases ZE8 s h args<;>rfl
def ZQQ(b i o g:Nat)(r:List AV):ZEZ (.ptr b i o g::r)=[b,b+1,b-1]:=rfl
def ZHj(d:Option Nat)(r:List AOper)(u:List Nat)(us:List<|List Nat)(fr:Fr)(h:Hp)(recs:List DRec)(p:AV×DRec×Option (Nat×AObj)):
 rkw E d r u us fr h recs (some p)=okd recs u h p.2.1 p.2.2 (Zm E r us (ZB fr d p.1) (ZH h p.2.2)<|recs++[p.2.1]):=rfl
attribute [go_sem] ZQB ZQC ZQD ZQG ZQF ZQp ZQH ZQI ZQJ ZQK ZQL ZQM ZQN ZQO ZQP ZQQ ZHj ZL4
end Go.AM
namespace Go.AM
open Go
def ZvF(caps:List AV)(x:AV):Option (List Int):=match caps,x with
 |[.iptr _ [.isl _ _ 8 vs]],.agg [.int .i64 i,.int .i64 k]=>bif decide (0<=i)&&decide (0<=k)then(match vs[i.toNat]? with
  |some (.agg [.int .i64 au,.int .i64 nu,.int .i64 at',.str _,.isl _ _ 18 es,.int .i64 _,.isl _ _ _ _,.isl _ _ _ _])=>match es[k.toNat]? with
   |some (.agg<|_::.int .i64 day::_)=>some [day,at',au,nu,k]
   |_=>none
  |_=>none)else none
 |_,_=>none
def ZEf:AV->Option (List Int)
 | .agg [.str s,.int .i64 _,.int .i64 _]=>some<|s.data.toList.map λb=>(b.toNat:Int)
 |_=>none
def N8(f:Nat):Option (List AV->Hp->Option (AV×Hp)):=
 bif Nat.blt f 252 then(bif Nat.blt f 192 then(bif Nat.blt f 53 then(bif Nat.beq f 52 then some (Ja)else none)else(bif Nat.blt f 65 then(bif Nat.beq f 53 then some (ZOi)else none)else(bif Nat.beq f 65 then some (ZvW 66 2 ZvF)else none)))else(bif Nat.blt f 246 then(bif Nat.blt f 193 then(bif Nat.beq f 192 then some (U9)else none)else(bif Nat.beq f 193 then some (J6)else none))else(bif Nat.blt f 250 then(bif Nat.beq f 246 then some (J9)else none)else(bif Nat.beq f 250 then some (ZO8 2)else none))))else(bif Nat.blt f 264 then(bif Nat.blt f 258 then(bif Nat.blt f 257 then(bif Nat.beq f 252 then some (ZoZ 338)else none)else(bif Nat.beq f 257 then some (J7)else none))else(bif Nat.blt f 261 then(bif Nat.beq f 258 then some (J8)else none)else(bif Nat.beq f 261 then some (ZO8 6)else none)))else(bif Nat.blt f 272 then(bif Nat.blt f 269 then(bif Nat.beq f 264 then some (ZO8 5)else none)else(bif Nat.beq f 269 then some (ZO8 16)else none))else(bif Nat.blt f 275 then(bif Nat.beq f 272 then some (ZO8 4)else none)else(bif Nat.beq f 275 then some (ZO8 6)else none))))
def ZP6(f:Nat):Option (List AV->Hp->Option (AV×Hp)):=bif Nat.blt f 103 then(bif Nat.beq f 13 then some ZON else bif Nat.beq f 30 then some ZOt else bif Nat.beq f 43 then some (ZEo<|ZE7 44)else bif Nat.beq f 45 then some (ZEo<|ZEe 46 3 ZEf)else N8 f)else bif Nat.beq f 103 then some ZOu else bif Nat.beq f 111 then some ZOv else N8 f
def ZF1(f:Nat):Option (List AV->Nat->List AV->Option (List AV)):=bif Nat.beq f 43 then some (ZE7 44)else bif Nat.beq f 45 then some (ZEe 46 3 ZEf)else none
class REdz where
 hd:Option<|List AV->Hp->Option (AV×Hp)
def ZP7:List Int:=[0,1,56,2,57,49,28,3,61,58,42,50,38,29,17,4,62,47,59,36,45,43,51,22,53,39,33,30,24,18,12,5,63,55,48,27,60,41,37,16,46,35,44,21,52,32,23,11,54,26,40,15,34,20,31,10,25,14,19,9,13,8,7,6]
def glT(g:Nat):AV:=bif Nat.ble g 1 then .iptr false [.ifc 373 .bot]else bif Nat.beq g 2 then .iptr false (Go.Lib.pow10Tab.map<|.int .u64)else bif Nat.beq g 7 then .iptr false (ZP7.map<|.int .u8)else .bot
def ckS(k:Nat):List AV->Bool
 |[.iptr false [.clo (.func f) [] []]]=>Nat.beq f k
 |_=>false
def ZEm(caps:List AV)(x:AV):Option (List Int):=bif ckS 46 caps then ZEf x else none
def ZFE(f:Nat):Option (List AV->Hp->Option (AV×Hp)):=bif Nat.beq f 97 then some (ZEt 98<|ckS 44)else bif Nat.beq f 100 then some (ZvW 101 3 ZEm)else none
def e1:Env:={fn:=ZGw,gl:=glT,sum:=ZFE}
def rE[REdz]:Env:={fn:=N0,gl:=glT,sum:=λf=>bif Nat.beq f 8 then REdz.hd else ZP6 f,rs:=ZF1}
def Zp{α:Type}(p:α->Bool):List α->Int->Int
 |[],_=>-1
 |x::r,i=>bif p x then i else Zp p r<|i+1
def Yu(n:Option Nat)(e:AV):Prop:=clean e=true/\takeC n e.cells=some e
structure SL(α:Type) where
 bw:Bool:=false
 ex:Bool:=false
 l:List α
 deriving DecidableEq
structure NL(α:Type) where
 ex:Bool:=false
 l:List α
 deriving DecidableEq
abbrev Str:=ByteArray
structure Pt where
 X:Int
 Y:Int
 deriving DecidableEq
structure HN where
 N:Int
 Letter:Str
 Num:Int
 Den:Int
 deriving DecidableEq
structure Nm where
 Lang:Str
 Script:Int
 Text:Str
 deriving DecidableEq
structure Ent where
 Id:Str
 Number:HN
 Point:Pt
 deriving DecidableEq
structure Region where
 Id:Str
 Kind:Int
 Owner:Int
 Ring:NL Pt
 Names:NL Nm
 Ended:Int
structure Street where
 Id:Str
 Owner:Int
 Line:NL Pt
 Names:NL Nm
 Ended:Int
structure Building where
 Id:Str
 Owner:Int
 Ring:NL Pt
 Ended:Int
structure Door where
 Id:Str
 Building:Str
 Street:Str
 Owner:Int
 Number:HN
 Point:Pt
 From:Int
 Ended:Int
 After:NL Str
 Why:Int
 Office:Int
 Veil:Str
structure Unit' where
 Id:Str
 Door:Str
 Text:Str
 From:Int
 Ended:Int
 Why:Int
 deriving DecidableEq
structure Pair where
 a:Int
 b:Int
 deriving DecidableEq
structure State where
 Regions:SL Region
 Streets:SL Street
 Buildings:SL Building
 Doors:SL Door
 Units:SL Unit'
 Merged:SL Pair
 Rulings:SL Pair
structure Event where
 Kind:Int
 Day:Int
 A:Int
 B:Int
 Office:Int
 Id:Str
 Other:Str
 Text:Str
 Ids:NL Str
 Names:NL Nm
 Number:HN
 Point:Pt
 Path:NL Pt
 Lst:NL Ent
abbrev I(n:Int):AV:=.int .i64 n
def SL.enc{α:Type}(sz:Nat)(f:α->AV)(s:SL α):AV:=.isl s.bw s.ex sz<|s.l.map f
def NL.enc{α:Type}(sz:Nat)(f:α->AV)(s:NL α):AV:=.isl false s.ex sz<|s.l.map f
def Pt.enc(p:Pt):AV:=.agg [.int .i64 p.X,.int .i64 p.Y]
def HN.enc(n:HN):AV:=.agg [.int .i64 n.N,.str n.Letter,.int .i64 n.Num,.int .i64 n.Den]
def Nm.enc(n:Nm):AV:=.agg [.str n.Lang,.int .i64 n.Script,.str n.Text]
def Ent.enc(e:Ent):AV:=.agg [.str e.Id,.int .i64 e.Number.N,.str e.Number.Letter,.int .i64 e.Number.Num,.int .i64 e.Number.Den,.int .i64 e.Point.X,.int .i64 e.Point.Y]
def encS(s:Str):AV:=.str s
def Region.enc(x:Region):AV:=.agg [.str x.Id,.int .i64 x.Kind,.int .i64 x.Owner,x.Ring.enc 2 Pt.enc,x.Names.enc 3 Nm.enc,.int .i64 x.Ended]
def Street.enc(x:Street):AV:=.agg [.str x.Id,.int .i64 x.Owner,x.Line.enc 2 Pt.enc,x.Names.enc 3 Nm.enc,.int .i64 x.Ended]
def Building.enc(x:Building):AV:=.agg [.str x.Id,.int .i64 x.Owner,x.Ring.enc 2 Pt.enc,.int .i64 x.Ended]
def Door.enc(d:Door):AV:=.agg [.str d.Id,.str d.Building,.str d.Street,.int .i64 d.Owner,.int .i64 d.Number.N,.str d.Number.Letter,.int .i64 d.Number.Num,.int .i64 d.Number.Den,.int .i64 d.Point.X,.int .i64 d.Point.Y,
 .int .i64 d.From,.int .i64 d.Ended,d.After.enc 1 encS,.int .i64 d.Why,.int .i64 d.Office,.str d.Veil]
def Unit'.enc(u:Unit'):AV:=.agg [.str u.Id,.str u.Door,.str u.Text,.int .i64 u.From,.int .i64 u.Ended,.int .i64 u.Why]
def Pair.enc(p:Pair):AV:=.agg [.int .i64 p.a,.int .i64 p.b]
def State.cells(s:State):List AV:=[s.Regions.enc 6 Region.enc,s.Streets.enc 5 Street.enc,s.Buildings.enc 4 Building.enc,s.Doors.enc 16 Door.enc,s.Units.enc 6 Unit'.enc,s.Merged.enc 2 Pair.enc,s.Rulings.enc 2 Pair.enc]
def State.enc(s:State):AV:=.agg s.cells
def Event.cells(e:Event):List AV:=[.int .i64 e.Kind,.int .i64 e.Day,.int .i64 e.A,.int .i64 e.B,.int .i64 e.Office,.str e.Id,.str e.Other,.str e.Text,e.Ids.enc 1 encS,e.Names.enc 3 Nm.enc,
 .int .i64 e.Number.N,.str e.Number.Letter,.int .i64 e.Number.Num,.int .i64 e.Number.Den,.int .i64 e.Point.X,.int .i64 e.Point.Y,e.Path.enc 2 Pt.enc,e.Lst.enc 7 Ent.enc]
def Event.enc(e:Event):AV:=.agg e.cells
def Pt.el(p:Pt):Yu (some 2) p.enc:=⟨(rfl),(rfl)⟩
def Nm.el(p:Nm):Yu (some 3) p.enc:=⟨(rfl),(rfl)⟩
def Ent.el(p:Ent):Yu (some 7) p.enc:=⟨(rfl),(rfl)⟩
def Region.el(p:Region):Yu (some 6) p.enc:=⟨(rfl),(rfl)⟩
def Street.el(p:Street):Yu (some 5) p.enc:=⟨(rfl),(rfl)⟩
def Building.el(p:Building):Yu (some 4) p.enc:=⟨(rfl),(rfl)⟩
def Door.el(p:Door):Yu (some 16) p.enc:=⟨(rfl),(rfl)⟩
def Unit'.el(p:Unit'):Yu (some 6) p.enc:=⟨(rfl),(rfl)⟩
def Pair.el(p:Pair):Yu (some 2) p.enc:=⟨(rfl),(rfl)⟩
def NL.clean_enc{α:Type}(sz:Nat)(f:α->AV)(s:NL α):clean (s.enc sz f)=true:=(rfl)
def Event.clean_enc(e:Event):clean e.enc=true:=(rfl)
def Event.cleans_cells(e:Event):Z4 e.cells=true:=(rfl)
def State.noref_enc(s:State):Zy s.enc=true:=(rfl)
def NL.noref_enc{α:Type}(sz:Nat)(f:α->AV)(s:NL α):Zy (s.enc sz f)=true:=(rfl)
def SL.noref_enc{α:Type}(sz:Nat)(f:α->AV)(s:SL α):Zy (s.enc sz f)=true:=(rfl)
def Event.noref_enc(e:Event):Zy e.enc=true:=(rfl)
def State.norefs_cells(s:State):Zi s.cells=true:=(rfl)
def Event.norefs_cells(e:Event):Zi e.cells=true:=(rfl)
def NL.msz_enc{α:Type}(sz:Nat)(f:α->AV)(s:NL α):msz (s.enc sz f)=1:=(rfl)
def SL.msz_enc{α:Type}(sz:Nat)(f:α->AV)(s:SL α):msz (s.enc sz f)=1:=(rfl)
def State.msz_enc(s:State):msz s.enc=16:=by simp[State.enc,State.cells,msz,QJ,SL.msz_enc]
def Event.msz_enc(e:Event):msz e.enc=38:=by simp[Event.enc,Event.cells,msz,QJ,NL.msz_enc]
attribute [go_sem] NL.noref_enc SL.noref_enc Event.noref_enc State.norefs_cells Event.norefs_cells NL.msz_enc SL.msz_enc State.msz_enc Event.msz_enc NL.clean_enc Event.clean_enc Event.cleans_cells State.noref_enc
def Z6{α:Type}{f:α->AV}{l:List α}{i:Nat}{x:α}(h:l[i]?=some x):(l.map f)[i]?=some (f x):=by simp[h]
def Z7{α:Type}{l:List α}{i:Nat}{x:α}(h:l[i]?=some x):i<l.length:=(ZS7.1 h).1
def Zh{i n:Nat}(h:i<n):decide ((i:Int)<(n:Int))=true:=by simpa using h
def ZG(n:Nat):decide ((n:Int)<(n:Int))=false:=by simp
def cellV(h:Hp)(n:Option Nat):AV->Option AV
 | .ptr b i off g=>ldE n i off<|rowAt h b g
 | .iptr _ cs=>takeC n cs
 |_=>none
def Z0D(h:Hp)(n:Option Nat)(b i off g:Nat):cellV h n (.ptr b i off g)=ldE n i off (rowAt h b g):=rfl
def Z0E(h:Hp)(n:Option Nat)(bw:Bool)(cs:List AV):cellV h n (.iptr bw cs)=takeC n cs:=rfl
def Dq(fr:Fr)(h:Hp)(t:Nat)(n:Option Nat):WX fr h (.cell t n)=cellV h n (get fr t):=by
 simp only[WX,cellV];generalize get fr t=v;cases v<;>first|rfl|skip
 case ptr b i off g=>
  simp only[rowAt,ldE];cases h[b]? with
  |none=>rfl
  |some o=>
   cases o<;>first|rfl|skip
   case row sz es=>dsimp only;cases(es.length==g)<;>first|rfl|(simp only[cond_true];cases es[i]?<;>rfl)
def Z0F(fr:Fr)(h:Hp)(t:Nat)(n:Option Nat):QO fr h [.cell t n]=cellV h n (get fr t):=by
 simp only[QO,YD,Dq];cases cellV h n (get fr t)<;>rfl
attribute [go_sem] Z0D Z0E Z0F
abbrev W(n:Int):Int:=IntKind.i64.wrap n
def st1(off:Nat):List AV->Option AV
 |[c]=>bif off==0 then some c else none
 |_=>none
def Z0G(off:Nat)(c:AV):st1 off [c]=bif off==0 then some c else none:=rfl
def Z0H(off n:Nat)(v:AV)(k:IntKind)(m:Int):stE off n v (.int k m)=st1 off v.cells:=rfl
def Z0I(off n:Nat)(v:AV)(b:Bool):stE off n v (.bool b)=st1 off v.cells:=rfl
def Z0J(off n:Nat)(v:AV)(s:ByteArray):stE off n v (.str s)=st1 off v.cells:=rfl
def Z0K(off n:Nat)(v:AV)(bw ex:Bool)(sz:Nat)(es:List AV):stE off n v (.isl bw ex sz es)=st1 off v.cells:=rfl
def Z0L(off n:Nat)(v:AV)(b g o l:Nat)(ex:Bool):stE off n v (.sl b g o l ex)=st1 off v.cells:=rfl
attribute [go_sem] Z0G Z0H Z0I Z0J Z0K Z0L
def Ug:Option AV->Option (List AV)->Option (List AV)
 |some v,some vs=>some<|v::vs
 |_,_=>none
def Z0M(v:AV)(vs:List AV):Ug (some v) (some vs)=some (v::vs):=rfl
def GS:Option (List AV)->Option AV
 |some [v]=>some v
 |some vs=>some<|.tup vs
 |none=>none
def Z0N(v:AV):GS (some [v])=some v:=rfl
def Z0O(v w:AV)(vs:List AV):GS (some<|v::w::vs)=some (.tup<|v::w::vs):=rfl
def Z0P(fr:Fr)(h:Hp)(rs:List ResVar):QO fr h rs=GS (YD fr h rs):=by
 unfold QO GS;rcases YD fr h rs with _|(_|⟨a,_|⟨b,l⟩⟩)<;>rfl
def Z0Q(fr:Fr)(h:Hp):YD fr h []=some []:=rfl
def Z0R(fr:Fr)(h:Hp)(r:ResVar)(rs:List ResVar):YD fr h (r::rs)=Ug (WX fr h r) (YD fr h rs):=by
 simp only[YD,Ug];cases WX fr h r<;>cases YD fr h rs<;>rfl
def Z0S(fr:Fr)(h:Hp)(t:Nat):WX fr h (.tmp t)=some (get fr t):=rfl
attribute [go_sem] Z0M Z0N Z0O Z0Q Z0R Z0S Dq
attribute [go_sem 900] Z0P
def Z0T(n:Nat)(a b:List AV):Zd n (a++b)=(Zd n a&&Zd n b):=by
 induction a with
 |nil=>simp[Zd]
 |cons x a ih=>simp[Zd,ih,ZTG]
def Z0U{a b:List AV}:Zi (a++b)=(Zi a&&Zi b):=by
 induction a with
 |nil=>simp[Zi]
 |cons x a ih=>simp[Zi,ih,ZTG]
attribute [go_sem] Z0T Z0U XA
def N9:Option (List AV)->Option AV
 |some vs=>some<|.tup vs
 |none=>none
def Z0V(vs:List AV):N9 (some vs)=some (.tup vs):=rfl
def GT(bw ex:Bool)(sz:Nat):Option (List AV)->Option AV
 |some vs=>some<|.isl bw ex sz vs
 |none=>none
def Z0W(bw ex:Bool)(sz:Nat)(vs:List AV):GT bw ex sz (some vs)=some (.isl bw ex sz vs):=rfl
def GU(bw:Bool):Option (List AV)->Option AV
 |some vs=>some<|.iptr bw vs
 |none=>none
def Z0X(bw:Bool)(vs:List AV):GU bw (some vs)=some (.iptr bw vs):=rfl
def Z0Y{bw:Bool}{h:Hp}{n:Nat}{l:List AV}(hc:Z4 l=true):ZC bw h (n+1) l=some l:=by
 unfold ZC;rw[hc];rfl
def Z0Z{bw:Bool}{h:Hp}{n:Nat}{v:AV}(hc:clean v=true):freeze bw h (n+1) v=some v:=by
 unfold freeze;rw[hc];rfl
def Z10(bw:Bool)(h:Hp)(n:Nat)(v:AV)(r:List AV)(hc:Z4 (v::r)=false):ZC bw h (n+1) (v::r)=Ug (freeze bw h n v) (ZC bw h n r):=by
 conv=>lhs;unfold ZC
 rw[hc,cond_false];simp only[Ug];cases freeze bw h n v<;>cases ZC bw h n r<;>rfl
def Z11(bw:Bool)(h:Hp)(n:Nat)(cs:List AV)(hc:Z4 cs=false):freeze bw h (n+1) (.tup cs)=N9 (ZC bw h n cs):=by
 conv=>lhs;unfold freeze
 have:clean (.tup cs)=false:=hc;rw[this,cond_false];simp only[N9];cases ZC bw h n cs<;>rfl
def Z12(bw:Bool)(h:Hp)(n:Nat)(cs:List AV)(hc:Z4 cs=false):freeze bw h (n+1) (.agg cs)=U7 (ZC bw h n cs):=by
 conv=>lhs;unfold freeze
 have:clean (.agg cs)=false:=hc;rw[this,cond_false];simp only[U7];cases ZC bw h n cs<;>rfl
def Na(bw:Bool)(h:Hp)(n off len:Nat)(ex:Bool):Option (Nat×List AV)->Option AV
 |some (sz,es)=>GT bw (bw&&ex) sz<|ZC bw h n<|(es.drop off).take len
 |none=>none
def Z13(bw:Bool)(h:Hp)(n off len:Nat)(ex:Bool)(sz:Nat)(es:List AV):Na bw h n off len ex (some (sz,es))=GT bw (bw&&ex) sz (ZC bw h n<|(es.drop off).take len):=rfl
def Z14(bw:Bool)(h:Hp)(n b g off len:Nat)(ex:Bool):freeze bw h (n+1) (.sl b g off len ex)=Na bw h n off len ex (rowAt h b g):=by
 conv=>lhs;unfold freeze
 simp only[clean,cond_false,rowAt,Na];cases h[b]? with
 |none=>rfl
 |some o=>
  cases o<;>first|rfl|skip
  case row sz es=>
   dsimp only;cases(es.length==g)
   .rfl
   .simp only[cond_true,GT];cases ZC bw h n ((es.drop off).take len)<;>rfl
def GV(bw:Bool)(h:Hp)(n off:Nat):Option AV->Option AV
 |some e=>GU bw<|ZC bw h n<|e.cells.drop off
 |none=>none
def Z15(bw:Bool)(h:Hp)(n off:Nat)(e:AV):GV bw h n off (some e)=GU bw (ZC bw h n<|e.cells.drop off):=rfl
def Nb(bw:Bool)(h:Hp)(n i off:Nat):Option (Nat×List AV)->Option AV
 |some (_,es)=>GV bw h n off es[i]?
 |none=>none
def Z16(bw:Bool)(h:Hp)(n i off sz:Nat)(es:List AV):Nb bw h n i off (some (sz,es))=GV bw h n off es[i]?:=rfl
def Z17(bw:Bool)(h:Hp)(n b i off g:Nat):freeze bw h (n+1) (.ptr b i off g)=Nb bw h n i off (rowAt h b g):=by
 conv=>lhs;unfold freeze
 simp only[clean,cond_false,rowAt,Nb];cases h[b]? with
 |none=>rfl
 |some o=>
  cases o<;>first|rfl|skip
  case row sz es=>
   dsimp only;cases(es.length==g)
   .rfl
   .simp only[cond_true,GV];cases es[i]? with
    |none=>rfl
    |some e=>simp only[GU];cases ZC bw h n (e.cells.drop off)<;>rfl
attribute [go_sem] Z0V Z0W Z0X Z10 Z11 Z12 Z13 Z14 Z15 Z16 Z17
attribute [go_sem 1100] Z0Y Z0Z
def XC{h:Hp}{b g sz bytes:Nat}{es ys:List AV}{bw ex fz:Bool}(hr:rowAt h b g=some (sz,es))(hy:ys.isEmpty=false)(hf:ys.all (fits sz)=true)(h0:0<sz)(h1:0<bytes)(h2:(g+ys.length)*bytes<=140737488355328):
 appW h fz sz bytes (.sl b g 0 g false) (.isl bw ex sz ys)=some (.sl b (g+ys.length) 0 (g+ys.length) false,setH h b<|.row sz<|es++ys):=by
 unfold rowAt at hr;cases hb:h[b]? with
 |none=>rw[hb]at hr;cases hr
 |some o=>
  rw[hb]at hr;cases o with
  |row sz' es'=>
   dsimp only at hr;cases hg:(es'.length==g)with
   |false=>rw[hg]at hr;cases hr
   |true=>
    rw[hg]at hr;simp only[cond_true,Option.some.injEq,Prod.mk.injEq]at hr;obtain⟨rfl,rfl⟩:=hr;have hl:es'.length=g:=by simpa using hg
    have ht:List.take g es'=es':=ZSX<|by omega
    subst hl;simp only[appW,Qt,Q2,hb,hg,cond_true,ZTA,ht,Qq,beq_self_eq_true,Bool.true_or,h0,h1,h2,and_self,if_true,hy,cond_false,ZM,ZH,hf,ZSJ]
  |_=>cases hr
def Y8{E:Env}{live:List Nat}{b:ACode}(n:Nat)(S:Nat->Fr)(H:Nat->Hp)(hr:∀i,Z2 live (S i)=S i)
 (step:∀i,i<n->∃fr',Zb E b (S i) (H i)=some (.normal,fr',H<|i+1)/\Z2 live fr'=S (i+1))
 {e:AExit} {fr:Fr} {h:Hp} (last:Zb E b (S n) (H n)=some (e,fr,h)) (he:e≠.normal):Zg E live b (S 0) (H 0)=some (e,fr,h):=by
 suffices G:∀k i,k+i=n->Zg E live b (S i) (H i)=some (e,fr,h)from G n 0<|by omega
 intro k;induction k with
 |zero=>
  intro i hi;have:i=n:=by omega
  subst this;exact Q7 (hr _) last he
 |succ k ih=>
  intro i hi;obtain⟨fr',h1,h2⟩:=step i<|by omega
  rw[Yt (hr _) h1,h2];exact ih (i+1)<|by omega
def ZDU{E:Env}{α:Type}{live:List Nat}{b:ACode}{h:Hp}(l:List α)(P:α->Bool)(S:Nat->Fr)(out:Nat)(Q:Nat->Fr->Prop)
 (hr:∀i,Z2 live (S i)=S i)
 (good:∀i x,l[i]?=some x->P x=false->∃fr',Zb E b (S i) h=some (.normal,fr',h)/\Z2 live fr'=S (i+1))
 (hit:∀i x,l[i]?=some x->P x=true->∃fr',Zb E b (S i) h=some (.ret,fr',h)/\Q i fr')
 (last:∃fr',Zb E b (S l.length) h=some (.exit out,fr',h)):
 ∃fr',Zg E live b (S 0) h=some (if Zp P l 0=-1 then .exit out else .ret,fr',h)/\(Zp P l 0≠-1->∃i:Nat,Zp P l 0=(i:Int)/\Q i fr'):=by
 suffices G:∀(post pre:List α),l=pre++post->∃fr',Zg E live b (S pre.length) h=some (if Zp P post pre.length=-1 then .exit out else .ret,fr',h)/\(Zp P post pre.length≠-1->∃i:Nat,Zp P post pre.length=(i:Int)/\Q i fr')from G l [] rfl
 intro post;induction post with
 |nil=>
  intro pre hp;obtain⟨fr',h1⟩:=last;have:l.length=pre.length:=by rw[hp];simp
  rw[this]at h1;exact⟨fr',by simpa[Zp]using Q7 (hr _) h1 (by simp),λh=>by simp[Zp]at h⟩
 |cons x post ih=>
  intro pre hp;have hx:l[pre.length]?=some x:=by rw[hp];simp
  cases hP:P x with
  |false=>
   obtain⟨fr1,h1,h2⟩:=good _ _ hx hP;obtain⟨fr',h3,h4⟩:=ih (pre++[x])<|by simp[hp]
   have e:((pre++[x]).length:Int)=(pre.length:Int)+1:=by simp
   rw[e]at h3 h4;rw[ZSM,ZU5]at h3;refine⟨fr',?_,?_⟩
   .rw[Yt (hr _) h1,h2,h3];simp only[Zp,hP,cond_false]
   .simpa only[Zp,hP,cond_false]using h4
  |true=>
   obtain⟨fr',h1,h2⟩:=hit _ _ hx hP;have e:Zp P (x::post) pre.length=(pre.length:Int):=by simp[Zp,hP]
   have ne:((pre.length:Int)=-1)=False:=by simp
   refine⟨fr',?_,λ_=>⟨pre.length,e,h2⟩⟩
   rw[Q7 (hr _) h1 (by simp),e]
   simp only[ne,if_false]
def Z19(a:AObj)(b:Bool):trimB 1 [a] b=[a]:=by cases b<;>rfl
def Z1a(a a':AObj)(b:Bool):trimB 2 [a,a'] b=[a,a']:=by cases b<;>rfl
def Z1b(a a' a'':AObj)(b:Bool):trimB 3 [a,a',a''] b=[a,a',a'']:=by cases b<;>rfl
attribute [go_sem] decide_true decide_false Bool.not_true Bool.not_false Bool.true_and Bool.false_and Bool.and_true Bool.and_false List.getElem?_cons_zero List.getElem?_cons_succ List.length_append Option.map_none Option.map_some
variable [REdz]
structure Seg where
 a:Pt
 b:Pt
 v:Pt
def Seg.enc(s:Seg):AV:=.agg [I s.a.X,I s.a.Y,I s.b.X,I s.b.Y,I s.v.X,I s.v.Y]
def WG{α:Type}(P:α->Bool)(l:List α):Bool:=decide (Zp P l 0>=0)
def Vg{α:Type}(P:α->Bool)(l:List α):WG P l=l.any P:=by
 suffices H:∀(l:List α)(i:Int),0<=i->decide (Zp P l i>=0)=l.any P from H l 0<|by omega
 intro l;induction l with
 |nil=>intro i hi;simp[Zp]
 |cons x r ih=>
  intro i hi;simp only[Zp,List.any_cons];by_cases h:P x=true
  .simp[h,hi]
  .simp only[ZTJ]at h;simpa[h]using ih (i+1)<|by omega
def Vj(s:Str)(i:Nat):Int:=((s.data[i]?).map λb=>((b.toNat:Nat):Int)).getD 0
attribute [go_sem] Z19 Z1a Z1b
@[irreducible] def Qj:List AV:=List.replicate 256<|.int .i64 0
def VY:Qj.length=256:=by unfold Qj;exact ZU1
def GY:Qj.all scalar=true:=by
 unfold Qj;rw[ZSe];intro x hx;rw[ZTM hx];rfl
def VZ(l:List AV)(b:Nat)(c:Int):List AV:=l.take b++[I c]++l.drop (b+1)
def ZT(c:Int)(bs:List UInt8)(l:List AV):List AV:=bs.foldl (λl b=>VZ l b.toNat c) l
def Z1r{l:List AV}{b:Nat}(c:Int)(h:b<l.length):(VZ l b c).length=l.length:=by
 simp[VZ];omega
def XG(c:Int):∀(bs:List UInt8)(l:List AV),l.length=256->(ZT c bs l).length=256
 |[],l,h=>h
 |b::r,l,h=>by
  have hb:b.toNat<256:=b.toNat_lt;exact XG c r _<|by rw[Z1r c<|by omega];exact h
def Z1s(s:Str)(c:Int)(l0:List AV)(h0:l0.length=256)(hs:s.data.size<1000000):
 fnV rE 189 [.str s,I c,.ptr 1 0 0 1] [.row 256 [.agg Qj],.row 256 [.agg l0]]=some (.tup [],[.row 256 [.agg Qj],.row 256 [.agg<|ZT c s.data.toList l0]]):=by
 have L:=Y8 (E:=rE) (live:=[0,1,2,5]) (b:=c189L0b) s.size (λi=>[(0,.str s),(1,I c),(2,.ptr 1 0 0 1),(5,I i)]) (λi=>[.row 256 [.agg Qj],.row 256 [.agg<|ZT c (s.data.toList.take i) l0]]) (λi=>rfl)
  (λi hi=>by
   have hi0:i<s.data.size:=hi;have hi':=Zh hi;have hw:=Zx (n:=i)<|by omega
   have hg:s.data[i]?=some s.data[i]:=by simp[hi0]
   have hn:((i:Int)).toNat=i:=rfl;have e1:s.data.toList.take (i+1)=s.data.toList.take i++[s.data[i]]:=by
    rw[List.take_add_one];congr 1;simp[hi0]
   have e2:ZT c (s.data.toList.take<|i+1) l0=VZ (ZT c (s.data.toList.take i) l0) s.data[i].toNat c:=by
    rw[e1];simp[ZT]
   rw[e2];have hl:=XG c (s.data.toList.take i) l0 h0;generalize ZT c (s.data.toList.take i) l0=l at hl⊢;generalize s.data[i]=b at hg⊢;have hb:b.toNat<256:=b.toNat_lt;have hb':(0<=((b.toNat:Nat):Int)/\((b.toNat:Nat):Int)<((256:Nat):Int))=True:=by simp;omega
   have hbn:(((b.toNat:Nat):Int)).toNat=b.toNat:=rfl;have hle:decide (b.toNat+1<=l.length)=true:=decide_eq_true<|by omega
   have hi0':(0<=(i:Int))=True:=by simp
   refine⟨_,by simp only[go_sem,c189L0b,hi',hi0',hw,hn,hg,hb',hbn,hle,if_true,ZSt,ZSa,ZTp];rfl,?_⟩
   simp only[go_sem])
  (e:=.exit 0) (by simp only[go_sem,c189L0b,ZG];rfl) (by simp)
 have L':Zg rE [0,1,2,5] c189L0b [(0,.str s),(1,I c),(2,.ptr 1 0 0 1),(5,.int .i64 0)] [.row 256 [.agg Qj],.row 256 [.agg l0]]=_:=L;rw[Q6 (f:=189) rfl rfl];have e3:s.data.toList.take s.size=s.data.toList:=by
  apply ZSX;exact Nat.le_of_eq<|ZSm
 rw[e3]at L';simp only[go_sem,c189,c189L0,L']
def WH(l:List UInt8)(c:Int)(l0:List AV)(hl:l.length<100)(h0:l0.length=256):
 fnV rE 189 [.str<|B l,I c,.ptr 1 0 0 1] [.row 256 [.agg Qj],.row 256 [.agg l0]]=some (.tup [],[.row 256 [.agg Qj],.row 256 [.agg<|ZT c l l0]]):=
 Z1s (B l) c l0 h0 (Nat.lt_trans hl<|by decide)
def Um:List UInt8:=[97,98,99,100,101,102,103,104,105,106,107,108,109,110,111,112,113,114,115,116,117,118,119,120,121,122,65,66,67,68,69,70,71,72,73,74,75,76,77,78,79,80,81,82,83,84,85,86,87,88,89,90]
def Qe:List AV:=ZT 9 [59,44,46,58,40,41,91,93,123,125,61,43,45]<|ZT 8 [60,62]<|ZT 7 [33]<|ZT 6 [34]<|ZT 2 [35]<|ZT 1 [32,9,10]<|ZT 5 [95]<|ZT 4 [48,49,50,51,52,53,54,55,56,57]<|ZT 3 Um Qj
def DB:ACode:=
 .seq (.region [o 3<|.mkf (.func 189) [] [(.t 1)],
  o 2 (.mv<|.t 3)])<|
.seq (.region [o 4<|.mv<|.t 2,
 o 5 (.callv false (.t 4) [(.c<|.str<|B Um),(.c<|.int .i64 3)])])<|
.seq (.region [o 6<|.mv<|.t 2,
 o 7 (.callv false (.t 6) [(.c<|.str<|B [48,49,50,51,52,53,54,55,56,57]),(.c<|.int .i64 4)])])<|
.seq (.region [o 8<|.mv<|.t 2,
 o 9 (.callv false (.t 8) [(.c<|.str<|B [95]),(.c<|.int .i64 5)])])<|
.seq (.region [o 10<|.mv<|.t 2,
 o 11 (.callv false (.t 10) [(.c<|.str<|B [32,9,10]),(.c<|.int .i64 1)])])<|
.seq (.region [o 12<|.mv<|.t 2,
 o 13 (.callv false (.t 12) [(.c<|.str<|B [35]),(.c<|.int .i64 2)])])<|
.seq (.region [o 14<|.mv<|.t 2,
 o 15 (.callv false (.t 14) [(.c<|.str<|B [34]),(.c<|.int .i64 6)])])<|
.seq (.region [o 16<|.mv<|.t 2,
 o 17 (.callv false (.t 16) [(.c<|.str<|B [33]),(.c<|.int .i64 7)])])<|
.seq (.region [o 18<|.mv<|.t 2,
 o 19 (.callv false (.t 18) [(.c<|.str<|B [60,62]),(.c<|.int .i64 8)])])<|
.seq (.region [o 20<|.mv<|.t 2,
 o 21 (.callv false (.t 20) [(.c<|.str<|B [59,44,46,58,40,41,91,93,123,125,61,43,45]),(.c<|.int .i64 9)])])<|
.seq (.region [o 22<|.load (some 256)<|.t 1,
 ⟨none,.store 256 (.t 0)<|.t 22,none⟩])<|
.ret
def GZ:ACode:=.seq (.region [o 0<|.box 256<|.c<|.agg Qj])<|.seq (.region [o 1<|.box 256<|.c<|.agg Qj]) DB
def c108_eq:c108=GZ:=by
 unfold GZ Qj;kernel_rfl
def W9(c:Int):∀(bs:List UInt8)(l:List AV),l.all scalar=true->(ZT c bs l).all scalar=true
 |[],l,h=>h
 |b::r,l,h=>by
  refine W9 c r _ ?_;simp only[VZ,List.all_append,ZSU,List.all_nil,scalar_int,ZSu,ZS5];rw[ZSe]at h⊢;exact⟨λx hx=>h x<|ZT6 hx,ZSe.2 λx hx=>h x<|ZTx hx⟩
def cl0:List AV:=ZT 3 Um Qj
def Nn:cl0.length=256:=XG _ _ _ VY
def DC:cl0.all scalar=true:=W9 _ _ _ GY
def Z1t:ZT 3 Um Qj=cl0:=rfl
def cl1:List AV:=ZT 4 [48,49,50,51,52,53,54,55,56,57] cl0
def Np:cl1.length=256:=XG _ _ _ Nn
def DD:cl1.all scalar=true:=W9 _ _ _ DC
def Z1u:ZT 4 [48,49,50,51,52,53,54,55,56,57] cl0=cl1:=rfl
def cl2:List AV:=ZT 5 [95] cl1
def Nq:cl2.length=256:=XG _ _ _ Np
def DE:cl2.all scalar=true:=W9 _ _ _ DD
def Z1v:ZT 5 [95] cl1=cl2:=rfl
def cl3:List AV:=ZT 1 [32,9,10] cl2
def Nr:cl3.length=256:=XG _ _ _ Nq
def DF:cl3.all scalar=true:=W9 _ _ _ DE
def Z1w:ZT 1 [32,9,10] cl2=cl3:=rfl
def cl4:List AV:=ZT 2 [35] cl3
def Ns:cl4.length=256:=XG _ _ _ Nr
def DG:cl4.all scalar=true:=W9 _ _ _ DF
def Z1x:ZT 2 [35] cl3=cl4:=rfl
def cl5:List AV:=ZT 6 [34] cl4
def Nt:cl5.length=256:=XG _ _ _ Ns
def DH:cl5.all scalar=true:=W9 _ _ _ DG
def Z1y:ZT 6 [34] cl4=cl5:=rfl
def cl6:List AV:=ZT 7 [33] cl5
def Nu:cl6.length=256:=XG _ _ _ Nt
def DI:cl6.all scalar=true:=W9 _ _ _ DH
def Z1z:ZT 7 [33] cl5=cl6:=rfl
def cl7:List AV:=ZT 8 [60,62] cl6
def Nv:cl7.length=256:=XG _ _ _ Nu
def DJ:cl7.all scalar=true:=W9 _ _ _ DI
def Z1A:ZT 8 [60,62] cl6=cl7:=rfl
def cl8:List AV:=ZT 9 [59,44,46,58,40,41,91,93,123,125,61,43,45] cl7
def Nw:cl8.length=256:=XG _ _ _ Nv
def DK:cl8.all scalar=true:=W9 _ _ _ DJ
def Z1B:ZT 9 [59,44,46,58,40,41,91,93,123,125,61,43,45] cl7=cl8:=rfl
def Z1C:Qe=cl8:=rfl
def Ny:Qe.length=256:=Nw
def DL:Qe.all scalar=true:=DK
def Z1D{l:List AV}(h:l.length=256):List.take 256 l=l:=ZSX<|by omega
def DM{l:List AV}(h:l.length=256):List.drop 256 l=[]:=List.drop_of_length_le<|by omega
def Wa(c:Int):∀(bs:List UInt8)(l:List AV),Z4 l=true->Z4 (ZT c bs l)=true
 |[],l,h=>h
 |b::r,l,h=>by
  refine Wa c r _ ?_;have h2:Z4 (l.take b.toNat)=true/\Z4 (l.drop b.toNat)=true:=by
   rw[<-ZS5,<-XA,ZSG];exact h
  have h3:Z4 (l.drop<|b.toNat+1)=true:=by
   cases hd:l.drop b.toNat with
   |nil=>have:l.drop (b.toNat+1)=[]:=by rw[<-ZSR,hd];rfl
         rw[this];rfl
   |cons x t=>have:l.drop (b.toNat+1)=t:=by rw[<-ZSR,hd];rfl
              rw[this];have:=h2.2;rw[hd]at this;simp[Z4]at this;exact this.2
  simp only[VZ,XA,h2.1,h3,N1,Dk,Dj,ZSJ]
def DN:Z4 Qj=true:=by unfold Qj;kernel_rfl
def Un:Z4 Qe=true:=by
 unfold Qe;exact Wa _ _ _<|Wa _ _ _<|Wa _ _ _<|Wa _ _ _<|Wa _ _ _<|Wa _ _ _<|Wa _ _ _<|Wa _ _ _<|Wa _ _ _ DN
def DO:pfn rE 108 []=some (.agg Qe):=by
 have hz:List.take 256 cl8=cl8:=Z1D Nw;have hz2:List.drop 256 Qj=[]:=DM VY;have hc:Z4 cl8=true:=Un;have f0:=WH Um 3 Qj (by decide) VY
 have f1:=WH [48,49,50,51,52,53,54,55,56,57] 4 cl0 (by decide) Nn
 have f2:=WH [95] 5 cl1 (by decide) Np
 have f3:=WH [32,9,10] 1 cl2 (by decide) Nq
 have f4:=WH [35] 2 cl3 (by decide) Nr
 have f5:=WH [34] 6 cl4 (by decide) Ns
 have f6:=WH [33] 7 cl5 (by decide) Nt
 have f7:=WH [60,62] 8 cl6 (by decide) Nu
 have f8:=WH [59,44,46,58,40,41,91,93,123,125,61,43,45] 9 cl7 (by decide) Nv
 rw[Z5 (f:=108) (c:=GZ) rfl (by rw[<-c108_eq];rfl),Z1C]
 simp only[go_sem,GZ,DB,VY,GY,RL,f0,f1,f2,f3,f4,f5,f6,f7,f8,Nw,DK,Z1t,Z1u,Z1v,Z1w,Z1x,Z1y,Z1z,Z1A,Z1B,hz,hz2,hc,ZT9]
def isI(v:AV):Bool:=match v with| .int .i64 _=>true|_=>false
def Z1E{v:AV}(h:isI v=true):∃n,v=I n:=by
 cases v with
 |int k n=>cases k<;>first|exact⟨n,rfl⟩|simp[isI]at h
 |_=>simp[isI]at h
def Wb(c:Int):∀(bs:List UInt8)(l:List AV),l.all isI=true->(ZT c bs l).all isI=true
 |[],l,h=>h
 |b::r,l,h=>by
  refine Wb c r _ ?_;simp only[VZ,List.all_append,ZSU,List.all_nil,ZSu,ZS5];rw[ZSe]at h;exact⟨⟨ZSe.2 λx hx=>h x<|ZT6 hx,rfl⟩,ZSe.2 λx hx=>h x<|ZTx hx⟩
def Z1F:Qe.all isI=true:=by
 have hz:Qj.all isI=true:=by
  unfold Qj;rw[ZSe];intro x hx;rw[ZTM hx];rfl
 unfold Qe;exact Wb _ _ _<|Wb _ _ _<|Wb _ _ _<|Wb _ _ _<|Wb _ _ _<|Wb _ _ _<|Wb _ _ _<|Wb _ _ _<|Wb _ _ _ hz
def intOf(v:AV):Int:=match v with| .int _ n=>n|_=>0
def K1(k:Nat):Int:=intOf<|Qe.getD k .bot
def Z1G{k:Nat}(h:k<256):Qe.drop k=I (K1 k)::Qe.drop (k+1):=by
 have hk:k<Qe.length:=by rw[Ny];exact h
 rw[ZTu hk];have h1:=ZSe.1 Z1F _<|ZTe hk;obtain⟨n,hn⟩:=Z1E h1;have:K1 k=n:=by
  unfold K1;rw[List.getD,ZSb hk,hn];rfl
 rw[this,hn]
def Xc(s:Str)(i:Nat):Nat:=(s.data.getD i 0).toNat
def atT(s:Str)(i:Nat):Int:=bif decide ((i:Int)>=(s.size:Int))then 0 else K1<|Xc s i
def DP(s:Str)(i:Nat):Xc s i<256:=UInt8.toNat_lt _
def DQ{s:Str}{i:Nat}(h:i<s.size):s.data[i]?=some (s.data.getD i 0):=by
 have h':i<s.data.size:=h;have e:s.data[i]?=some s.data[i]:=ZSk h';rw[ZSh,e];rfl
def H0(s:Str)(i:Nat):pfn rE 191 [.iptr true<|.str s::Qe,I i]=some (I<|atT s i):=by
 rw[Z5 (f:=191) rfl rfl];unfold atT;cases hc:decide ((i:Int)>=(s.size:Int))with
 |true=>simp only[go_sem,c191,hc]
 |false=>
  have hi:i<s.size:=by have:=of_decide_eq_false hc;omega
  have hg:=DQ hi;have h0:(0<=(i:Int))=True:=by simp
  have hn:((i:Int)).toNat=i:=rfl;have hb:=DP s i;have hd:=Z1G hb;have hb':(0<=((Xc s i:Nat):Int)/\((Xc s i:Nat):Int)<((256:Nat):Int))=True:=by simp;omega
  have hbn:(((Xc s i:Nat):Int)).toNat=Xc s i:=rfl;have e:(s.data.getD i 0).toNat=Xc s i:=rfl;simp only[go_sem,c191,hc,h0,hn,hg,if_true,ZSt,e,hb',hbn,ZTp,hd]
def Jj(n:Option Nat)(sz:Nat)(q:AOp):ACode:=
 .keep [0,1,4,7,8]<|.seq (.region [o 9<|.bin .lss (.t 8)<|.t 7])<|
  .seq (.cond (.t 9) (.skip)<|.exit 0)<|
  .seq (.keep [0,1,4,7,8]<|.block 1<|
   .seq (.region [o 10<|.mv<|.t 8,o 5<|.mv<|.t 10])<|
   .seq (.keep [0,1,5,7,8,16]<|.region [o 11<|.mv<|.t 1,o 12<|.mv<|.t 0,o 13<|.mv<|.t 5,o 14<|.iadr sz (.t 12)<|.t 13,o 15<|.load n<|.t 14,o 16 q])<|
   .cond (.t 16) (.seq (.region [o 17<|.mv<|.t 5,o 4<|.mv<|.t 17])<|.ret) (.skip))<|
  .region [o 18<|.bin .add (.t 8)<|.c<|.int .i64 1,o 8<|.mv<|.t 18]
def ixC(n:Option Nat)(sz:Nat)(q:AOp):ACode:=
 .seq (.region [o 4<|.mv<|.c<|.int .i64 0])<|
 .seq (.seq (.keep [0,1,7,8]<|.region [o 6<|.mv<|.t 0,o 7<|.len 1<|.t 6,o 8<|.mv<|.c<|.int .i64 0])<|
 .keep [4]<|.block 0<|.loop [0,1,7,8]<|Jj n sz q)<|
 .seq (.region [o 4<|.mv<|.c<|.int .i64<|-1])<|
 .ret
def Nz{α:Type}{f:Nat}{enc:α->AV}{p:α->Bool}{v:AV}(hs:rE.sum f=none)(hf:rE.fn f=some ⟨[.tmp 4],ixC none 1<|.bin .eql (.t 11)<|.t 15⟩)(l:List α)(hl:l.length<=4611686018427387904)
 (henc:∀x∈l,(enc x).cells=[enc x]) (hv:clean v=true) (hp:∀x∈l,YZ .eql v (enc x)=some (.bool<|p x)) (bw ex:Bool):pfn rE f [.isl bw ex 1<|l.map enc,v]=some (I<|Zp p l 0):=by
 have L:=ZDU (E:=rE) (live:=[0,1,7,8]) (b:=Jj none 1<|.bin .eql (.t 11)<|.t 15) (h:=[]) l p (λi=>[(0,.isl bw ex 1<|l.map enc),(1,v),(7,I l.length),(8,I i)]) 0 (λi fr=>get fr 4=I i) (λi=>rfl)
  (λi x hx hP=>by
   have hg:=Z6 (f:=enc) hx;have hi:=Zh<|Z7 hx;have hw:=Zx (n:=i) (by have:=Z7 hx;omega)
   have hm:=ZSN hx;have he:=henc x hm;have hq:=hp x hm;rw[hP]at hq;simp only[go_sem]at hq;refine⟨_,by simp only[go_sem,Jj,hg,hi,hw,he,hq];rfl,?_⟩
   simp only[go_sem])
  (λi x hx hP=>by
   have hg:=Z6 (f:=enc) hx;have hi:=Zh<|Z7 hx;have hm:=ZSN hx;have he:=henc x hm;have hq:=hp x hm;rw[hP]at hq;simp only[go_sem]at hq;refine⟨_,by simp only[go_sem,Jj,hg,hi,he,hq];rfl,?_⟩
   simp only[go_sem])
  (⟨_,by simp only[go_sem,Jj,ZG];rfl⟩)
 obtain⟨fr',h1,h2⟩:=L;have h1':Zg rE [0,1,7,8] (Jj none 1<|.bin .eql (.t 11)<|.t 15) [(0,.isl bw ex 1<|l.map enc),(1,v),(7,I l.length),(8,.int .i64 0)] []=_:=h1;rw[Z5 (f:=f) hs hf];by_cases hc:Zp p l 0=-1
 .rw[hc]at h1'⊢;simp only[go_sem,ixC,h1']
 .obtain⟨i,hi,hq⟩:=h2 hc;rw[if_neg hc]at h1';simp only[go_sem,ixC,h1',hq,hi]
def DR(l:List Int)(ex:Bool)(v:Int)(hl:l.length<=1000000):pfn rE 135 [.isl false ex 1<|l.map I,I v]=some (.bool<|l.any<|λx=>v==x):=by
 have h:=Nz (f:=254) (enc:=I) (p:=λx=>v==x) (v:=I v) rfl rfl l (by omega) (λx _=>rfl) rfl (λx _=>rfl) false ex
 rw[Z5 (f:=135) rfl rfl,<-Vg];unfold WG;simp only[go_sem,c135,h]
def Xd(s:Str)(cs:List Int):Nat->Nat->Nat
 |0,i=>i
 |k+1,i=>bif decide ((i:Int)<(s.size:Int))&&cs.any (λx=>atT s i==x)then Xd s cs k (i+1)else i
def ZI(s:Str)(cs:List Int)(i:Nat):Nat:=Xd s cs (s.size-i) i
def NA(s:Str)(cs:List Int):∀k i,i<=Xd s cs k i/\Xd s cs k i<=i+k
 |0,i=>by simp[Xd]
 |k+1,i=>by
  unfold Xd;cases decide ((i:Int)<(s.size:Int))&&cs.any (λx=>atT s i==x)with
  |true=>have:=NA s cs k<|i+1;simp only[cond_true];omega
  |false=>simp
def K2(s:Str)(cs:List Int)(i:Nat):i<=ZI s cs i:=(NA s cs _ i).1
def K3(s:Str)(cs:List Int){i:Nat}(h:i<=s.size):ZI s cs i<=s.size:=by
 have:=(NA s cs (s.size-i) i).2;unfold ZI;omega
def NB(s:Str)(cs:List Int){i:Nat}(h:i<s.size):ZI s cs i=bif cs.any (λx=>atT s i==x)then ZI s cs (i+1)else i:=by
 unfold ZI;have e:s.size-i=(s.size-(i+1))+1:=by omega
 rw[e,Xd];have:decide ((i:Int)<(s.size:Int))=true:=Zh h;rw[this,ZSS]
def H1(s:Str)(cs:List Int)(i:Nat)(hs:s.size<=1000000)(hi:i<=s.size)(hc:cs.length<=1000):pfn rE 190 [.iptr true<|.str s::Qe,I i,.isl false false 1<|cs.map I]=some (I<|ZI s cs i):=by
 have L:∀k i,s.size-i=k->i<=s.size->Zg rE [0,1,2] c190L0b [(0,.iptr true<|.str s::Qe),(1,I i),(2,.isl false false 1<|cs.map I)] []=some (.exit 0,[(0,.iptr true<|.str s::Qe),(1,I (Xd s cs k i:Nat)),(2,.isl false false 1<|cs.map I)],[]):=by
  intro k;induction k with
  |zero=>
   intro i hk hi;have:i=s.size:=by omega
   subst this;exact Q7 rfl (by simp only[go_sem,c190L0b,ZG];rfl) (by simp)
  |succ k ih=>
   intro i hk hi;have hlt:decide ((i:Int)<(s.size:Int))=true:=Zh<|by omega
   have ha:=H0 s i;have hh:=DR cs false (atT s i)<|by omega
   have hw:=Zx (n:=i)<|by omega
   unfold Xd;rw[hlt,ZSS];cases hb:cs.any (λx=>atT s i==x)with
   |true=>
    rw[hb]at hh;rw[cond_true,<-ih (i+1) (by omega) (by omega)]
    refine(Yt rfl (by simp only[go_sem,c190L0b,hlt,ha,hh,hw];rfl)).trans ?_
    simp only[go_sem]
   |false=>
    rw[hb]at hh;rw[cond_false];exact Q7 rfl (by simp only[go_sem,c190L0b,hlt,ha,hh]) (by simp)
 have L':=L _ i rfl hi;rw[Z5 (f:=190) rfl rfl];unfold ZI;simp only[go_sem,c190,c190L0,L']
def nlB(c:UInt8):Bool:=((c.toNat:Nat):Int)==10
def Wd(s:Str)(i:Nat):Int:=Yc nlB (s.extract i s.size).data.toList 0
def K4(s:Str):Nat->Nat->Nat
 |0,i=>i
 |k+1,i=>bif atT s i==2 then(bif decide (Wd s i<0)then s.size else K4 s k<|ZI s [1]<|i+(Wd s i).toNat)else i
def YP(s:Str)(i:Nat):Nat:=K4 s (s.size+1)<|ZI s [1] i
def H2(p:UInt8->Bool):∀(l:List UInt8)(k:Nat),Yc p l k=-1\/∃j:Nat,Yc p l k=((k+j:Nat):Int)/\j<l.length/\∃c,l[j]?=some c/\p c=true
 |[],k=>Or.inl rfl
 |c::r,k=>by
  unfold Yc;cases hp:p c with
  |true=>right;exact⟨0,by simp,by simp,c,by simp,hp⟩
  |false=>
   rw[cond_false];have e:(k:Int)+1=((k+1:Nat):Int):=by omega
   rw[e];rcases H2 p r (k+1)with h|⟨j,h1,h2,c2,h3,h4⟩
   .exact Or.inl h
   .right;refine⟨j+1,?_,by simp;omega,c2,by simpa using h3,h4⟩
    rw[h1];omega
def ext_list(s:Str)(i j:Nat):(s.extract i j).data.toList=(s.data.toList.drop i).take (j-i):=by
 rw[ByteArray.data_extract,Array.toList_extract,List.extract_eq_take_drop]
def Z1H(s:Str)(i:Nat):Wd s i=-1\/∃j:Nat,Wd s i=(j:Int)/\i+j<s.size/\Xc s (i+j)=10:=by
 unfold Wd;rcases H2 nlB (s.extract i s.size).data.toList 0 with h|⟨j,h1,h2,c,h3,h4⟩
 .exact Or.inl h
 .right;rw[ext_list]at h2 h3;have hsz:s.data.toList.length=s.size:=ZSm;refine⟨j,by exact h1.trans (by simp),?_,?_⟩
  .simp at h2;have:s.data.size=s.size:=rfl;omega
  .have h5:s.data.toList[i+j]?=some c:=by
    rw[List.getElem?_take,ZTh]at h3;split at h3
    .exact h3
    .cases h3
   have h6:s.data[i+j]?=some c:=by simpa using h5
   have:Xc s (i+j)=c.toNat:=by unfold Xc;rw[ZSh,h6];rfl
   rw[this];have:((c.toNat:Nat):Int)=10:=by simpa[nlB]using h4
   omega
def Z1I:K1 10=1:=by unfold K1 Qe Qj;kernel_rfl
def Z1J{s:Str}{i:Nat}(h:i<s.size)(hb:Xc s i=10):atT s i=1:=by
 unfold atT;have:decide ((i:Int)>=(s.size:Int))=false:=decide_eq_false<|by omega
 rw[this,cond_false,hb,Z1I]
def DS{i n:Nat}(h:i<=n):bounds (some<|I i) none none n=some (i,n,none):=by
 simp[bounds,Vz,Wl,VA,numOf,VB,Ue,h]
def DT{i n:Nat}(h:i<=n):bounds none (some<|I i) none n=some (0,i,none):=by
 simp[bounds,Vz,Wl,VA,numOf,VB,Ue,h]
def Uo{i j n:Nat}(h:i<=j)(h2:j<=n):bounds (some<|I i) (some<|I j) none n=some (i,j,none):=by
 simp[bounds,Vz,Wl,VA,numOf,VB,Ue,h,h2]
def Z1K(s:Str):pfn rE 192 [.str s,.int .u8 10]=some (I<|Yc (λx=>(x.toNat:Int)==10) s.data.toList 0):=by
 unfold pfn;rw[V8 (s:=U9) rfl];rfl
def DU(s:Str)(i:Nat)(hs:s.size<=1000000)(hi:i<=s.size):pfn rE 109 [.iptr true<|.str s::Qe,I i]=some (I<|YP s i)/\YP s i<=s.size/\i<=YP s i:=by
 have L:∀k i,s.size+1-i<=k->i<=s.size->∃e fr',Zg rE [0,1] c109L0b [(0,.iptr true<|.str s::Qe),(1,I i)] []=some (e,fr',[])/\((e=.exit 0/\get fr' 1=I (K4 s k i))\/(e=.ret/\get fr' 4=I (K4 s k i)))/\K4 s k i<=s.size/\i<=K4 s k i:=by
  intro k;induction k with
  |zero=>intro i hk hi;omega
  |succ k ih=>
   intro i hk hi;have ha:=H0 s i;unfold K4;cases h2:atT s i==2 with
   |false=>
    rw[cond_false];refine⟨_,_,Q7 rfl (by simp only[go_sem,c109L0b,ha,h2];rfl) (by simp),Or.inl ⟨rfl,?_⟩,hi,ZS6 _⟩
    simp only[go_sem]
   |true=>
    have hlt:i<s.size:=by
     cases hd:decide ((i:Int)>=(s.size:Int))with
     |false=>have:=of_decide_eq_false hd;omega
     |true=>unfold atT at h2;rw[hd]at h2;simp at h2
    have hbd:=DS (i:=i) (n:=s.size) hi;have hib:=Z1K<|s.extract i s.size;have hib':pfn rE 192 [.str<|s.extract i s.size,.int .u8 10]=some (I<|Wd s i):=hib;rw[cond_true];rcases Z1H s i with hn|⟨j,hn,hj,hb⟩
    .have hneg:decide (Wd s i<0)=true:=by rw[hn];rfl
     rw[hneg,cond_true];refine⟨_,_,Q7 rfl (by simp only[go_sem,c109L0b,ha,h2,hbd,hib',hneg];rfl) (by simp),Or.inr ⟨rfl,?_⟩,ZS6 _,hi⟩
     simp only[go_sem]
    .have hneg:decide (Wd s i<0)=false:=by rw[hn];exact decide_eq_false (by omega)
     rw[hneg,cond_false];have e1:(Wd s i).toNat=j:=by rw[hn];rfl
     rw[e1];have hw:IntKind.i64.wrap ((i:Int)+Wd s i)=((i+j:Nat):Int):=by rw[hn,YM (by omega)<|by omega];omega
     have hwh:pfn rE 190 [.iptr true<|.str s::Qe,I (i+j:Nat),.isl false false 1 [I 1]]=some (I<|ZI s [1]<|i+j):=H1 s [1] (i+j) hs (by omega)<|by simp
     have hge:i+j+1<=ZI s [1] (i+j):=by
      rw[NB s [1] hj];have:([1]:List Int).any (λx=>atT s (i+j)==x)=true:=by simp[Z1J hj hb]
      rw[this,cond_true];exact K2 s [1]<|i+j+1
     have hle:=K3 s [1] (i:=i+j)<|by omega
     generalize hwt:ZI s [1] (i+j)=w at hwh hge hle⊢;obtain⟨e,fr',h3,h4,h5,h6⟩:=ih w (by omega) hle
     refine⟨e,fr',?_,h4,h5,by omega⟩
     rw[<-h3];refine(Yt rfl (by simp only[go_sem,c109L0b,ha,h2,hbd,hib',hneg,hw,hwh];rfl)).trans ?_
     simp only[go_sem]
 have hwh:pfn rE 190 [.iptr true<|.str s::Qe,I i,.isl false false 1 [I 1]]=some (I<|ZI s [1] i):=H1 s [1] i hs hi<|by simp
 have hge:=K2 s [1] i;have hle:=K3 s [1] hi;obtain⟨e,fr',h1,h2,h3,h4⟩:=L (s.size+1) (ZI s [1] i) (by omega) hle
 refine⟨?_,h3,by unfold YP;omega⟩
 rw[Z5 (f:=109) rfl rfl];unfold YP;rcases h2 with⟨rfl,h2⟩|⟨rfl,h2⟩<;>simp only[go_sem,c109,c109L0,hwh,h1,h2]
def Xe(s p:Str):Bool:=decide ((s.size:Int)>=(p.size:Int))&&Z3 (s.extract 0 p.size) p
def Z1L(s p:Str):pfn rE 116 [.str s,.str p]=some (.bool<|Xe s p):=by
 have h:pfn rE 207 [.str s,.str p]=some (.bool<|Xe s p):=by
  rw[Z5 (f:=207) rfl rfl];unfold Xe;cases hc:decide ((s.size:Int)>=(p.size:Int))with
  |false=>simp only[go_sem,c207,hc]
  |true=>
   have hb:=DT (i:=p.size) (n:=s.size) (by have:=of_decide_eq_true hc;omega)
   simp only[go_sem,c207,hc,hb]
 rw[Z5 (f:=116) rfl rfl];simp only[go_sem,c116,h]
def qnB(c:UInt8):Bool:=[34,10].any (·==c)
def Z1M(s:Str)(hs:s.size<4294967281):pfn rE 193 [.str s,.str<|B [34,10]]=some (I<|Yc qnB s.data.toList 0):=by
 have e:J6 [.str s,.str<|B [34,10]] []=some (.int .i64<|Yc qnB s.data.toList 0,[]):=by
  have hb:Nat.blt s.size 4294967281=true:=ZT2 hs;show(bif (Nat.blt s.size 4294967281&&_)then some _ else none)=_
  rw[hb];rfl
 unfold pfn;rw[V8 (s:=J6) rfl,e];rfl
def NC(s:Str):Int:=J4 s.data.toList 0
def H3(s:Str):Bool:=s.data.toList.all W6&&(!s.data.toList.isEmpty&&Nat.ble s.size 18)
def Z1N(s:Str)(h:H3 s=true):pfn rE 53 [.str s]=some (.tup [I<|NC s,.nilif]):=by
 have e:ZOi [.str s] []=some (.tup [I<|NC s,.nilif],[]):=by
  unfold H3 at h;show(bif (s.data.toList.all W6&&(!s.data.toList.isEmpty&&Nat.ble s.size 18))then some _ else _)=_
  rw[h];rfl
 unfold pfn;rw[V8 (s:=ZOi) rfl,e];rfl
def Z1O:∀k:Fin 256,K1 k.val=4->48<=k.val/\k.val<=57:=by decide +kernel
def Z1P{s:Str}{i:Nat}(h:atT s i=4):i<s.size/\W6 (s.data.getD i 0)=true:=by
 unfold atT at h;cases c:decide ((i:Int)>=(s.size:Int))with
 |true=>rw[c]at h;cases h
 |false=>
  rw[c,cond_false]at h;have h1:=of_decide_eq_false c;obtain⟨h2,h3⟩:=Z1O ⟨Xc s i,DP s i⟩ h;refine⟨by omega,?_⟩
  unfold W6;rw[ZS5];exact⟨decide_eq_true h2,decide_eq_true h3⟩
def DV(s:Str):∀k i j,i<=j->j<Xd s [4] k i->atT s j=4
 |0,i,j,h1,h2=>by rw[Xd]at h2;omega
 |k+1,i,j,h1,h2=>by
  rw[Xd]at h2;cases c:decide ((i:Int)<(s.size:Int))&&[4].any (λx=>atT s i==x)with
  |false=>rw[c,cond_false]at h2;omega
  |true=>
   rw[c,cond_true]at h2;by_cases e:i=j
   .subst e;rw[ZS5]at c;simpa using c.2
   .exact DV s k (i+1) j (by omega) h2
def Z1Q(s:Str)(i:Nat)(hi:i<s.size)(hs:s.size<=1000000)(h4:(atT s i==4)=true)(h13:decide (W ((ZI s [4] i:Int)-(i:Int))>13)=false):H3 (s.extract i<|ZI s [4] i)=true:=by
 have hge:=K2 s [4] i;have hle:=K3 s [4] (i:=i)<|by omega
 have hgt:i<ZI s [4] i:=by
  rw[NB s [4] hi];have:[4].any (λx=>atT s i==x)=true:=by simpa using h4
  rw[this,cond_true];exact K2 s [4]<|i+1
 have hW:W ((ZI s [4] i:Int)-(i:Int))=(ZI s [4] i:Int)-(i:Int):=YM (by omega)<|by omega
 rw[hW]at h13;have h13':=of_decide_eq_false h13;have hsz:(s.extract i<|ZI s [4] i).size=ZI s [4] i-i:=by
  rw[ByteArray.size_extract];omega
 have hlen:(s.extract i<|ZI s [4] i).data.toList.length=ZI s [4] i-i:=by
  rw[<-hsz];exact ZSm
 unfold H3;simp only[ZS5];refine⟨?_,?_,ZT2<|by omega⟩
 .rw[ZSe];intro b hb;obtain⟨m,hm⟩:=ZTv.1 hb;have hml:m<ZI s [4] i-i:=by rw[<-hlen];exact(ZS7.1 hm).1
  have h5:=Z1P<|DV s (s.size-i) i (i+m) (by omega)<|by unfold ZI at hml;omega
  have h6:s.data[i+m]?=some b:=by
   have h7:(s.extract i<|ZI s [4] i).data[m]?=some b:=by
    rw[<-ZSQ];exact hm
   rw[ByteArray.data_extract,Array.getElem?_extract]at h7;split at h7
   .exact h7
   .cases h7
  have h8:s.data.getD (i+m) 0=b:=by
   rw[ZSh,h6];rfl
  rw[h8]at h5;exact h5.2
 .cases h:(s.extract i<|ZI s [4] i).data.toList with
  |nil=>rw[h]at hlen;simp at hlen;omega
  |cons a r=>rfl
structure Tok where
 Kind:Int
 At:Int
 N:Int
 Text:Str
def Tok.enc(t:Tok):AV:=.agg [I t.Kind,I t.At,I t.N,.str t.Text]
def Yw:Tok:=⟨0,0,0,emp⟩
structure Nx where
 tok:Tok
 stop:Int
 err:Int
abbrev ZX(s:Str)(i j:Nat):Str:=s.extract i j
def quN(s:Str)(i:Nat):Int:=Yc qnB (ZX s (i+1) s.size).data.toList 0
def H4(s:Str)(i:Nat):Bool:=decide (quN s i<0)||Vj (ZX s (i+1) s.size) (quN s i).toNat==10
def We(s:Str)(i:Nat):Nx:=
 bif atT s i==3 then
  (bif decide (W ((ZI s [3,4,5] i:Int)-(i:Int))>24)then⟨Yw,0,2⟩else⟨⟨1,i,0,ZX s i<|ZI s [3,4,5] i⟩,ZI s [3,4,5] i,0⟩)
 else bif atT s i==4 then
  (bif decide (W ((ZI s [4] i:Int)-(i:Int))>13)||(atT s (ZI s [4] i)==3||atT s (ZI s [4] i)==5)then⟨Yw,0,4⟩
   else⟨⟨2,i,NC<|ZX s i<|ZI s [4] i,ZX s i<|ZI s [4] i⟩,ZI s [4] i,0⟩)
 else bif atT s i==6 then
  (bif H4 s i then⟨Yw,0,6⟩else bif decide (quN s i>400)then⟨Yw,0,2⟩else⟨⟨3,i,0,ZX (ZX s (i+1) s.size) 0 (quN s i).toNat⟩,i+(quN s i).toNat+2,0⟩)
 else bif atT s i==7||atT s i==8 then
  (bif Xe (ZX s (i+1) s.size) (B [61])then⟨⟨4,i,0,ZX s i<|i+2⟩,i+2,0⟩else bif atT s i==7 then⟨Yw,0,3⟩else⟨⟨4,i,0,ZX s i<|i+1⟩,i+1,0⟩)
 else bif atT s i==9 then⟨⟨4,i,0,ZX s i<|i+1⟩,i+1,0⟩
 else⟨Yw,0,3⟩
def Nx.val(n:Nx):AV:=.tup [.agg [I n.tok.Kind,I n.tok.At,I n.tok.N,.str n.tok.Text],I n.stop,I n.err]
def Z1R(s:Str)(i:Nat)(hs:s.size<=1000000)(hi:i<s.size):pfn rE 110 [.iptr true<|.str s::Qe,I i]=some (We s i).val:=by
 have ha:=H0 s i;have hw1:IntKind.i64.wrap ((i:Int)+1)=(i:Int)+1:=YM (by omega)<|by omega
 have hw2:IntKind.i64.wrap ((i:Int)+2)=(i:Int)+2:=YM (by omega)<|by omega
 have e1:((i:Int)+1)=((i+1:Nat):Int):=by omega
 have e2:((i:Int)+2)=((i+2:Nat):Int):=by omega
 have hb1:bounds (some<|I<|(i:Int)+1) none none s.size=some (i+1,s.size,none):=by rw[e1];exact DS<|by omega
 have hb3:bounds (some<|I i) (some<|I<|(i:Int)+1) none s.size=some (i,i+1,none):=by rw[e1];exact Uo (by omega)<|by omega
 rw[Z5 (f:=110) rfl rfl];unfold We;cases c5003:atT s i==3 with
 |true=>
  have hwh:pfn rE 190 [.iptr true<|.str s::Qe,I i,.isl false false 1 [I 3,I 4,I 5]]=some (I<|ZI s [3,4,5] i):=H1 s [3,4,5] i hs (by omega)<|by simp
  have hb:=Uo (n:=s.size) (K2 s [3,4,5] i)<|K3 s [3,4,5]<|by omega
  cases c:decide (W ((ZI s [3,4,5] i:Int)-(i:Int))>24)<;>simp only[go_sem,c110,ha,c5003,hwh,c,hb,Nx.val,Yw,ZX]
 |false=>
 cases c5004:atT s i==4 with
 |true=>
  have hwh:pfn rE 190 [.iptr true<|.str s::Qe,I i,.isl false false 1 [I 4]]=some (I<|ZI s [4] i):=H1 s [4] i hs (by omega)<|by simp
  have hb:=Uo (n:=s.size) (K2 s [4] i)<|K3 s [4]<|by omega
  have ha2:=H0 s<|ZI s [4] i;cases c:decide (W ((ZI s [4] i:Int)-(i:Int))>13)with
  |true=>simp only[go_sem,c110,ha,c5003,c5004,hwh,c,ha2,Nx.val,Yw]
  |false=>
  cases d3:atT s (ZI s [4] i)==3 with
  |true=>simp only[go_sem,c110,ha,c5003,c5004,hwh,c,ha2,d3,Nx.val,Yw]
  |false=>
  cases d5:atT s (ZI s [4] i)==5 with
  |true=>simp only[go_sem,c110,ha,c5003,c5004,hwh,c,ha2,d3,d5,Nx.val,Yw]
  |false=>
   have hat:=Z1N _<|Z1Q s i hi hs c5004 c;simp only[go_sem,c110,ha,c5003,c5004,hwh,c,ha2,d3,d5,hb,hat,Nx.val,ZX]
 |false=>
 cases c5006:atT s i==6 with
 |true=>
  have hia:pfn rE 193 [.str<|s.extract (i+1) s.size,.str<|B [34,10]]=some (I<|quN s i):=Z1M _<|by rw[ByteArray.size_extract];omega
  unfold H4;cases d1:decide (quN s i<0)with
  |true=>simp only[go_sem,c110,ha,c5003,c5004,c5006,hw1,hb1,hia,d1,Nx.val,Yw]
  |false=>
   have hrs:(s.extract (i+1) s.size).data.toList=(s.data.toList.drop<|i+1).take (s.size-(i+1)):=ext_list _ _ _;have hsz:s.data.toList.length=s.size:=ZSm;obtain⟨j,hj1,hj2,hj3⟩:∃j:Nat,quN s i=(j:Int)/\j<(s.extract (i+1) s.size).size/\i+1+j<s.size:=by
    rcases H2 qnB (ZX s (i+1) s.size).data.toList 0 with h|⟨j,h1,h2,_⟩
    .have h':quN s i=-1:=h;rw[h']at d1;simp at d1
    .refine⟨j,h1.trans (by simp),?_,?_⟩
     .have:(ZX s (i+1) s.size).data.toList.length=(s.extract (i+1) s.size).size:=ZSm;omega
     .have h3:(ZX s (i+1) s.size).data.toList=(s.data.toList.drop<|i+1).take (s.size-(i+1)):=hrs;rw[h3]at h2;simp at h2;have:s.data.size=s.size:=rfl;omega
   have hn:(quN s i).toNat=j:=by rw[hj1];rfl
   have h0:(0<=(j:Int))=True:=by simp
   have hnn:((j:Int)).toNat=j:=rfl;have hg:=DQ hj2;have hby:Vj (ZX s (i+1) s.size) j=((((s.extract (i+1) s.size).data.getD j 0).toNat:Nat):Int):=by
    unfold Vj ZX;rw[hg];rfl
   rw[hj1]at hia d1;have hb4:=DT (i:=j) (n:=(s.extract (i+1) s.size).size)<|by omega
   have hw5:IntKind.i64.wrap ((i:Int)+(j:Int))=(i:Int)+(j:Int):=YM (by omega)<|by omega
   have hw6:IntKind.i64.wrap ((i:Int)+(j:Int)+2)=(i:Int)+(j:Int)+2:=YM (by omega)<|by omega
   rw[hj1,hnn,hby];cases d2:((((s.extract (i+1) s.size).data.getD j 0).toNat:Nat):Int)==10 with
   |true=>simp only[go_sem,c110,ha,c5003,c5004,c5006,hw1,hb1,hia,d1,h0,if_true,hnn,hg,ZSt,d2,Nx.val,Yw]
   |false=>
   cases d3:decide ((j:Int)>400)with
   |true=>simp only[go_sem,c110,ha,c5003,c5004,c5006,hw1,hb1,hia,d1,h0,if_true,hnn,hg,ZSt,d2,d3,Nx.val,Yw]
   |false=>simp only[go_sem,c110,ha,c5003,c5004,c5006,hw1,hb1,hia,d1,h0,if_true,hnn,hg,ZSt,d2,d3,hb4,hw5,hw6,Nx.val,ZX]
 |false=>
 have hpr:pfn rE 116 [.str<|s.extract (i+1) s.size,.str<|B [61]]=some (.bool<|Xe (ZX s (i+1) s.size)<|B [61]):=Z1L _ _;have hpb:Xe (ZX s (i+1) s.size) (B [61])=true->i+2<=s.size:=by
  intro h;unfold Xe at h;have h1:=(ZS5 _ _▸h).1;have h2:=of_decide_eq_true h1;have h3:(B [61]).size=1:=rfl;have h4:(ZX s (i+1) s.size).size=(ZX s (i+1) s.size).data.toList.length:=ZSm.symm;have h5:(ZX s (i+1) s.size).data.toList=(s.data.toList.drop<|i+1).take (s.size-(i+1)):=ext_list _ _ _;rw[h3,h4,h5]at h2;simp at h2;have:s.data.size=s.size:=rfl;omega
 cases c5007:atT s i==7 with
 |true=>
  cases d:Xe (ZX s (i+1) s.size) (B [61])with
  |true=>
   have hb:bounds (some<|I i) (some<|I<|(i:Int)+2) none s.size=some (i,i+2,none):=by rw[e2];exact Uo (by omega)<|hpb d
   simp only[go_sem,c110,ha,c5003,c5004,c5006,c5007,hw1,hw2,hb1,hpr,d,hb,Nx.val,ZX]
  |false=>simp only[go_sem,c110,ha,c5003,c5004,c5006,c5007,hw1,hb1,hpr,d,Nx.val,Yw]
 |false=>
 cases c5008:atT s i==8 with
 |true=>
  cases d:Xe (ZX s (i+1) s.size) (B [61])with
  |true=>
   have hb:bounds (some<|I i) (some<|I<|(i:Int)+2) none s.size=some (i,i+2,none):=by rw[e2];exact Uo (by omega)<|hpb d
   simp only[go_sem,c110,ha,c5003,c5004,c5006,c5007,c5008,hw1,hw2,hb1,hpr,d,hb,Nx.val,ZX]
  |false=>simp only[go_sem,c110,ha,c5003,c5004,c5006,c5007,c5008,hw1,hb1,hpr,d,hb3,Nx.val,ZX]
 |false=>
 cases c5009:atT s i==9 with
 |true=>simp only[go_sem,c110,ha,c5003,c5004,c5006,c5007,c5008,c5009,hw1,hb3,Nx.val,ZX]
 |false=>simp only[go_sem,c110,ha,c5003,c5004,c5006,c5007,c5008,c5009,Nx.val,Yw]
def Z1S{s:Str}{i:Nat}{c:UInt8}(h:Xe (ZX s i s.size) (B [c])=true):i+1<=s.size:=by
 unfold Xe at h;have h1:=(ZS5 _ _▸h).1;have h2:=of_decide_eq_true h1;have h3:(B [c]).size=1:=rfl;have h4:(ZX s i s.size).size=(ZX s i s.size).data.toList.length:=ZSm.symm;have h5:(ZX s i s.size).data.toList=(s.data.toList.drop i).take (s.size-i):=ext_list _ _ _;rw[h3,h4,h5]at h2;simp at h2;have:s.data.size=s.size:=rfl;omega
def Z1T(s:Str)(i:Nat):quN s i=-1\/∃j:Nat,quN s i=(j:Int)/\i+1+j<s.size:=by
 rcases H2 qnB (ZX s (i+1) s.size).data.toList 0 with h|⟨j,h1,h2,_⟩
 .exact Or.inl h
 .right;refine⟨j,h1.trans (by simp),?_⟩
  have h3:(ZX s (i+1) s.size).data.toList=(s.data.toList.drop<|i+1).take (s.size-(i+1)):=ext_list _ _ _;rw[h3]at h2;simp at h2;have:s.data.size=s.size:=rfl;omega
def DW{s:Str}{cs:List Int}{i:Nat}(h:i<s.size)(hc:cs.any (λx=>atT s i==x)=true):i<ZI s cs i:=by
 rw[NB s cs h,hc,cond_true];exact K2 s cs<|i+1
def Z1U(s:Str)(i:Nat)(hi:i<s.size)(he:(We s i).err=0):∃j:Nat,(We s i).stop=(j:Int)/\i<j/\j<=s.size:=by
 unfold We at he⊢;cases c5003:atT s i==3 with
 |true=>
  rw[c5003,cond_true]at he;rw[cond_true];cases c:decide (W ((ZI s [3,4,5] i:Int)-(i:Int))>24)with
  |true=>rw[c]at he;cases he
  |false=>exact⟨_,rfl,DW hi (by simp[c5003]),K3 _ _<|by omega⟩
 |false=>
 rw[c5003,cond_false]at he;rw[cond_false];cases c5004:atT s i==4 with
 |true=>
  rw[c5004,cond_true]at he;rw[cond_true];cases c:decide (W ((ZI s [4] i:Int)-(i:Int))>13)||(atT s (ZI s [4] i)==3||atT s (ZI s [4] i)==5)with
  |true=>rw[c]at he;cases he
  |false=>exact⟨_,rfl,DW hi (by simp[c5004]),K3 _ _<|by omega⟩
 |false=>
 rw[c5004,cond_false]at he;rw[cond_false];cases c5006:atT s i==6 with
 |true=>
  rw[c5006,cond_true]at he;rw[cond_true];cases c:H4 s i with
  |true=>rw[c]at he;cases he
  |false=>
   rw[c,cond_false]at he;rw[cond_false];cases d:decide (quN s i>400)with
   |true=>rw[d]at he;cases he
   |false=>
    rcases Z1T s i with h|⟨j,h1,h2⟩
    .unfold H4 at c;rw[h]at c;simp at c
    .refine⟨i+j+2,?_,by omega,by omega⟩
     have:(quN s i).toNat=j:=by rw[h1];rfl
     rw[this];simp only[cond_false];omega
 |false=>
 rw[c5006,cond_false]at he;rw[cond_false];cases c5007:atT s i==7||atT s i==8 with
 |true=>
  rw[c5007,cond_true]at he;rw[cond_true];cases c:Xe (ZX s (i+1) s.size) (B [61])with
  |true=>exact⟨i+2,rfl,by omega,Z1S c⟩
  |false=>
   rw[c,cond_false]at he;rw[cond_false];cases d:atT s i==7 with
   |true=>rw[d]at he;cases he
   |false=>exact⟨i+1,rfl,by omega,by omega⟩
 |false=>
 rw[c5007,cond_false]at he;rw[cond_false];cases c5009:atT s i==9 with
 |true=>exact⟨i+1,rfl,by omega,by omega⟩
 |false=>rw[c5009]at he;cases he
structure Lx where
 toks:List Tok
 err:Int
 pos:Int
def ND(n:Nx)(out:List Tok):Int:=bif n.err==0&&(out.length:Int)==5000 then 2 else n.err
def Xf(s:Str):Nat->Nat->List Tok->Lx
 |0,_,_=>⟨[],0,0⟩
 |k+1,i,out=>bif decide ((i:Int)<(s.size:Int))then(bif ND (We s i) out != 0 then⟨[],ND (We s i) out,i⟩else Xf s k (YP s (We s i).stop.toNat)<|out++[(We s i).tok])else⟨out,0,0⟩
def Up(s:Str):Lx:=bif decide ((s.size:Int)>20000)then⟨[],2,-1⟩else Xf s (s.size+1) (YP s 0) []
def Lx.val(x:Lx):AV:=.tup [.isl false false 4<|x.toks.map Tok.enc,I x.err,I x.pos]
def Yx(s:Str)(out:List Tok):Hp:=[.row 257 [.agg<|.str s::Qe],.row 4<|out.map Tok.enc]
def Tok.el(t:Tok):Yu (some 4) t.enc:=⟨rfl,rfl⟩
def Z1V(s:Str)(hs:s.size<=20000):∀k i out,s.size-i<=k->i<=s.size->out.length<=i->∃e fr' h',Zg rE [0,5,6,7] c55L0b [(0,.str s),(5,.ptr 0 0 0 1),(6,.sl 1 out.length 0 out.length false),(7,I i)] (Yx s out)=some (e,fr',h')/\
 ((e=.exit 0/\∃ts:List Tok,Xf s (k+1) i out=⟨ts,0,0⟩/\get fr' 6=.sl 1 ts.length 0 ts.length false/\get fr' 2=.bot/\get fr' 3=.bot/\get fr' 4=.bot/\h'=Yx s ts)\/
  (e=.ret/\(Xf s (k+1) i out).toks=[]/\get fr' 2=.isl false false 4 []/\get fr' 3=I (Xf s (k+1) i out).err/\get fr' 4=I (Xf s (k+1) i out).pos/\get fr' 6=.bot/\∃ts,h'=Yx s ts)):=by
 intro k;have hcc:=Un;have hb2:∀n,Zd n Qe=true:=λn=>ZN _ Un
 have hbt:∀n(l:List Tok),Zd n (l.map Tok.enc)=true:=λn l=>ZN _<|Zw (λt=>rfl) l
 induction k with
 |zero=>
  intro i out hk hi ho;have:i=s.size:=by omega
  subst this;have hf:decide ((s.size:Int)<(s.size:Int))=false:=ZG _;refine⟨_,_,_,Q7 rfl (by simp only[go_sem,Yx,c55L0b,hf];rfl) (by simp),Or.inl ⟨rfl,out,?_,?_,?_,?_,?_,?_⟩⟩
  .unfold Xf;rw[hf];rfl
  .simp only[go_sem]
  .simp only[go_sem]
  .simp only[go_sem]
  .simp only[go_sem]
  .simp only[go_sem,Yx]
 |succ k ih=>
  intro i out hk hi ho;rw[Xf];cases hf:decide ((i:Int)<(s.size:Int))with
  |false=>
   refine⟨_,_,_,Q7 rfl (by simp only[go_sem,Yx,c55L0b,hf];rfl) (by simp),Or.inl ⟨rfl,out,rfl,?_,?_,?_,?_,?_⟩⟩
   .simp only[go_sem]
   .simp only[go_sem]
   .simp only[go_sem]
   .simp only[go_sem]
   .simp only[go_sem,Yx]
  |true=>
   have hi':i<s.size:=by have:=of_decide_eq_true hf;omega
   have hn:=Z1R s i (by omega) hi'
   have hst:=Z1U s i hi';rw[cond_true];generalize hgn:We s i=n at hn hst⊢;obtain⟨⟨tk,ta,tn,tt⟩,stop,err⟩:=n;unfold Nx.val at hn;simp only at hn hst⊢;unfold ND;simp only;have hrow:((out.map Tok.enc).length==out.length)=true:=by simp
   cases c0:err==0 with
   |false=>
    have c1:(err != 0)=true:=by simp[bne,c0]
    simp only[Bool.false_and,cond_false,c1,cond_true];refine⟨_,_,_,Q7 rfl (by simp only[go_sem,Yx,c55L0b,hf,hcc,hn,c0,c1,beq_self_eq_true,hb2,hbt];rfl) (by simp),Or.inr ⟨rfl,by first|rfl|trivial,?_,?_,?_,?_,out,?_⟩⟩
    .simp only[go_sem]
    .simp only[go_sem]
    .simp only[go_sem]
    .simp only[go_sem]
    .simp only[go_sem,Yx]
   |true=>
    have he:err=0:=by simpa using c0
    subst he;cases c5005:(out.length:Int)==5000 with
    |true=>
     have h20:((2:Int) != 0)=true:=rfl;simp only[ZSJ,cond_true,h20];refine⟨_,_,_,Q7 rfl (by simp only[go_sem,Yx,c55L0b,hf,hcc,hn,c5005,beq_self_eq_true,hb2,hbt,h20];rfl) (by simp),Or.inr ⟨rfl,by first|rfl|trivial,?_,?_,?_,?_,out,?_⟩⟩
     .simp only[go_sem]
     .simp only[go_sem]
     .simp only[go_sem]
     .simp only[go_sem]
     .simp only[go_sem,Yx]
    |false=>
     obtain⟨j,hj,hij,hjs⟩:=hst rfl;subst hj;have hjn:((j:Int)).toNat=j:=rfl;have hg:=DU s j (by omega) hjs
     simp only[Bool.and_false,cond_false,hjn];have hz:((0:Int) != 0)=false:=rfl;rw[hz,cond_false];obtain⟨e,fr',h',h1,h2⟩:=ih (YP s j) (out++[⟨tk,ta,tn,tt⟩]) (by omega) hg.2.1<|by simp;omega
     refine⟨e,fr',h',?_,h2⟩;rw[<-h1];have happ:=λ(h:Hp)(hr:rowAt h 1 out.length=some (4,out.map Tok.enc))=>XC (fz:=false) (bw:=false) (ex:=false) (ys:=[.agg [I tk,I ta,I tn,.str tt]]) (bytes:=40) hr rfl (by rfl) (by omega) (by omega) (by simp;omega)
     have happ':=happ [.row 257 [.agg<|.str s::Qe],.row 4<|out.map Tok.enc,.row 4 [.agg [I tk,I ta,I tn,.str tt]]]<|by simp[rowAt]
     refine(Yt rfl (by simp only[go_sem,Yx,c55L0b,hf,hcc,hn,c5005,beq_self_eq_true,hb2,hbt,hz,happ',hg.1];rfl)).trans ?_
     simp only[go_sem,Yx,ZTs,Tok.enc]
def c233a:ACode:=
 .seq (.seq (.keep [0,13]<|.region [o 11<|.mv<|.t 0,
  o 12 (.len 0<|.t 11),
  o 13 (.bin .gtr (.t 12)<|.c<|.int .i64 20000)])<|
 .cond (.t 13)
  (.seq (.keep [2,3,4]<|.region [o 2<|.mv<|.c<|.isl false false 4 [],
    o 3 (.mv<|.c<|.int .i64 2),
    o 4 (.mv<|.c<|.int .i64<|-1)])<|
   .ret)
  (.skip))<|
 .seq (.keep [0,5]<|.region [o 14<|.mv<|.t 0,
  o 15 (.call true 108 []),
  o 16 (.build (.str emp::Qj) [(0,1,(.t 14)),(1,256,(.t 15))]),
  o 5 (.box 257<|.c<|.agg<|.str emp::Qj),
  ⟨none,.store 257 (.t 5)<|.t 16,none⟩])<|
 .seq (.region [o 6<|.own 4])<|
 .seq (.seq (.region [o 17<|.call true 109 [(.t 5),(.c<|.int .i64 0)],
  o 7 (.mv<|.t 17)])<|
 .keep [2,3,4,6]<|.block 0<|
  c55L0)<|
 .seq (.keep [2,3,4]<|.region [o 46<|.mv<|.t 6,
  o 2 (.mv<|.t 46),
  o 3 (.mv<|.c<|.int .i64 0),
  o 4 (.mv<|.c<|.int .i64 0)])<|
 .ret
def c233z:ACode:=
 .seq (.keep [0]<|.region [o 2<|.mv<|.c<|.isl false false 4 [],
  o 3 (.mv<|.c<|.int .i64 0),
  o 4 (.mv<|.c<|.int .i64 0)]) c233a
def c55_eq:c55=c233z:=by
 unfold c233z c233a Qj;kernel_rfl
def Z1W(s:Str):pfn rE 55 [.str s]=some (Up s).val:=by
 have hcc:=Un;have hb2:∀n,Zd n Qe=true:=λn=>ZN _ Un
 have hbz:∀n,Zd n Qj=true:=λn=>ZN _ DN
 have hbt:∀n(l:List Tok),Zd n (l.map Tok.enc)=true:=λn l=>ZN _<|Zw (λt=>rfl) l
 have hct:∀(l:List Tok),Z4 (l.map Tok.enc)=true:=λl=>Zw (λt=>rfl) l
 rw[Z5 (f:=55) (c:=c233z) rfl (by rw[<-c55_eq];rfl)]
 unfold Up;cases hc:decide ((s.size:Int)>20000)with
 |true=>simp only[go_sem,c233z,c233a,hc,Lx.val]
 |false=>
  have hs:s.size<=20000:=by have:=of_decide_eq_false hc;omega
  have hd1:List.drop 256 Qj=[]:=DM VY;have hg:=DU s 0 (by omega)<|by omega
  have hg1:pfn rE 109 [.iptr true<|.str s::Qe,.int .i64 0]=_:=hg.1;obtain⟨e,fr',h',h1,h2⟩:=Z1V s hs s.size (YP s 0) [] (by omega) hg.2.1<|by simp
  have h1':Zg rE [0,5,6,7] c55L0b [(0,.str s),(5,.ptr 0 0 0 1),(6,.sl 1 0 0 0 false),(7,I<|YP s 0)] [.row 257 [.agg<|.str s::Qe],.row 4 []]=_:=h1;rcases h2 with⟨rfl,ts,h3,h6,g2,g3,g4,rfl⟩|⟨rfl,ht,g2,h3,h4,g6,ts,rfl⟩
  .rw[h3];unfold Yx at h1';have htk:List.take ts.length (List.map Tok.enc ts)=List.map Tok.enc ts:=ZSX (by simp)
   simp only[go_sem,c233z,c233a,c55L0,hc,DO,Ny,DL,VY,GY,hd1,hcc,hb2,hg1,h1',h6,g2,g3,g4,hbt,hct,htk,beq_self_eq_true,ZT9,Lx.val]
  .unfold Yx at h1';have e:Xf s (s.size+1) (YP s 0) []=⟨[],(Xf s (s.size+1) (YP s 0) []).err,(Xf s (s.size+1) (YP s 0) []).pos⟩:=by
    generalize Xf s (s.size+1) (YP s 0) []=x at ht⊢;cases x;simp only at ht;subst ht;rfl
   rw[e];simp only[go_sem,c233z,c233a,c55L0,hc,DO,Ny,DL,VY,GY,hd1,hcc,hb2,hg1,h1',g2,h3,h4,g6,hbt,beq_self_eq_true,ZT9,Lx.val]
structure Tkt where
 Door:Str
 Day:Int
 Issuer:Int
 Mark:Str
def Tkt.enc(t:Tkt):AV:=.agg [.str t.Door,I t.Day,I t.Issuer,.str t.Mark]
def ZOb:Tkt:=⟨emp,0,0,emp⟩
def ZOp(a b:Tkt):Bool:=Z3 a.Door b.Door&&(a.Day==b.Day&&(a.Issuer==b.Issuer&&(Z3 a.Mark b.Mark&&true)))
def ZAD(n:Int):Bool:=!decide (n<0)&&!decide (n>100000)
def ZyM(bw ex:Bool)(l:List Int)(hl:l.length<9223372036854775807):pfn rE 35 [.isl bw ex 1<|l.map I]=some (.bool<|l.all ZAD):=by
 have L:=Uf (E:=rE) (live:=[5,6,7]) (b:=c35L0b) (h:=[]) l (λ_ x=>ZAD x) (λi=>[(5,.isl bw ex 1<|l.map I),(6,I l.length),(7,I i)]) 0 (λfr=>get fr 2=.bool false) (λi=>rfl)
  (λi x hx hP=>by
   have hg:=Z6 (f:=I) hx;have hi:=Zh<|Z7 hx;have hw:=Zx (n:=i) (by have:=Z7 hx;omega)
   unfold ZAD at hP;rw[ZS5,ZSy,ZSy]at hP;refine⟨_,by simp only[go_sem,c35L0b,hg,hi,hw,hP.1,hP.2];rfl,?_⟩
   simp only[go_sem])
  (λi x hx hP=>by
   have hg:=Z6 (f:=I) hx;have hi:=Zh<|Z7 hx;unfold ZAD at hP;cases h1:decide (x<0)with
   |true=>
    refine⟨_,by simp only[go_sem,c35L0b,hg,hi,h1];rfl,?_⟩
    simp only[go_sem]
   |false=>
    rw[h1]at hP;have h2:decide (x>100000)=true:=by simpa using hP
    refine⟨_,by simp only[go_sem,c35L0b,hg,hi,h1,h2];rfl,?_⟩
    simp only[go_sem])
  (⟨_,by simp only[go_sem,c35L0b,ZG];rfl⟩)
 rw[Z5 (f:=35) rfl rfl];rw[QE]at L;obtain⟨fr',h1,h2⟩:=L;have h1':Zg rE [5,6,7] c35L0b [(5,.isl bw ex 1<|l.map I),(6,I l.length),(7,.int .i64 0)] []=_:=h1;cases hc:l.all ZAD with
 |true=>rw[hc]at h1';simp only[go_sem,c35,c35L0,h1']
 |false=>
  rw[hc]at h1';have h2':=h2 hc;simp only[go_sem,c35,c35L0,h1',h2',ZSo]
def ZQR(n:Int):pfn rE 35 [.isl false false 1 [I n]]=some (.bool<|ZAD n):=by
 have:=ZyM false false [n]<|by simp
 rw[show [n].map I=[I n]from rfl]at this
 rw[this];simp only[ZSU,List.all_nil,ZSu]
def ZOx:Str:=B [48,49,50,51,52,53,54,55,56,57,97,98,99,100,101,102]
def ZOO(s c:Str):Str:=⟨(Go.Lib.trimS s.data.toList c.data.toList).toArray⟩
def ZOj(s:Str):Bool:=(s.size:Int)==16&&Z3 (ZOO s ZOx) emp
def ZQS(s:Str):pfn rE 56 [.str s]=some (.bool<|ZOj s):=by
 rw[Z5 (f:=56) rfl rfl];unfold ZOj;cases h:(s.size:Int)==16 with
 |false=>simp only[go_sem,c56,h]
 |true=>
  have hz:s.size=16:=by have:=eq_of_beq h;omega
  have e:ZOv [.str s,.str<|B [48,49,50,51,52,53,54,55,56,57,97,98,99,100,101,102]] []=some (.str<|ZOO s ZOx,[]):=by
   show(bif (Nat.ble s.size 9223372036854775807&&_)then some _ else none)=_
   rw[hz];rfl
  have e2:pfn rE 111 [.str s,.str<|B [48,49,50,51,52,53,54,55,56,57,97,98,99,100,101,102]]=some (.str<|ZOO s ZOx):=by
   unfold pfn;rw[V8 (s:=ZOv) rfl,e];rfl
  simp only[go_sem,c56,h,e2]
def ZUV(s:Str):Bool:=(Up s).err==0&&match(Up s).toks with
 |[t]=>t.Kind==1&&Z3 t.Text s
 |_=>false
def ZOe(t:Tkt):Bool:=ZUV t.Door&&(decide (t.Issuer>=0)&&(decide (t.Issuer<=999999)&&(ZAD t.Day&&ZOj t.Mark)))
def ZUX(t:Tkt):pfn rE 27 [t.enc]=some (.bool<|ZOe t):=by
 have h:=Z1W t.Door;have hd:=ZQR t.Day;have hm:=ZQS t.Mark;unfold ZOe ZUV;obtain⟨dr,dy,is,mk⟩:=t;unfold Tkt.enc;simp only at h hd hm⊢;generalize Up dr=x at h⊢;obtain⟨ts,err,pos⟩:=x;unfold Lx.val at h;simp only at h⊢;rw[Z5 (f:=27) rfl rfl];cases h0:err==0 with
 |false=>simp only[go_sem,c27,h,h0,hd,hm]
 |true=>
  rcases ts with _|⟨⟨tk,ta,tn,tt⟩,_|⟨t2,ts⟩⟩
  .have e:(((0:Nat):Int)==1)=false:=rfl;simp only[go_sem,c27,h,h0,e,hd,hm]
  .have e:(((0+1:Nat):Int)==1)=true:=rfl;have e1:ixG [.agg [I tk,I ta,I tn,.str tt]] 0=some (.agg [I tk,I ta,I tn,.str tt]):=rfl;have e2:(((1:Nat):Int)==1)=true:=rfl;cases h1:tk==1 with
   |false=>simp only[go_sem,c27,h,h0,e,e1,h1,Tok.enc,hd,hm]
   |true=>
    cases h2:Z3 tt dr with
    |false=>simp only[go_sem,c27,h,h0,e,e1,h1,h2,Tok.enc,hd,hm]
    |true=>
     cases h3:decide (is>=0)with
     |false=>simp only[go_sem,c27,h,h0,e,e1,h1,h2,h3,Tok.enc,hd,hm]
     |true=>
      cases h4:decide (is<=999999)with
      |false=>simp only[go_sem,c27,h,h0,e,e1,h1,h2,h3,h4,Tok.enc,hd,hm]
      |true=>
       cases h5:ZAD dy<;>simp only[go_sem,c27,h,h0,e,e1,h1,h2,h3,h4,h5,Tok.enc,hd,hm]
  .have e:(((ts.length+1+1:Nat):Int)==1)=false:=by
    rw[beq_eq_false_iff_ne];omega
   simp only[go_sem,c27,h,h0,e,hd,hm]
def ZO7(n:Int):Str:=⟨(Go.Lib.itoa n).toArray⟩
def ZPO(n:Int)(h:-9223372036854775808<=n/\n<=9223372036854775807):pfn rE 30 [I n]=some (.str<|ZO7 n):=by
 have e:ZOt [I n] []=some (.str<|ZO7 n,[]):=by
  show(if -9223372036854775808<=n/\n<=9223372036854775807 then some _ else none)=_
  rw[if_pos h];rfl
 unfold pfn;rw[V8 (s:=ZOt) rfl,e];rfl
structure TkOk(t:Tkt):Prop where
 nm:ZUV t.Door=true
 i0:0<=t.Issuer
 i1:t.Issuer<=999999
 d0:0<=t.Day
 d1:t.Day<=100000
 dg:ZOj t.Mark=true
def ZOH(t:Tkt):ZOe t=true↔TkOk t:=by
 unfold ZOe ZAD;simp only[ZS5,decide_eq_true_eq,ZSy,decide_eq_false_iff_not];constructor
 .rintro⟨h1,h2,h3,⟨h4,h5⟩,h6⟩;exact⟨h1,h2,h3,by omega,by omega,h6⟩
 .rintro⟨h1,h2,h3,h4,h5,h6⟩;exact⟨h1,h2,h3,⟨by omega,by omega⟩,h6⟩
def tkS:Str:=B [116,105,99,107,101,116]
def ZPW{n:Int}(h:0<=n):Go.Lib.itoa n=Go.Lib.decDigits n.toNat:=by
 obtain⟨u,rfl⟩:∃u:Nat,n=u:=⟨n.toNat,by omega⟩
 rw[Go.Lib.itoa_nonneg];rfl
def ZOR(t:Tkt):Bool:=decide ((t.Door.size:Int)<=100)&&decide ((t.Mark.size:Int)<=100)
def ZUW(t:Tkt):pfn rE 10 [t.enc]=some (.bool<|ZOR t):=by
 obtain⟨dr,dy,is,mk⟩:=t;unfold Tkt.enc ZOR;simp only;rw[Z5 (f:=10) rfl rfl];cases h1:decide ((dr.size:Int)<=100)<;>simp only[go_sem,c10,h1,ZSS,Bool.false_and]
def ZQ0(a b:Tkt):ZOp a b=true↔a=b:=by
 obtain⟨a1,a2,a3,a4⟩:=a;obtain⟨b1,b2,b3,b4⟩:=b;unfold ZOp;simp only[ZS5,beq_iff_eq,Ky,ZSu,Tkt.mk.injEq]
def ZUp:Str:=B [48,49,50,51,52,53,54,55,56,57]
def dgS(m:Nat):Str:=ZUp.extract (m%10)<|m%10+1
def ZUq(m:Nat):bounds (some<|.int .u64 ((m%10:Nat):Int)) (some<|.int .u64 ((m%10+1:Nat):Int)) none (B [48,49,50,51,52,53,54,55,56,57]).size=some (m%10,m%10+1,none):=by
 have h:m%10<10:=Nat.mod_lt _<|by decide
 generalize m%10=d at h
 match d,h with
 |0,_|1,_|2,_|3,_|4,_|5,_|6,_|7,_|8,_|9,_=>rfl
def ZUH:∀d:Fin 10,(ZUp.extract d.val<|d.val+1).data.toList=[UInt8.ofNat<|48+d.val]:=by decide
def ZUl(m:Nat):(dgS m).data.toList=[UInt8.ofNat<|48+m%10]:=ZUH ⟨m%10,Nat.mod_lt _<|by decide⟩
def ZUm{m:Nat}(h:m<1000000):IntKind.u64.wrap ((m:Nat):Int)=(m:Int):=by
 unfold IntKind.wrap;simp[IntKind.bits,IntKind.signed];omega
def ZUr:((10:Int)=0)=False:=by simp
def ZUs(m:Nat):((m:Int).tmod 10)=((m%10:Nat):Int):=rfl
def ZUt{m:Nat}(h:m<1000000):IntKind.u64.wrap ((m:Int).tdiv 10)=((m/10:Nat):Int):=by
 rw[show(m:Int).tdiv 10=((m/10:Nat):Int)from rfl]
 exact ZUm<|by omega
def ZUu(m:Nat):IntKind.u64.wrap (((m%10:Nat):Int)+1)=((m%10+1:Nat):Int):=ZUm (m:=m%10+1)<|by omega
def ZUI(a b:Str):(a++b).data.toList=a.data.toList++b.data.toList:=by
 rw[ByteArray.data_append,Array.toList_append]
def ZUv(m:Nat):Go.Lib.decDigits m=if h:m<10 then [UInt8.ofNat<|48+m]else Go.Lib.decDigits (m/10)++[UInt8.ofNat<|48+m%10]:=by rw[Go.Lib.decDigits]
def ZUw(m:Nat):(dgS m).size=1:=by
 rw[Go.Lib.size_eq,ZUl];rfl
def ZUJ:∀(m:Nat)(s:Str),m<1000000->s.size+m<=2000000->∃fr',Zg rE [0,3] c28L0b [(0,.int .u64 m),(3,.str s)] []=some (.exit 0,fr',[])/\get fr' 3=.str ⟨((bif m==0 then []else Go.Lib.decDigits m)++s.data.toList).toArray⟩:=by
 intro m;induction m using Nat.strongRecOn with
 |ind m ih=>
  intro s hm hs;by_cases h0:m=0
  .subst h0;refine⟨_,Q7 (by rfl) (by simp only[go_sem,c28L0b,show decide (((0:Nat):Int)>0)=false from rfl];rfl) (by simp),?_⟩
   simp only[go_sem]
  .have hg:decide ((m:Int)>0)=true:=decide_eq_true (by omega)
   have e1:=ZUs m;have e2:=ZUt hm;have e3:=ZUu m;have e4:=ZUq m;have hz:=ZUw m;have e5:(ByteArray.extract (B [48,49,50,51,52,53,54,55,56,57]) (m%10)<|m%10+1).size+s.size<=4611686018427387904:=by
    show(dgS m).size+s.size<=_
    omega
   obtain⟨fr',L,hf⟩:=ih (m/10) (by omega) (dgS m++s) (by omega)<|by rw[ByteArray.size_append];omega
   refine⟨fr',?_,?_⟩
   .rw[Yt (by rfl)<|by simp only[go_sem,c28L0b,hg,e1,e2,e3,e4,e5,ZUr];rfl]
    exact L
   .rw[hf,ZUI,ZUl];have hb:(m==0)=false:=beq_eq_false_iff_ne.2 h0;rw[hb,cond_false];rw[ZUv m];by_cases h:m<10
    .rw[dif_pos h];have:m/10=0:=by omega
     have h2:m%10=m:=by omega
     rw[this,h2];rfl
    .rw[dif_neg h];have hb2:(m/10==0)=false:=beq_eq_false_iff_ne.2 (by omega)
     rw[hb2,cond_false,ZT7]
def ZUK{m:Nat}(hm:m<1000000):pfn rE 28 [.int .u64 m]=some (.str ⟨(Go.Lib.decDigits m).toArray⟩):=by
 rw[Z5 (f:=28) rfl rfl];have e1:=ZUs m;have e2:=ZUt hm;have e3:=ZUu m;have e4:=ZUq m;obtain⟨fr',L,hf⟩:=ZUJ (m/10) (dgS m) (by omega)<|by rw[ZUw];omega
 have L':Zg rE [0,3] c28L0b [(0,.int .u64 ((m/10:Nat):Int)),(3,.str<|ByteArray.extract (B [48,49,50,51,52,53,54,55,56,57]) (m%10)<|m%10+1)] []=_:=L;simp only[go_sem,c28,c28L0,e1,e2,e3,e4,L',hf,ZUr];congr 3;rw[ZUl,ZUv m];by_cases h:m<10
 .rw[dif_pos h];have:m/10=0:=by omega
  have h2:m%10=m:=by omega
  rw[this,h2];rfl
 .rw[dif_neg h];have hb2:(m/10==0)=false:=beq_eq_false_iff_ne.2 (by omega)
  rw[hb2,cond_false]
def ZUi{n:Int}(h0:0<=n)(h1:n<=999999):pfn rE 12 [I n]=some (.str<|ZO7 n):=by
 obtain⟨m,rfl⟩:∃m:Nat,n=m:=⟨n.toNat,by omega⟩
 have hm:m<1000000:=by omega
 have h:=ZUK hm;have hw:=ZUm hm;have hd:decide ((m:Int)<0)=false:=decide_eq_false<|by omega
 rw[Z5 (f:=12) rfl rfl];simp only[go_sem,c12,hd,hw,h];unfold ZO7;rw[ZPW<|by omega]
 rfl
def ZUh(s:Str)(t:Tkt):List Str:=[tkS,s,ZO7 t.Issuer,t.Door,ZO7 t.Day]
def ZUf(s:Str)(t:Tkt):Str:=⟨(Go.Proofs.ZOM<|ZUh s t).toArray⟩
def ZUc(n:Int):Prop:=-9223372036854775808<=n/\n<=9223372036854775807
def ZUx:∀(l:List Str)(K:Nat),(∀s∈l,s.size<=K)->K<=9223372036854775807->(Go.Proofs.joinL l).length<=l.length*(K+22)
 |[],K,_,_=>Nat.zero_le _
 |s::r,K,h,hK=>by
  have h1:=ZUx r K (λx hx=>h x<|ZSW _ hx) hK
  have h2:=h s ZSO;have h3:=Go.Lib.itoa_length_le (s.size:Int) (by omega)<|by omega
  have h4:=Go.Lib.size_eq s;unfold Go.Proofs.joinL;rw[ZSM,ZSl,ZSM,ZSl,ZSd];omega
def ZUy(a b c d e:Str)(h:∀s∈[a,b,c,d,e],s.size<=1100000)(bw ex:Bool):pfn rE 13 [.isl bw ex 1 [.str a,.str b,.str c,.str d,.str e]]=some (.str ⟨(Go.Proofs.ZOM [a,b,c,d,e]).toArray⟩):=by
 have hj:=ZUx [a,b,c,d,e] 1100000 h<|by decide
 have k:ZON [.isl bw ex 1 [.str a,.str b,.str c,.str d,.str e]] []=some (.str ⟨(Go.Proofs.ZOM [a,b,c,d,e]).toArray⟩,[]):=by
  have hb:Nat.ble (Go.Proofs.joinL [a,b,c,d,e]).length 140737488355328=true:=ZT2<|ZSC hj<|by simp
  have ha:[a,b,c,d,e].all (λs=>Nat.ble s.size 140737488355328)=true:=ZSe.2 λs hs=>ZT2<|ZSC (h s hs)<|by decide
  show(bif Qq [] 1 (.isl bw ex 1 [.str a,.str b,.str c,.str d,.str e])&&true then(bif [a,b,c,d,e].all (λs=>Nat.ble s.size 140737488355328)&&(Nat.ble (Go.Proofs.joinL [a,b,c,d,e]).length 140737488355328&&true)then some _ else none)else none)=_
  rw[hb,ha];rfl
 unfold pfn;rw[V8 (s:=ZON) rfl,k];rfl
def ZUz{n:Int}(h:ZUc n):(ZO7 n).size<=21:=by
 have:=Go.Lib.itoa_length_le n h.1 h.2;rw[Go.Lib.size_eq];exact this
def ZUA{s:Str}{t:Tkt}(hs:s.size<=1100000)(hd:t.Door.size<=1100000)(h1:ZUc t.Issuer)(h2:ZUc t.Day):∀x∈ZUh s t,x.size<=1100000:=by
 intro x hx;have k1:=ZUz h1;have k2:=ZUz h2;have k3:tkS.size=6:=rfl;unfold ZUh at hx;simp only[ZSc,ZTC,or_false]at hx;rcases hx with rfl|rfl|rfl|rfl|rfl<;>omega
def ZUL(s:Str)(t:Tkt)(hs:s.size<=1100000)(hd:t.Door.size<=1100000)(h1:ZUc t.Issuer)(h2:ZUc t.Day):pfn rE 26 [.str s,t.enc]=some (.str<|ZUf s t):=by
 have k1:=ZPO t.Issuer h1;have k2:=ZPO t.Day h2;have k3:=ZUy tkS s (ZO7 t.Issuer) t.Door (ZO7 t.Day) (ZUA hs hd h1 h2) false false;unfold ZUf ZUh;unfold tkS at k3⊢;obtain⟨dr,dy,is,mk⟩:=t;unfold Tkt.enc;simp only at k1 k2 k3⊢;rw[Z5 (f:=26) rfl rfl];simp only[go_sem,c26,k1,k2,k3]
def ZUB(s:Str)(t:Tkt)(hs:s.size<=1100000)(hd:t.Door.size<=1100000)(h1:ZUc t.Issuer)(h2:ZUc t.Day):pfn rE 13 [.isl false false 1 [.str tkS,.str s,.str<|ZO7 t.Issuer,.str t.Door,.str<|ZO7 t.Day]]=some (.str<|ZUf s t):=by
 unfold ZUf ZUh;exact ZUy _ _ _ _ _ (ZUA hs hd h1 h2) false false
def ZUd(s:Str)(is:Int)(dr:Str)(dy:Int):Tkt:=⟨dr,dy,is,ZUf s ⟨dr,dy,is,emp⟩⟩
def ZUe(s:Str)(is:Int)(dr:Str)(dy:Int):Tkt×Int:=bif ZOe (ZUd s is dr dy)then(ZUd s is dr dy,0)else(ZOb,1)
def ZUj(s:Str)(is:Int)(dr:Str)(dy:Int)(hs:s.size<=1100000)(hd:dr.size<=1100000)(h1:ZUc is)(h2:ZUc dy):pfn rE 9 [.str s,I is,.str dr,I dy]=some (.tup [(ZUe s is dr dy).1.enc,I (ZUe s is dr dy).2]):=by
 have k1:=ZUL s ⟨dr,dy,is,emp⟩ hs hd h1 h2;have k2:=ZUX<|ZUd s is dr dy;unfold ZUe;rw[Z5 (f:=9) rfl rfl];unfold ZUd Tkt.enc at*;simp only at k1 k2⊢;generalize ZUf s ⟨dr,dy,is,emp⟩=m at k1 k2⊢;cases h:ZOe ⟨dr,dy,is,m⟩with
 |false=>rw[h]at k2;simp only[go_sem,c9,k1,k2,ZSw,ZOb]
 |true=>rw[h]at k2;simp only[go_sem,c9,k1,k2,ZSF]
def ZUg(s:Str)(t:Tkt):Bool:=(ZUe s t.Issuer t.Door t.Day).2==0&&ZOp (ZUe s t.Issuer t.Door t.Day).1 t
def ZUC(s:Str)(t:Tkt)(hs:s.size<=1100000)(hd:t.Door.size<=1100000)(h1:ZUc t.Issuer)(h2:ZUc t.Day):pfn rE 11 [.str s,t.enc]=some (.bool<|ZUg s t):=by
 have k1:=ZUj s t.Issuer t.Door t.Day hs hd h1 h2;unfold ZUg;generalize ZUe s t.Issuer t.Door t.Day=p at k1⊢;obtain⟨⟨a,b,c,d⟩,e⟩:=p;obtain⟨dr,dy,is,mk⟩:=t;unfold Tkt.enc ZOp at*;simp only at k1⊢;rw[Z5 (f:=11) rfl rfl];cases h:e==0<;>simp only[go_sem,c11,k1,h]
def ZUM(a:Tkt):ZOp a a=true:=by
 unfold ZOp;simp[(Ky _ _).2]
def ZUN{s:Str}{is:Int}{dr:Str}{dy:Int}(h:ZOe (ZUd s is dr dy)=true):ZUg s (ZUd s is dr dy)=true:=by
 have e:ZUe s (ZUd s is dr dy).Issuer (ZUd s is dr dy).Door (ZUd s is dr dy).Day=(ZUd s is dr dy,0):=by
  show ZUe s is dr dy=_
  unfold ZUe;rw[h];rfl
 unfold ZUg;rw[e,ZUM];rfl
def ZUO{s:Str}{t:Tkt}(h:ZUg s t=true):ZOe (ZUd s t.Issuer t.Door t.Day)=true/\ZUf s ⟨t.Door,t.Day,t.Issuer,emp⟩=t.Mark:=by
 unfold ZUg ZUe at h;cases hf:ZOe (ZUd s t.Issuer t.Door t.Day)with
 |false=>rw[hf]at h;simp at h
 |true=>
  rw[hf,cond_true]at h;refine⟨rfl,?_⟩;have:=(ZQ0 _ _).1 (Bool.and_eq_true_iff.1 h).2;exact congrArg Tkt.Mark this
def ZUk{hup:pfn rE 8 []=some (.bool true)}(se ot dr:Str)(is dy:Int)(t:Tkt)(hs:se.size<=1100000)(hd:dr.size<=1100000)(h1:ZUc is)(h2:ZUc dy)
 (hf:(decide ((se.size:Int)>100)||(decide ((ot.size:Int)>100)||(decide ((dr.size:Int)>100)||!ZOR t)))=true):
 pfn rE 3 [.str se,.str ot,I is,.str dr,I dy,t.enc]=some (.bool true):=by
 have k1:=ZUj se is dr dy hs hd h1 h2;have k2:=ZUW t;generalize ZUe se is dr dy=p at k1;obtain⟨⟨a,b,c,d⟩,e⟩:=p;obtain⟨td,ty,ti,tm⟩:=t;unfold Tkt.enc at*;simp only at k1 k2;rw[Z5 (f:=3) rfl rfl];cases a1:decide ((se.size:Int)>100)with
 |true=>simp only[go_sem,c3,hup,k1,a1]
 |false=>
  cases a2:decide ((ot.size:Int)>100)with
  |true=>simp only[go_sem,c3,hup,k1,a1,a2]
  |false=>
   cases a3:decide ((dr.size:Int)>100)with
   |true=>simp only[go_sem,c3,hup,k1,a1,a2,a3]
   |false=>
    rw[a1,a2,a3]at hf;simp only[Bool.false_or,ZSy]at hf;rw[hf]at k2;simp only[go_sem,c3,hup,k1,k2,a1,a2,a3,ZSw]
def ZUP{hup:pfn rE 8 []=some (.bool true)}(se ot dr:Str)(is dy:Int)(t:Tkt)(hs:se.size<=1100000)(hd:dr.size<=1100000)(h1:ZUc is)(h2:ZUc dy)
 (a1:decide ((se.size:Int)>100)=false) (a2:decide ((ot.size:Int)>100)=false) (a3:decide ((dr.size:Int)>100)=false) (a4:ZOR t=true) (hf:ZOe (ZUd se is dr dy)=false):
 pfn rE 3 [.str se,.str ot,I is,.str dr,I dy,t.enc]=some (.bool true):=by
 have k1:=ZUj se is dr dy hs hd h1 h2;have k2:=ZUW t;have kr:ZUe se is dr dy=(ZOb,1):=by
  unfold ZUe;rw[hf];rfl
 rw[kr]at k1;clear hf kr;rw[a4]at k2;obtain⟨td,ty,ti,tm⟩:=t;unfold Tkt.enc ZOb at*;simp only at k1 k2;rw[Z5 (f:=3) rfl rfl];have b1:((1:Int) != 0)=true:=rfl;have b2:((1:Int)==1)=true:=rfl;have b3:((0:Int)==0)=true:=rfl;have b4:Z3 emp emp=true:=rfl;simp only[go_sem,c3,hup,k1,k2,a1,a2,a3,b1,b2,b3,b4,ZSF,ZSu]
def ZUQ(hup:pfn rE 8 []=some (.bool true))(se ot dr td tm m:Str)(is dy ty ti:Int)
 (k1:pfn rE 9 [.str se,I is,.str dr,I dy]=some (.tup [.agg [.str dr,I dy,I is,.str m],I 0])) (k2:pfn rE 10 [.agg [.str td,I ty,I ti,.str tm]]=some (.bool true))
 (k3:pfn rE 11 [.str se,.agg [.str dr,I dy,I is,.str m]]=some (.bool true)) (k4:pfn rE 11 [.str ot,.agg [.str td,I ty,I ti,.str m]]=some (.bool false))
 (a1:decide ((se.size:Int)>100)=false) (a2:decide ((ot.size:Int)>100)=false) (a3:decide ((dr.size:Int)>100)=false):
 pfn rE 3 [.str se,.str ot,I is,.str dr,I dy,.agg [.str td,I ty,I ti,.str tm]]=some (.bool true):=by
 have hi:((is:Int) != is)=false:=by simp
 have hy:((dy:Int) != dy)=false:=by simp
 have hd':(!Z3 dr dr)=false:=by simp[(Ky dr dr).2]
 have b1:((0:Int) != 0)=false:=rfl;rw[Z5 (f:=3) rfl rfl];simp only[go_sem,c3,hup,k1,k2,k3,k4,a1,a2,a3,hi,hy,hd',b1,ZSF,ZSw]
def ZUR(hup:pfn rE 8 []=some (.bool true))(se ot dr td tm m q s1 s2 s3 s4:Str)(is dy ty ti:Int)
 (k1:pfn rE 9 [.str se,I is,.str dr,I dy]=some (.tup [.agg [.str dr,I dy,I is,.str m],I 0])) (k2:pfn rE 10 [.agg [.str td,I ty,I ti,.str tm]]=some (.bool true))
 (k3:pfn rE 11 [.str se,.agg [.str dr,I dy,I is,.str m]]=some (.bool true)) (k4:pfn rE 11 [.str ot,.agg [.str td,I ty,I ti,.str m]]=some (.bool true))
 (k5:pfn rE 12 [I is]=some (.str s1)) (k6:pfn rE 12 [I dy]=some (.str s2)) (k7:pfn rE 12 [I ti]=some (.str s3)) (k8:pfn rE 12 [I ty]=some (.str s4))
 (k9:pfn rE 13 [.isl false false 1 [.str<|B [116,105,99,107,101,116],.str se,.str s1,.str dr,.str s2]]=some (.str q))
 (k10:pfn rE 13 [.isl false false 1 [.str<|B [116,105,99,107,101,116],.str ot,.str s3,.str td,.str s4]]=some (.str q))
 (a1:decide ((se.size:Int)>100)=false) (a2:decide ((ot.size:Int)>100)=false) (a3:decide ((dr.size:Int)>100)=false):
 pfn rE 3 [.str se,.str ot,I is,.str dr,I dy,.agg [.str td,I ty,I ti,.str tm]]=some (.bool true):=by
 have hi:((is:Int) != is)=false:=by simp
 have hy:((dy:Int) != dy)=false:=by simp
 have hd':(!Z3 dr dr)=false:=by simp[(Ky dr dr).2]
 have hq:Z3 q q=true:=(Ky q q).2 rfl;have b1:((0:Int) != 0)=false:=rfl;rw[Z5 (f:=3) rfl rfl];cases b2:Z3 ot se with
 |false=>simp only[go_sem,c3,hup,k1,k2,k3,k4,k5,k6,k7,k8,k9,k10,a1,a2,a3,hi,hy,hd',hq,b1,b2,ZSF,ZSw]
 |true=>
  cases b3:(Z3 td dr&&(ty==dy&&(ti==is&&Z3 m m)))with
  |false=>simp only[go_sem,c3,hup,k1,k2,k3,k4,k5,k6,k7,k8,k9,k10,a1,a2,a3,hi,hy,hd',hq,b1,b2,b3,ZSF,ZSw]
  |true=>simp only[go_sem,c3,hup,k1,k2,k3,k4,k5,k6,k7,k8,k9,k10,a1,a2,a3,hi,hy,hd',hq,b1,b2,b3,ZSF,ZSw]
def ZUS{hup:pfn rE 8 []=some (.bool true)}(se ot dr:Str)(is dy:Int)(t:Tkt)(hs:se.size<=1100000)(hd:dr.size<=1100000)(h1:ZUc is)(h2:ZUc dy)(t1:ZUc t.Issuer)(t2:ZUc t.Day)
 (a1:decide ((se.size:Int)>100)=false) (a2:decide ((ot.size:Int)>100)=false) (a3:decide ((dr.size:Int)>100)=false) (a4:ZOR t=true) (hf:ZOe (ZUd se is dr dy)=true):
 pfn rE 3 [.str se,.str ot,I is,.str dr,I dy,t.enc]=some (.bool true):=by
 have hk:=(ZOH _).1 hf;have hoz:ot.size<=1100000:=by have:=of_decide_eq_false a2;omega
 have htd:t.Door.size<=1100000:=by
  unfold ZOR at a4;have:=of_decide_eq_true (Bool.and_eq_true_iff.1 a4).1;omega
 have k1:=ZUj se is dr dy hs hd h1 h2;have kr:ZUe se is dr dy=(ZUd se is dr dy,0):=by
  unfold ZUe;rw[hf];rfl
 rw[kr]at k1;have k2:=ZUW t;rw[a4]at k2;have k3:=ZUC se (ZUd se is dr dy) hs hd h1 h2;rw[ZUN hf]at k3;obtain⟨td,ty,ti,tm⟩:=t;have k4:=ZUC ot ⟨td,ty,ti,(ZUd se is dr dy).Mark⟩ hoz htd t1 t2;cases hg:ZUg ot ⟨td,ty,ti,(ZUd se is dr dy).Mark⟩with
 |false=>
  rw[hg]at k4;exact ZUQ hup se ot dr td tm (ZUf se ⟨dr,dy,is,emp⟩) is dy ty ti k1 k2 k3 k4 a1 a2 a3
 |true=>
  rw[hg]at k4;obtain⟨g1,g2⟩:=ZUO hg;have gk:=(ZOH _).1 g1;have k10:=ZUB ot ⟨td,ty,ti,emp⟩ hoz htd t1 t2;have g3:ZUf ot ⟨td,ty,ti,emp⟩=ZUf se ⟨dr,dy,is,emp⟩:=g2;rw[g3]at k10;exact ZUR hup se ot dr td tm (ZUf se ⟨dr,dy,is,emp⟩) _ (ZO7 is) (ZO7 dy) (ZO7 ti) (ZO7 ty) is dy ty ti k1 k2 k3 k4
   (ZUi hk.i0 hk.i1) (ZUi hk.d0<|Int.le_trans hk.d1<|by decide) (ZUi gk.i0 gk.i1) (ZUi gk.d0<|Int.le_trans gk.d1<|by decide)
   (ZUB se ⟨dr,dy,is,emp⟩ hs hd h1 h2) k10 a1 a2 a3
def ZCp(hup:pfn rE 8 []=some (.bool true))(se ot dr:Str)(is dy:Int)(t:Tkt)(hs:se.size<=1100000)(hd:dr.size<=1100000)(h1:ZUc is)(h2:ZUc dy)(t1:ZUc t.Issuer)(t2:ZUc t.Day):
 pfn rE 3 [.str se,.str ot,I is,.str dr,I dy,t.enc]=some (.bool true):=by
 cases a1:decide ((se.size:Int)>100)with
 |true=>exact ZUk (hup:=hup) se ot dr is dy t hs hd h1 h2<|by rw[a1];rfl
 |false=>
  cases a2:decide ((ot.size:Int)>100)with
  |true=>exact ZUk (hup:=hup) se ot dr is dy t hs hd h1 h2<|by rw[a1,a2];rfl
  |false=>
   cases a3:decide ((dr.size:Int)>100)with
   |true=>exact ZUk (hup:=hup) se ot dr is dy t hs hd h1 h2<|by rw[a1,a2,a3];rfl
   |false=>
    cases a4:ZOR t with
    |false=>exact ZUk (hup:=hup) se ot dr is dy t hs hd h1 h2<|by rw[a1,a2,a3,a4];rfl
    |true=>
     cases hf:ZOe (ZUd se is dr dy)with
     |false=>exact ZUP (hup:=hup) se ot dr is dy t hs hd h1 h2 a1 a2 a3 a4 hf
     |true=>exact ZUS (hup:=hup) se ot dr is dy t hs hd h1 h2 t1 t2 a1 a2 a3 a4 hf
end Go.AM
namespace Go.AM
open Go
set_option maxRecDepth 1000000
@[reducible] def ZOy:REdz:=⟨none⟩
def ZPb(args:List AV):Option AV:=match args with|[.str s]=>some (Up s).val|_=>none
def ZO4:Env:={ @rE ZOy with sum:=λf=>bif Nat.beq f 55 then some (ZOd ZPb)else(@rE ZOy).sum f}
def ZOS:AV:=(.agg [(.isl false false 6 []),(.isl false false 5 []),(.isl false false 4 []),(.isl false false 16 []),(.isl false false 6 []),(.isl false false 2 []),(.isl false false 2 [])])
def ZOT:AV:=(.agg [(.int .i64 1),(.int .i64 0),(.int .i64 1),(.int .i64 0),(.int .i64 0),(.str ⟨#[109,49]⟩),(.str ⟨#[]⟩),(.str ⟨#[]⟩),(.isl false false 1 []),(.isl false false 3 []),(.int .i64 0),(.str ⟨#[]⟩),(.int .i64 0),(.int .i64 0),(.int .i64 0),(.int .i64 0),(.isl false false 2 [(.agg [(.int .i64 0),(.int .i64 0)]),(.agg [(.int .i64 9),(.int .i64 0)]),(.agg [(.int .i64 9),(.int .i64 9)]),(.agg [(.int .i64 0),(.int .i64 9)])]),(.isl false false 7 [])])
def ZOz:AV:=(.agg [(.isl false false 6 [(.agg [(.str ⟨#[109,49]⟩),(.int .i64 1),(.int .i64 1),(.isl false false 2 [(.agg [(.int .i64 0),(.int .i64 0)]),(.agg [(.int .i64 9),(.int .i64 0)]),(.agg [(.int .i64 9),(.int .i64 9)]),(.agg [(.int .i64 0),(.int .i64 9)])]),(.isl false false 3 []),(.int .i64<|-1)])]),(.isl false false 5 []),(.isl false false 4 []),(.isl false false 16 []),(.isl false false 6 []),(.isl false false 2 []),(.isl false false 2 [])])
def ZOU:AV:=(.agg [(.int .i64 2),(.int .i64 3),(.int .i64 0),(.int .i64 0),(.int .i64 0),(.str ⟨#[115,49]⟩),(.str ⟨#[]⟩),(.str ⟨#[]⟩),(.isl false false 1 []),(.isl false false 3 []),(.int .i64 0),(.str ⟨#[]⟩),(.int .i64 0),(.int .i64 0),(.int .i64 0),(.int .i64 0),(.isl false false 2 [(.agg [(.int .i64 2),(.int .i64 2)]),(.agg [(.int .i64 7),(.int .i64 2)])]),(.isl false false 7 [])])
def ZOA:AV:=(.agg [(.isl false false 6 [(.agg [(.str ⟨#[109,49]⟩),(.int .i64 1),(.int .i64 1),(.isl false false 2 [(.agg [(.int .i64 0),(.int .i64 0)]),(.agg [(.int .i64 9),(.int .i64 0)]),(.agg [(.int .i64 9),(.int .i64 9)]),(.agg [(.int .i64 0),(.int .i64 9)])]),(.isl false false 3 []),(.int .i64<|-1)])]),(.isl false false 5 [(.agg [(.str ⟨#[115,49]⟩),(.int .i64 1),(.isl false false 2 [(.agg [(.int .i64 2),(.int .i64 2)]),(.agg [(.int .i64 7),(.int .i64 2)])]),(.isl false false 3 []),(.int .i64<|-1)])]),(.isl false false 4 []),(.isl false false 16 []),(.isl false false 6 []),(.isl false false 2 []),(.isl false false 2 [])])
def ZOV:AV:=(.agg [(.int .i64 5),(.int .i64 3),(.int .i64 0),(.int .i64 0),(.int .i64 0),(.str ⟨#[98,49]⟩),(.str ⟨#[]⟩),(.str ⟨#[]⟩),(.isl false false 1 []),(.isl false false 3 []),(.int .i64 0),(.str ⟨#[]⟩),(.int .i64 0),(.int .i64 0),(.int .i64 0),(.int .i64 0),(.isl false false 2 [(.agg [(.int .i64 2),(.int .i64 2)]),(.agg [(.int .i64 4),(.int .i64 2)]),(.agg [(.int .i64 2),(.int .i64 4)])]),(.isl false false 7 [])])
def ZOB:AV:=(.agg [(.isl false false 6 [(.agg [(.str ⟨#[109,49]⟩),(.int .i64 1),(.int .i64 1),(.isl false false 2 [(.agg [(.int .i64 0),(.int .i64 0)]),(.agg [(.int .i64 9),(.int .i64 0)]),(.agg [(.int .i64 9),(.int .i64 9)]),(.agg [(.int .i64 0),(.int .i64 9)])]),(.isl false false 3 []),(.int .i64<|-1)])]),(.isl false false 5 [(.agg [(.str ⟨#[115,49]⟩),(.int .i64 1),(.isl false false 2 [(.agg [(.int .i64 2),(.int .i64 2)]),(.agg [(.int .i64 7),(.int .i64 2)])]),(.isl false false 3 []),(.int .i64<|-1)])]),(.isl false false 4 [(.agg [(.str ⟨#[98,49]⟩),(.int .i64 1),(.isl false false 2 [(.agg [(.int .i64 2),(.int .i64 2)]),(.agg [(.int .i64 4),(.int .i64 2)]),(.agg [(.int .i64 2),(.int .i64 4)])]),(.int .i64<|-1)])]),(.isl false false 16 []),(.isl false false 6 []),(.isl false false 2 []),(.isl false false 2 [])])
def ZOW:AV:=(.agg [(.int .i64 6),(.int .i64 3),(.int .i64 0),(.int .i64 0),(.int .i64 0),(.str ⟨#[101,49]⟩),(.str ⟨#[98,49]⟩),(.str ⟨#[115,49]⟩),(.isl false false 1 []),(.isl false false 3 []),(.int .i64 1),(.str ⟨#[]⟩),(.int .i64 0),(.int .i64 0),(.int .i64 2),(.int .i64 2),(.isl false false 2 []),(.isl false false 7 [])])
def ZOl:AV:=(.agg [(.isl false false 6 [(.agg [(.str ⟨#[109,49]⟩),(.int .i64 1),(.int .i64 1),(.isl false false 2 [(.agg [(.int .i64 0),(.int .i64 0)]),(.agg [(.int .i64 9),(.int .i64 0)]),(.agg [(.int .i64 9),(.int .i64 9)]),(.agg [(.int .i64 0),(.int .i64 9)])]),(.isl false false 3 []),(.int .i64<|-1)])]),(.isl false false 5 [(.agg [(.str ⟨#[115,49]⟩),(.int .i64 1),(.isl false false 2 [(.agg [(.int .i64 2),(.int .i64 2)]),(.agg [(.int .i64 7),(.int .i64 2)])]),(.isl false false 3 []),(.int .i64<|-1)])]),(.isl false false 4 [(.agg [(.str ⟨#[98,49]⟩),(.int .i64 1),(.isl false false 2 [(.agg [(.int .i64 2),(.int .i64 2)]),(.agg [(.int .i64 4),(.int .i64 2)]),(.agg [(.int .i64 2),(.int .i64 4)])]),(.int .i64<|-1)])]),(.isl false false 16 [(.agg [(.str ⟨#[101,49]⟩),(.str ⟨#[98,49]⟩),(.str ⟨#[115,49]⟩),(.int .i64 1),(.int .i64 1),(.str ⟨#[]⟩),(.int .i64 0),(.int .i64 0),(.int .i64 2),(.int .i64 2),(.int .i64 3),(.int .i64<|-1),(.isl false false 1 []),(.int .i64 0),(.int .i64 0),(.str ⟨#[]⟩)])]),(.isl false false 6 []),(.isl false false 2 []),(.isl false false 2 [])])
def ZOX:AV:=(.agg [(.int .i64 9),(.int .i64 7),(.int .i64 0),(.int .i64 0),(.int .i64 0),(.str ⟨#[101,49]⟩),(.str ⟨#[]⟩),(.str ⟨#[]⟩),(.isl false false 1 []),(.isl false false 3 []),(.int .i64 0),(.str ⟨#[]⟩),(.int .i64 0),(.int .i64 0),(.int .i64 0),(.int .i64 0),(.isl false false 2 []),(.isl false false 7 [(.agg [(.str ⟨#[101,50]⟩),(.int .i64 1),(.str ⟨#[]⟩),(.int .i64 0),(.int .i64 0),(.int .i64 2),(.int .i64 2)]),(.agg [(.str ⟨#[101,51]⟩),(.int .i64 3),(.str ⟨#[]⟩),(.int .i64 0),(.int .i64 0),(.int .i64 2),(.int .i64 2)])])])
def ZOY:AV:=(.agg [(.isl false false 6 [(.agg [(.str ⟨#[109,49]⟩),(.int .i64 1),(.int .i64 1),(.isl false false 2 [(.agg [(.int .i64 0),(.int .i64 0)]),(.agg [(.int .i64 9),(.int .i64 0)]),(.agg [(.int .i64 9),(.int .i64 9)]),(.agg [(.int .i64 0),(.int .i64 9)])]),(.isl false false 3 []),(.int .i64<|-1)])]),(.isl false false 5 [(.agg [(.str ⟨#[115,49]⟩),(.int .i64 1),(.isl false false 2 [(.agg [(.int .i64 2),(.int .i64 2)]),(.agg [(.int .i64 7),(.int .i64 2)])]),(.isl false false 3 []),(.int .i64<|-1)])]),(.isl false false 4 [(.agg [(.str ⟨#[98,49]⟩),(.int .i64 1),(.isl false false 2 [(.agg [(.int .i64 2),(.int .i64 2)]),(.agg [(.int .i64 4),(.int .i64 2)]),(.agg [(.int .i64 2),(.int .i64 4)])]),(.int .i64<|-1)])]),(.isl false false 16 [(.agg [(.str ⟨#[101,49]⟩),(.str ⟨#[98,49]⟩),(.str ⟨#[115,49]⟩),(.int .i64 1),(.int .i64 1),(.str ⟨#[]⟩),(.int .i64 0),(.int .i64 0),(.int .i64 2),(.int .i64 2),(.int .i64 3),(.int .i64 7),(.isl false false 1 [(.str ⟨#[101,50]⟩),(.str ⟨#[101,51]⟩)]),(.int .i64 9),(.int .i64 0),(.str ⟨#[]⟩)]),(.agg [(.str ⟨#[101,50]⟩),(.str ⟨#[98,49]⟩),(.str ⟨#[115,49]⟩),(.int .i64 1),(.int .i64 1),(.str ⟨#[]⟩),(.int .i64 0),(.int .i64 0),(.int .i64 2),(.int .i64 2),(.int .i64 7),(.int .i64<|-1),(.isl false false 1 []),(.int .i64 0),(.int .i64 0),(.str ⟨#[]⟩)]),(.agg [(.str ⟨#[101,51]⟩),(.str ⟨#[98,49]⟩),(.str ⟨#[115,49]⟩),(.int .i64 1),(.int .i64 3),(.str ⟨#[]⟩),(.int .i64 0),(.int .i64 0),(.int .i64 2),(.int .i64 2),(.int .i64 7),(.int .i64<|-1),(.isl false false 1 []),(.int .i64 0),(.int .i64 0),(.str ⟨#[]⟩)])]),(.isl false false 6 []),(.isl false false 2 []),(.isl false false 2 [])])
def ZR6:okP ZO4 20000 38 [ZOS,(.int .i64 1),ZOT] (.int .i64 0)=true:=by decide +kernel
def ZR7:okP ZO4 20000 38 [ZOz,(.int .i64 1),ZOU] (.int .i64 0)=true:=by decide +kernel
def ZR8:okP ZO4 20000 38 [ZOA,(.int .i64 1),ZOV] (.int .i64 0)=true:=by decide +kernel
def ZR9:okP ZO4 20000 38 [ZOB,(.int .i64 1),ZOW] (.int .i64 0)=true:=by decide +kernel
def ZRa:okP ZO4 20000 38 [ZOl,(.int .i64 1),ZOX] (.int .i64 0)=true:=by decide +kernel
def ZPc:List (List AV×AV):=[([ZOS,(.int .i64 1),ZOT],(.int .i64 0)),([ZOz,(.int .i64 1),ZOU],(.int .i64 0)),([ZOA,(.int .i64 1),ZOV],(.int .i64 0)),([ZOB,(.int .i64 1),ZOW],(.int .i64 0)),([ZOl,(.int .i64 1),ZOX],(.int .i64 0))]
def ZRb:∀p∈ZPc,pfn ZO4 38 p.1=some p.2:=by
 intro p hp;simp only[ZPc,ZSc,ZTC,or_false]at hp;rcases hp with rfl|rfl|rfl|rfl|rfl
 .exact ZOa ZR6
 .exact ZOa ZR7
 .exact ZOa ZR8
 .exact ZOa ZR9
 .exact ZOa ZRa
def ZRc:okP ZO4 20000 39 [ZOS,(.int .i64 1),ZOT] (.tup [ZOz,(.int .i64 0)])=true:=by decide +kernel
def ZRd:okP ZO4 20000 39 [ZOz,(.int .i64 1),ZOU] (.tup [ZOA,(.int .i64 0)])=true:=by decide +kernel
def ZRe:okP ZO4 20000 39 [ZOA,(.int .i64 1),ZOV] (.tup [ZOB,(.int .i64 0)])=true:=by decide +kernel
def ZRf:okP ZO4 20000 39 [ZOB,(.int .i64 1),ZOW] (.tup [ZOl,(.int .i64 0)])=true:=by decide +kernel
def ZRg:okP ZO4 20000 39 [ZOl,(.int .i64 1),ZOX] (.tup [ZOY,(.int .i64 0)])=true:=by decide +kernel
def ZPd:List (List AV×AV):=[([ZOS,(.int .i64 1),ZOT],(.tup [ZOz,(.int .i64 0)])),([ZOz,(.int .i64 1),ZOU],(.tup [ZOA,(.int .i64 0)])),([ZOA,(.int .i64 1),ZOV],(.tup [ZOB,(.int .i64 0)])),([ZOB,(.int .i64 1),ZOW],(.tup [ZOl,(.int .i64 0)])),([ZOl,(.int .i64 1),ZOX],(.tup [ZOY,(.int .i64 0)]))]
def ZRh:∀p∈ZPd,pfn ZO4 39 p.1=some p.2:=by
 intro p hp;simp only[ZPd,ZSc,ZTC,or_false]at hp;rcases hp with rfl|rfl|rfl|rfl|rfl
 .exact ZOa ZRc
 .exact ZOa ZRd
 .exact ZOa ZRe
 .exact ZOa ZRf
 .exact ZOa ZRg
def ZRi:okP ZO4 20000 77 [ZOl] (.bool true)=true:=by decide +kernel
def ZRj:okP ZO4 20000 77 [ZOY] (.bool true)=true:=by decide +kernel
def ZPe:List (List AV×AV):=[([ZOl],(.bool true)),([ZOY],(.bool true))]
def ZRk:∀p∈ZPe,pfn ZO4 77 p.1=some p.2:=by
 intro p hp;simp only[ZPe,ZSc,ZTC,or_false]at hp;rcases hp with rfl|rfl
 .exact ZOa ZRi
 .exact ZOa ZRj
def ZOZ:Env:={ZO4 with sum:=λf=>bif Nat.beq f 38 then some (ZOd<|ZOD ZPc)else bif Nat.beq f 39 then some (ZOd<|ZOD ZPd)else bif Nat.beq f 77 then some (ZOd<|ZOD ZPe)else ZO4.sum f}
def ZRl:okP ZOZ 20000 8 [] (.bool true)=true:=by decide +kernel
def ZRm:pfn ZOZ 8 []=some (.bool true):=ZOa ZRl
end Go.AM
namespace Go.AM
open Go
def Z4M(E:Env)(hf:E.fn 44=some a44)(hs:E.sum 44=none)(v:Str):pfn E 44 [.str v]=some (.str v):=by
 rw[Z5 (f:=44) hs hf];simp only[go_sem,c44]
def ZGM(E:Env)(hf:E.fn 46=some a46)(hs:E.sum 46=none)(v:Str)(a b:Int):pfn E 46 [.agg [.str v,I a,I b]]=some (.str v):=by
 rw[Z5 (f:=46) hs hf];simp only[go_sem,c46]
def ZFO(v:Str):pfn e0 179 [.str v]=some (.bool false):=by
 have hn:Z3 v v=true:=by unfold Z3;simp
 rw[Z5 (f:=179) rfl rfl];simp only[go_sem,c179,hn,ZSF]
def ZEA(a b:Str):WW a b=decide (a.data.toList<b.data.toList):=by
 unfold WW;rw[Go.Proofs.bytesLess_eq]
def ZFP(a b:Str):pfn e0 99 [.str a,.str b]=some (I<|ZEg a.data.toList b.data.toList):=by
 have h1:=ZFO a;have h2:=ZFO b;unfold ZEg;rw[<-ZEA,<-ZEA];rw[Z5 (f:=99) rfl rfl];cases c:WW a b with
 |true=>simp only[go_sem,c99,h1,h2,c]
 |false=>
  cases c2:WW b a with
  |true=>
   have c3:Z3 a b=false:=by
    cases h:Z3 a b with
    |false=>rfl
    |true=>
     exfalso;have he:a.data.toList=b.data.toList:=by unfold Z3 at h;simpa using h
     rw[ZEA,he,decide_eq_true_iff]at c2;exact List.lt_irrefl _ c2
   simp only[go_sem,c99,h1,h2,c,c2,c3,ZSw,ZTE]
  |false=>
   have c3:Z3 a b=true:=by
    rw[ZEA,decide_eq_false_iff_not]at c c2;unfold Z3;simp only[beq_iff_eq];exact List.le_antisymm c2 c
   simp only[go_sem,c99,h1,h2,c,c2,c3,ZSF,ZTF]
def ZEa(k:Nat):AV:=.clo (.func k) [] []
def ZFQ{k:Nat}{caps:List AV}(h:ckS k caps=true):caps=[.iptr false [ZEa k]]:=by
 unfold ckS at h;split at h
 .rw[ZTa h];rfl
 .cases h
def ZRn(caps:List AV)(x y:List UInt8)(h:ckS 44 caps=true):∃h',fnV e0 98 ([Qd x,Qd y]++caps) []=some (.int .i64<|ZEg x y,h'):=by
 obtain rfl:=ZFQ h;have h1:=Z4M e0 rfl rfl;have h2:=ZFP ⟨x.toArray⟩ ⟨y.toArray⟩;simp only[List.toList_toArray]at h2;unfold Qd ZEa;rw[Q6 (f:=98) rfl rfl];simp only[ZSr,ZT1];exact⟨_,by simp only[go_sem,c98,h1,h2];rfl⟩
def ZE4(s:Str):List Int:=s.data.toList.map λb=>(b.toNat:Int)
def ZEM:∀x y:List UInt8,lexB (x.map λb=>(b.toNat:Int)) (y.map λb=>(b.toNat:Int))=decide (x<y)
 |[],[]=>by simp[lexB]
 |[],_::_=>by simp[lexB]
 |_::_,[]=>by simp[lexB]
 |a::r,b::s=>by
  simp only[ZS9,lexB,ZEM r s];rw[ZTD];simp only[ZT0,ZS5,decide_eq_true_eq,beq_iff_eq,List.cons_lt_cons_iff,UInt8.lt_iff_toNat_lt,<-UInt8.toNat_inj,Int.ofNat_lt,Int.natCast_inj]
def ZGO(x y:List UInt8):cmpL (x.map λb=>(b.toNat:Int)) (y.map λb=>(b.toNat:Int))=ZEg x y:=by
 unfold cmpL ZEg;rw[ZEM,ZEM]
def ZFR{caps:List AV}{x:AV}{k:List Int}(h:ZEm caps x=some k):caps=[.iptr false [ZEa 46]]/\∃(s:Str)(a b:Int),x=.agg [.str s,I a,I b]/\k=ZE4 s:=by
 unfold ZEm at h;cases hc:ckS 46 caps with
 |false=>rw[hc]at h;cases h
 |true=>
  rw[hc,cond_true]at h;refine⟨ZFQ hc,?_⟩;unfold ZEf at h;split at h
  .cases h;exact⟨_,_,_,rfl,rfl⟩
  .cases h
def ZRo(caps:List AV)(x y:AV)(kx ky:List Int)(hx:ZEm caps x=some kx)(hy:ZEm caps y=some ky):∃h',fnV e0 101 ([x,y]++caps) []=some (.int .i64<|cmpL kx ky,h'):=by
 obtain⟨rfl,s,a,b,rfl,rfl⟩:=ZFR hx;obtain⟨_,t,a',b',rfl,rfl⟩:=ZFR hy;have h1:=ZGM e0 rfl rfl;have h2:=ZFP s t;unfold ZE4 ZEa;rw[ZGO,Q6 (f:=101) rfl rfl];simp only[ZSr,ZT1];exact⟨_,by simp only[go_sem,c101,h1,h2];rfl⟩
def ZFS{h:Hp}{b:Nat}{o o2:AObj}(hb:h[b]?=some o2):(setH h b o).length=h.length:=by
 have hl:b<h.length:=(ZS7.1 hb).1;unfold setH;rw[show Nat.blt b h.length=true by simpa using hl,cond_true,ZT3]
def ZE5{n:Nat}{fr:Fr}{h:Hp}(hl:h.length=n):Xq n fr h=h:=by
 unfold Xq;rw[ZSX<|by omega]
 cases Zd n (fr.map (·.2))&&X4 n h<;>rfl
def ZRp(args:List AV)(h:Hp)(v:AV)(wr:Option<|Nat×AObj)(he:ZE8 (ZE7 44) h args=some (v,wr)):fnV e1 43 args h=some (v,ZH h wr):=by
 unfold ZE8 at he;split at he
 .rename_i b g off len ex r;split at he
  .rename_i sz es hb;cases hc:es.length==g&&(off==0&&(len==g&&noP r))with
   |false=>rw[hc]at he;cases he
   |true=>
    rw[hc,cond_true]at he;simp only[ZS8]at he;obtain⟨es',h1,h2⟩:=he;cases h2;unfold ZE7 at h1;split at h1
    .rename_i k;cases hc2:Nat.beq k 44&&(sz==1&&(es.all WB&&Nat.ble es.length 1000000))with
     |false=>rw[hc2]at h1;cases h1
     |true=>
      rw[hc2]at h1;cases h1;simp only[ZS5,beq_iff_eq]at hc hc2;obtain⟨c1,rfl,c3,c4⟩:=hc2;obtain rfl:=ZTa c1;obtain⟨rfl,rfl,rfl,_⟩:=hc;have hs:fnV e1 97 [.sl b es.length 0 es.length ex,.clo (.func 98) [] [.iptr false [.clo (.func 44) [] []]]] h=some (.tup [],setH h b<|.row 1<|Yk es):=by
       rw[V8 (s:=ZEt 98<|ckS 44) rfl];unfold ZEt;simp only[hb,c3,c4,beq_self_eq_true,ZSS,ZSu,cond_true];rfl
      rw[Q6 (f:=43) rfl rfl];simp only[go_sem,c43,hs,ZH,ZE5<|ZFS hb]
    .cases h1
  .cases he
 .rename_i bw ex sz r;cases hn:noP r with
  |false=>rw[hn]at he;cases he
  |true=>
   rw[hn,cond_true]at he;split at he
   .rename_i h1;cases he;unfold ZE7 at h1;split at h1
    .rename_i k;have hs:∀sz,fnV e1 97 [.isl bw ex sz [],.clo (.func 98) [] [.iptr false [.clo (.func k) [] []]]] h=some (.tup [],h):=λsz=>by
      rw[V8 (s:=ZEt 98<|ckS 44) rfl];rfl
     rw[Q6 (f:=43) rfl rfl];simp only[go_sem,c43,hs,ZH,ZE5 (h:=h) rfl]
    .cases h1
   .cases he
 .rename_i b r;split at he
  .rename_i sz e sz2 es ks vs _ _ _;cases hk:Z4 ks&&Z4 vs with
   |false=>rw[hk]at he;cases he
   |true=>
    rw[hk,cond_true]at he;have hnone:∀{k:Nat}{x y:List AV}{z:Nat},ZE7 44 (.ptr k 0 0 z::r) sz x=some y->False:=λh=>by
     cases r<;>simp[ZE7]at h
    split at he
    .rename_i hh;exact(hnone hh).elim
    .cases he
  .cases he
 .cases he
def ZRq(args:List AV)(h:Hp)(v:AV)(wr:Option<|Nat×AObj)(he:ZE8 (ZEe 46 3 ZEf) h args=some (v,wr)):fnV e1 45 args h=some (v,ZH h wr):=by
 unfold ZE8 at he;split at he
 .rename_i b g off len ex r;split at he
  .rename_i sz es hb;cases hc:es.length==g&&(off==0&&(len==g&&noP r))with
   |false=>rw[hc]at he;cases he
   |true=>
    rw[hc,cond_true]at he;simp only[ZS8]at he;obtain⟨es',h1,h2⟩:=he;cases h2;unfold ZEe at h1;split at h1
    .rename_i k;split at h1
     .rename_i l hl;cases hc2:Nat.beq k 46&&(sz==3&&(Z4 es&&(es.all Zwl&&(es.all (fits 3)&&(ZvJ l&&Nat.ble es.length 1000000)))))with
      |false=>rw[hc2]at h1;cases h1
      |true=>
       rw[hc2]at h1;cases h1;simp only[ZS5,beq_iff_eq]at hc hc2;obtain⟨c1,rfl,c3,c4,c5,c6,c7⟩:=hc2;obtain rfl:=ZTa c1;obtain⟨rfl,rfl,rfl,_⟩:=hc;have hs:fnV e1 100 [.sl b es.length 0 es.length ex,.clo (.func 101) [] [.iptr false [.clo (.func 46) [] []]]] h=some (.tup [],setH h b (.row 3 ((ZvN l).map (·.2)))):=by
        rw[V8 (s:=ZvW 101 3 ZEm) rfl];unfold ZvW;have hk:keysOf (ZEm [.iptr false [.clo (.func 46) [] []]]) es=some l:=hl;cases es with
        |nil=>
         cases hl;simp only[hb];have e1:setH h b (.row 3 [])=h:=RT hb;exact congrArg some<|Prod.ext rfl e1.symm
        |cons a r=>
         simp only[hb,hk,c3,c4,c5,c6,c7,beq_self_eq_true,ZSS,ZSu,cond_true,List.isEmpty_cons,cond_false,ZSw];rfl
       rw[Q6 (f:=45) rfl rfl];simp only[go_sem,c45,hs,ZH,ZE5<|ZFS hb]
     .cases h1
    .cases h1
  .cases he
 .rename_i bw ex sz r;cases hn:noP r with
  |false=>rw[hn]at he;cases he
  |true=>
   rw[hn,cond_true]at he;split at he
   .rename_i h1;cases he;unfold ZEe at h1;split at h1
    .rename_i k;have hs:∀sz,fnV e1 100 [.isl bw ex sz [],.clo (.func 101) [] [.iptr false [.clo (.func k) [] []]]] h=some (.tup [],h):=λsz=>by
      rw[V8 (s:=ZvW 101 3 ZEm) rfl];rfl
     rw[Q6 (f:=45) rfl rfl];simp only[go_sem,c45,hs,ZH,ZE5 (h:=h) rfl]
    .cases h1
   .cases he
 .rename_i b r;split at he
  .rename_i sz e sz2 es ks vs _ _ _;cases hk:Z4 ks&&Z4 vs with
   |false=>rw[hk]at he;cases he
   |true=>
    rw[hk,cond_true]at he;have hnone:∀{k:Nat}{x y:List AV}{z:Nat},ZEe 46 3 ZEf (.ptr k 0 0 z::r) sz x=some y->False:=λh=>by
     cases r<;>simp[ZEe]at h
    split at he
    .rename_i hh;exact(hnone hh).elim
    .cases he
  .cases he
 .cases he
def Zwa(a b:Int):Int:=bif decide (a<b)then -1 else bif decide (a>b)then 1 else 0
def orL:List Int->Int
 |[]=>0
 |a::r=>bif a != 0 then a else orL r
def Zyp:∀a b:List Int,a.length=b.length->orL (List.zipWith Zwa a b)=cmpL a b
 |[],[],_=>rfl
 |[],_::_,h=>by cases h
 |_::_,[],h=>by cases h
 |a::r,b::s,h=>by
  have ih:=Zyp r s<|by simpa using h
  have e1:lexB (a::r) (b::s)=(decide (a<b)||(a==b&&lexB r s)):=rfl;have e2:lexB (b::s) (a::r)=(decide (b<a)||(b==a&&lexB s r)):=rfl;rw[List.zipWith_cons_cons,orL,ih];unfold cmpL Zwa;rw[e1,e2];by_cases h1:a<b
  .simp[h1]
  .by_cases h2:b<a
   .have h4:(a==b)=false:=by simpa using(by omega:¬a=b)
    simp[h1,h2,h4]
   .have h4:a=b:=by omega
    subst h4;simp
def Zyq(a:Int):pfn e0 124 [I a]=some (.bool false):=by
 have hn:(a != a)=false:=by simp
 rw[Z5 (f:=124) rfl rfl];simp only[go_sem,c124,hn]
def Zwb(a b:Int):pfn e0 68 [I a,I b]=some (I<|Zwa a b):=by
 have h1:=Zyq a;have h2:=Zyq b;unfold Zwa;rw[Z5 (f:=68) rfl rfl];cases c:decide (a<b)with
 |true=>simp only[go_sem,c68,h1,h2,c]
 |false=>cases c2:decide (a>b)<;>simp only[go_sem,c68,h1,h2,c,c2]
def ZA7(l:List Int)(hl:l.length<=1000):pfn e0 67 [.isl false false 1<|l.map I]=some (I<|orL l):=by
 obtain⟨e,fr',h',L,hh,hQ⟩:=Z9Y (E:=e0) (live:=[3,6,7,8]) (b:=c67L0b) l.length
  (λi fr h=>fr=[(3,I 0),(6,.isl false false 1<|l.map I),(7,I l.length),(8,I i)]/\h=[]/\orL l=orL (l.drop i))
  (λe fr h=>h=[]/\((e=.exit 0/\get fr 3=I 0/\orL l=0)\/(e=.ret/\get fr 2=I (orL l))))
  (λi fr h m=>by obtain⟨rfl,_,_⟩:=m;rfl)
  (λi fr h hi m=>by
   obtain⟨rfl,rfl,ho⟩:=m;obtain⟨x,hx⟩:∃x,l[i]?=some x:=⟨_,ZSb hi⟩;have hg:=Z6 (f:=I) hx;have hi':=Zh hi;have hwr:=Zx (n:=i)<|by omega
   have hd:l.drop i=x::l.drop (i+1):=by
    rw[ZTu hi,(ZS7.1 hx).2]
   rw[hd,orL]at ho;cases c:x != 0 with
   |true=>
    rw[c,cond_true]at ho;refine Or.inr ⟨.ret,_,[],by simp only[go_sem,c67L0b,hg,hi',c];rfl,by simp,rfl,Or.inr ⟨rfl,?_⟩⟩
    rw[ho];simp only[go_sem]
   |false=>
    rw[c,cond_false]at ho;refine Or.inl ⟨_,[],by simp only[go_sem,c67L0b,hg,hi',hwr,c];rfl,?_,rfl,ho⟩
    simp only[go_sem])
  (λfr h m=>by
   obtain⟨rfl,rfl,ho⟩:=m;rw[List.drop_length]at ho;refine⟨.exit 0,_,[],by simp only[go_sem,c67L0b,ZG];rfl,by simp,rfl,Or.inl ⟨rfl,?_,ho⟩⟩
   simp only[go_sem])
  l.length 0 [(3,I 0),(6,.isl false false 1<|l.map I),(7,I l.length),(8,.int .i64 0)] [] (by omega) ⟨rfl,rfl,rfl⟩
 subst hh;rw[Z5 (f:=67) rfl rfl];rcases hQ with⟨rfl,h3,ho⟩|⟨rfl,h2⟩
 .simp only[go_sem,c67,c67L0,L,h3,ho]
 .simp only[go_sem,c67,c67L0,L,h2]
def Zyr{caps:List AV}{x:AV}{k:List Int}(h:ZvF caps x=some k):∃bw b2 ex vs,caps=[.iptr bw [.isl b2 ex 8 vs]]/\∃(i kk:Nat)(au nu at' n5 day:Int)(s3:Str)(b3 ex3 b6 ex6 b7 ex7:Bool)(z6 z7:Nat)(es l6 l7 cs:List AV)(e1:AV),
 x=.agg [I i,I kk]/\vs[i]?=some (.agg [I au,I nu,I at',.str s3,.isl b3 ex3 18 es,I n5,.isl b6 ex6 z6 l6,.isl b7 ex7 z7 l7])/\es[kk]?=some (.agg<|e1::I day::cs)/\k=[day,at',au,nu,(kk:Int)]:=by
 unfold ZvF at h;split at h
 .rename_i bw b2 ex vs i kk;cases c1:decide (0<=i)&&decide (0<=kk)with
  |false=>rw[c1]at h;cases h
  |true=>
  rw[c1,cond_true]at h;simp only[ZS5,decide_eq_true_eq]at c1;obtain⟨n,rfl⟩:∃n:Nat,i=n:=⟨i.toNat,by omega⟩
  obtain⟨m,rfl⟩:∃m:Nat,kk=m:=⟨kk.toNat,by omega⟩
  simp only[Int.toNat_natCast]at h;split at h
  .rename_i hv;split at h
   .rename_i he;cases h;exact⟨_,_,_,_,rfl,n,m,_,_,_,_,_,_,_,_,_,_,_,_,_,_,_,_,_,_,_,rfl,hv,he,rfl⟩
   .cases h
  .cases h
 .cases h
def ZA8(caps:List AV)(x y:AV)(kx ky:List Int)(hx:ZvF caps x=some kx)(hy:ZvF caps y=some ky):∃h',fnV e0 66 ([x,y]++caps) []=some (.int .i64<|cmpL kx ky,h'):=by
 obtain⟨bw,b2,ex,vs,rfl,i,k,au,nu,at',n5,day,s3,b3,ex3,b6,ex6,b7,ex7,z6,z7,es,l6,l7,cs,e1,rfl,hv,he,rfl⟩:=Zyr hx;obtain⟨bw',b2',ex',vs',heq,i',k',au',nu',at2,n5',day',s3',b3',ex3',b6',ex6',b7',ex7',z6',z7',es',l6',l7',cs',e1',rfl,hv',he',rfl⟩:=Zyr hy;cases heq;have q1:=Zwb day day';have q2:=Zwb at' at2;have q3:=Zwb au au';have q4:=Zwb nu nu';have q5:=Zwb (k:Int) (k':Int);have q6:=ZA7 (List.zipWith Zwa [day,at',au,nu,(k:Int)] [day',at2,au',nu',(k':Int)])<|by simp
 have q7:=Zyp [day,at',au,nu,(k:Int)] [day',at2,au',nu',(k':Int)] rfl;rw[q7]at q6;clear q7;simp only[List.zipWith_cons_cons,List.zipWith_nil_right,ZS9,ZSA]at q6;generalize cmpL _ _=r at*;have z0:((0:Int)<=0/\(0:Int)<((2:Nat):Int))=True:=by simp
 have z1:((0:Int)<=1/\(1:Int)<((2:Nat):Int))=True:=by simp
 have t0:Int.toNat 0*1=0:=rfl;have t1:Int.toNat 1*1=1:=rfl;rw[Q6 (f:=66) rfl rfl];refine⟨_,by simp only[go_sem,c66,ZSr,ZT1,hv,he,hv',he',q1,q2,q3,q4,q5,q6,z0,z1,t0,t1,if_true];rfl⟩
end Go.AM
