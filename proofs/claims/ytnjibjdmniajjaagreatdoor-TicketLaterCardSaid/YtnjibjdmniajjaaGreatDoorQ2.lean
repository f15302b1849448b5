/- The abstract machine and its soundness, part 2: what it computes, the program computes. No condition. -/
import Derived.Test.YtnjibjdmniajjaaGreatDoorQ1
import Derived.LoopNIn
import Derived.RangeFuncRecord
set_option linter.unusedVariables false
set_option linter.defProp false
set_option linter.unusedSimpArgs false
set_option linter.unusedSectionVars false
namespace Go.AM
open Go
variable [Dr]
variable {P:Program} {E:Env} {T:Ty} {X:Xt} {w:World} {h:Hp} {fr:Fr} {a:Act}
def G9:Operand->Bool
 | .const (.slice none 0 0)=>true
 |_=>false
def isSlice(P:Program)(t:TypeId):Option TypeId:=
 match P.underlying t with
 |some (.slice e)=>some e
 |_=>none
def ZFF(P:Program)(t:TypeId):Bool:=
 match P.underlying t with
 |some (.pointer _)=>true
 |_=>false
def V3(P:Program)(t:TypeId):Bool:=
 match P.underlying t with
 |some .string=>true
 |_=>false
def isMap(P:Program)(t:TypeId):Option (TypeId×TypeId):=
 match P.underlying t with
 |some (.map k e)=>some (k,e)
 |_=>none
def V4(P:Program)(t:TypeId):Option (Nat×TypeId):=
 match P.underlying t with
 |some (.array n e)=>some (n,e)
 |_=>none
def V5(P:Program)(t:TypeId):Option (Array Field):=
 match P.underlying t with
 |some (.struct fs)=>some fs
 |_=>none
def MF(P:Program)(t:TypeId):Bool:=
 match P.underlying t with
 |some (.int _)=>true
 |_=>false
def KI(P:Program)(t:TypeId)(z:AV):Bool:=
 match YH P t with
 |some v=>Q3 v z
 |none=>false
def VI:Option Operand->Option Arg->Bool
 |none,none=>true
 |some x,some y=>Zr x y
 |_,_=>false
def Gb(P:Program):Op->AOp->Bool
 | .move x,.rel y=>Zr x y
 | .assign x,.rel y=>Zr x y
 | .move x,.mv y=>Zr x y
 | .assign x,.mv y=>Zr x y
 | .move x,.own sz=>G9 x&&decide (0<sz)
 | .assign x,.own sz=>G9 x&&decide (0<sz)
 | .pick c x y,.pick c' x' y'=>Zr c c'&&Zr x x'&&Zr y y'
 | .alloc t,.box sz (.c z)=>KI P t z&&decide (0<sz)
 | .box _ x,.box sz y=>Zr x y&&decide (0<sz)
 | .alloc t,.ibox sz (.c z)=>KI P t z&&decide (0<sz)
 | .box _ x,.ibox sz y=>Zr x y&&decide (0<sz)
 | .build t ps,.build z qs=>
  (match YH P t with|some v=>Wr v.cells.toList z|none=>false)&&
  (match V5 P t with
   |some a=>(KH P a.toList).isSome&&Xx (KG P a) ps.toList qs
   |none=>
    match V4 P t with
    |some (_,e)=>(match ZR P e with|some sz=>Xx (λi=>some (i*sz,sz)) ps.toList qs|none=>false)
    |none=>false)
 | .buildSlice t len ps,.bsl _ _ sz z len' qs=>
  match isSlice P t with
  |some e=>decide (len=len')&&decide (0<sz)&&decide (len*sz<=16777216)&&decide (ZR P e=some sz)&&KI P e z&&Xx (λi=>some (i*sz,sz)) ps.toList (qs.map λq=>(q.1*sz,sz,q.2))
  |none=>false
 | .load t x,.load n y=>Xv P t n&&Zr x y
 | .load t x,.ldr n _ y=>Xv P t (some n)&&Zr x y
 | .store t x y,.store n x' y'=>decide (ZR P t=some n)&&Zr x x'&&Zr y y'
 | .nilCheck x,.nilck y=>Zr x y
 | .binOp op t x (.const<|.pointer none) _,.isn neg y=>decide (op=if neg then .neq else .eql)&&ZFF P t&&Zr x y
 | .binOp op _ x y _,.bin op' x' y'=>decide (op=op')&&Zr x x'&&Zr y y'
 | .binOp op t x y _,.eqv neg ag ks x' y'=>decide (op=if neg then .neq else .eql)&&decide (tk P 20 t=some ks)&&decide (ZF P t=ag)&&!P.eqGuardType P.depth t&&Zr x x'&&Zr y y'
 | .unOp op _ x,.un op' y=>decide (op=op')&&Zr x y
 | .convert s d x,.conv k y=>
  Zr x y&&(match P.underlying s,P.underlying d,k with
   |some _,some<|.int k',some k=>decide (k=k')
   |some _,some .string,none=>true
   |_,_,_=>false)
 | .field t x i,.fld n off y=>
  match V5 P t with
  |some a=>(match a[i]? with|some f=>decide (f.offset=off)&&Xv P f.type n&&Zr x y|none=>false)
  |none=>false
 | .fieldAddr t x i,.fadr off y=>
  match V5 P t with
  |some a=>(match a[i]? with|some f=>decide (f.offset=off)&&(match ZR P f.type with|some n=>decide (n≠0)|none=>false)&&Zr x y|none=>false)
  |none=>false
 | .indexAddr t x i,.iadr sz y j=>
  match isSlice P t with
  |some e=>decide (ZR P e=some sz)&&Zr x y&&Zr i j
  |none=>false
 | .indexAddr t x i,.aadr sz len y j=>
  match V4 P t with
  |some (n,e)=>decide (n=len)&&decide (ZR P e=some sz)&&Zr x y&&Zr i j
  |none=>false
 | .index t x i,.sidx y j=>V3 P t&&Zr x y&&Zr i j
 | .index t x i,.aidx n sz len y j=>
  match V4 P t with
  |some (m,e)=>decide (m=len)&&decide (ZR P e=some sz)&&Xv P e n&&Zr x y&&Zr i j
  |none=>false
 | .extract x i,.ext y j=>decide (i=j)&&Zr x y
 | .makeFunc fn f c,.mkf fn' f' c'=>decide (fn=fn')&&Wt f.toList f'&&Wt c.toList c'
 | .makeMap _ r,.mkm=>r.isNone
 | .insert t m k v,.ins ag kk m' k' v'=>
  match isMap P t with
  |some (kt,_)=>decide (tk P 20 kt=some kk)&&decide (ZF P kt=ag)&&Zr m m'&&Zr k k'&&Zr v v'
  |none=>false
 | .mapUpdate t m k v,.mupd ag kk m' k' v'=>
  match isMap P t with
  |some (kt,_)=>decide (tk P 20 kt=some kk)&&decide (ZF P kt=ag)&&Zr m m'&&Zr k k'&&Zr v v'
  |none=>false
 | .lookup t m k ok,.lkp ag kk ok' z m' k'=>
  match isMap P t with
  |some (kt,vt)=>decide (tk P 20 kt=some kk)&&decide (ZF P kt=ag)&&decide (ok=ok')&&KI P vt z&&Zr m m'&&Zr k k'
  |none=>false
 | .makeSlice t l c,.mks sz z bytes l' c'=>
  match isSlice P t with
  |some e=>(match P.info? e with|some i=>decide (i.size=sz)&&decide (i.bytes=bytes)&&(match i.zero with|some v=>Q3 v z|none=>false)|none=>false)&&Zr l l'&&Zr c c'
  |none=>false
 | .slice t x lo hi mx,.slc sz y lo' hi' mx'=>
  match isSlice P t with
  |some e=>decide (ZR P e=some sz)&&Zr x y&&VI lo lo'&&VI hi hi'&&VI mx mx'
  |none=>false
 | .slice t x lo hi none,.ssl y lo' hi'=>V3 P t&&Zr x y&&VI lo lo'&&VI hi hi'
 | .call c,.len k y=>
  match c.callee,c.args.toList,c.argTypes.toList with
  | .builtin .len,[x],[t]=>(match k with|0=>V3 P t|1=>(isSlice P t).isSome|2=>(isMap P t).isSome|_=>false)&&Zr x y
  |_,_,_=>false
 | .call c,.app _ sz bytes s x=>
  match c.callee,c.args.toList,c.argTypes.toList with
  | .builtin .append,[s',x'],[t,t2]=>
   (match isSlice P t with
    |some e=>(match P.info? e with|some i=>decide (i.size=sz)&&decide (i.bytes=bytes)&&(match i.zero with|some v=>decide (v.cells.size=sz)|none=>false)|none=>false)
    |none=>false)&&(P.underlying t2).isSome&&!MF P t2&&Zr s' s&&Zr x' x
  |_,_,_=>false
 | .call c,.apr sz bytes s x=>
  match c.callee,c.args.toList,c.argTypes.toList with
  | .builtin .append,[s',x'],[t,t2]=>
   (match isSlice P t with
    |some e=>(match P.info? e with|some i=>decide (i.size=sz)&&decide (i.bytes=bytes)&&(match i.zero with|some v=>decide (v.cells.size=sz)|none=>false)|none=>false)
    |none=>false)&&(P.underlying t2).isSome&&!MF P t2&&Zr s' s&&Zr x' x
  |_,_,_=>false
 | .call c,.mm mx x y=>
  match c.callee,c.args.toList with
  | .builtin .min,[x',y']=>!mx&&Zr x' x&&Zr y' y
  | .builtin .max,[x',y']=>mx&&Zr x' x&&Zr y' y
  |_,_=>false
 | .range t x,.rng y=>V3 P t&&Zr x y
 | .next x true,.nxt y=>Zr x y
 | .makeInterface t x,.mkif t' y=>decide (t=t')&&Zr x y&&(match P.underlying t with|some (.interface _)=>false|some _=>true|none=>false)
 |_,_=>false
def KJ{t e:TypeId}(a:isSlice P t=some e):P.underlying t=some (.slice e):=by
 unfold isSlice at a;split at a
 .next c b=>cases a;exact b
 .cases a
def Gd{t:TypeId}(a:V3 P t=true):P.underlying t=some .string:=by
 unfold V3 at a;split at a
 .next b=>exact b
 .cases a
def Ge{t k e:TypeId}(a:isMap P t=some (k,e)):P.underlying t=some (.map k e):=by
 unfold isMap at a;split at a
 .next b=>cases a;exact b
 .cases a
def Rg{t e:TypeId}{n:Nat}(a:V4 P t=some (n,e)):P.underlying t=some (.array n e):=by
 unfold V4 at a;split at a
 .next b=>cases a;exact b
 .cases a
def Rh{t:TypeId}{b:Array Field}(a:V5 P t=some b):P.underlying t=some (.struct b):=by
 unfold V5 at a;split at a
 .next c=>cases a;exact c
 .cases a
def Gf{t:TypeId}{z:AV}(a:KI P t z=true):∃v,YH P t=some v/\Q3 v z=true:=by
 unfold KI at a;split at a
 .next v b=>exact⟨v,b,a⟩
 .cases a
def JW(d:GlR E T X w)(c:FrR T X w fr a.tmps){x:Option Operand}{y:Option Arg}(b:VI x y=true):Xw T X w (y.map<|ev E fr) (x.map a.eval):=by
 cases x<;>cases y<;>simp[VI]at b
 .trivial
 .exact evR d c b
def MG{x:Operand}(a:G9 x=true):x=.const (.slice none 0 0):=by
 unfold G9 at a;split at a
 .rfl
 .cases a
def Qg{o:Oper}{s:Sem Value}(b:execOp a.eval o=(do Pure.pure (Next.value<|<-s))){rv:Value}{w':World}(c:s.run P w=.ok rv w'):(execOp a.eval o).run P w=.ok (.value rv) w':=by
 rw[b];exact Cl s w c
def Ri{o:Oper}{s:Sem Unit}(b:execOp a.eval o=(do s;Pure.pure Next.skip)){w':World}(c:s.run P w=.ok () w'):(execOp a.eval o).run P w=.ok .skip w':=by
 rw[b];exact Cm s w c
def MH{s:Sem Next}{aid sz:Nat}{rs:List Nat}(m:M T X h w)(d:aid<=h.length)(j:T aid=none)(o:0<sz)(k:s.run P w=.ok (.value<|.slice none 0 0) w):
 Sim P T X h w s (.sl aid 0 0 0 false,rs,some (aid,.row sz [])):=by
 have g:Step T w (upd T aid<|.row sz 0 none 0 0) w:=by
  refine⟨rfl,rfl,rfl,ZSr _,λx c a=>⟨c,by rw[upd_ne _ _<|by rintro rfl;rw[j]at a;cases a];exact a,.refl _⟩,λ_ _ _=>rfl,λx a=>?_,λ_=>ZSr _⟩
  obtain⟨f,c',b,i⟩:=a;by_cases e:f=aid
  .subst e;rw[upd_same]at b;cases b;cases i
  .rw[upd_ne _ _ e]at b;exact .inl ⟨f,c',b,i⟩
 refine⟨upd T aid<|.row sz 0 none 0 0,w,_,.inl k,g,WZ m aid _ _ d g (λ_ _ _ _ _ _=>rfl) (λr l=>by cases l) ⟨rfl,rfl,o,ZSr _,rfl⟩,?_⟩
 exact⟨⟨_,_,_,rfl⟩,sz,0,none,0,0,upd_same _ _ _,ZSr _,ZSr _,λ_=>⟨0,ZSr _,ZSr _,(λn=>by cases n),.inr ⟨rfl,none,rfl,λ_=>rfl⟩⟩⟩
def MI{a:BinOp}{t:TypeId}{x y:Operand}{v u:Value}(e:∀vs us,v=.agg vs->u=.agg us->P.eqGuardType P.depth t=false)(d:v≠.nilIface\/u≠.nilIface):(eqGuard a t x y v u).run P w=.ok () w:=by
 by_cases b:a=.eql\/a=.neq
 .by_cases c:∃vs us,v=.agg vs/\u=.agg us
  .obtain⟨vs,us,rfl,rfl⟩:=c;exact run_eqGuard_agg w a t x y vs us<|e _ _ rfl rfl
  .rcases b with rfl|rfl
   all_goals
    cases v<;>cases u<;>first|rfl|exact(c ⟨_,_,rfl,rfl⟩).elim|(simp at d)
 .cases a<;>first|rfl|exact(b<|.inl rfl).elim|exact(b<|.inr rfl).elim
end Go.AM
namespace Go.AM
open Go
variable [Dr]
variable {P:Program} {E:Env} {T:Ty} {X:Xt} {w:World} {h:Hp} {fr:Fr} {a:Act}
mutual
def KK:(v:AV)->clean v=true->Zy v=true
 | .agg cs,h=>XW cs h
 | .tup cs,h=>XW cs h
 | .ifc _ v,h=>KK v h
 | .clo _ f c,h=>by
  simp only[clean,ZSq]at h;simp only[Zy,ZSq];exact⟨XW f h.1,XW c h.2⟩
 | .bot,_=>rfl
 | .bool _,_=>rfl
 | .int _ _,_=>rfl
 | .str _,_=>rfl
 | .nilp,_=>rfl
 | .nilsl,_=>rfl
 | .nilmap,_=>rfl
 | .nilfn,_=>rfl
 | .nilif,_=>rfl
 | .iptr _ _,_=>rfl
 | .isl _ _ _ _,_=>rfl
 | .imap _ _ _,_=>rfl
 | .ptr _ _ _ _,h=>by simp[clean]at h
 | .sl _ _ _ _ _,h=>by simp[clean]at h
 | .mp _,h=>by simp[clean]at h
 | .it _,h=>by simp[clean]at h
 | .yld _,h=>by simp[clean]at h
def XW:(vs:List AV)->Z4 vs=true->Zi vs=true
 |[],_=>rfl
 |v::vs,h=>by
  simp only[Z4,ZSq]at h;simp only[Zi,ZSq];exact⟨KK v h.1,XW vs h.2⟩
end
def V6{bw:Bool}{cs:List AV}(a:okc bw cs=true):Zi cs=true:=by
 cases bw with
 |false=>exact XW cs a
 |true=>exact a
def Ty.empty:Ty:=λ_=>none
def XX(r:Nat):¬Ty.empty.rng r:=by
 rintro⟨b,c,a,_⟩;cases a
mutual
def Ww{X2:Xt}(a:∀r,¬T.rng r->¬X r->¬X2 r):(v:AV)->(rv:Value)->Zy v=true->R T X w v rv->R Ty.empty X2 w v rv
 | .bot,_,_,_=>trivial
 | .bool _,_,_,h=>h
 | .int _ _,_,_,h=>h
 | .str _,_,_,h=>h
 | .nilp,_,_,h=>h
 | .nilsl,_,_,h=>h
 | .nilmap,_,_,h=>h
 | .nilfn,_,_,h=>h
 | .nilif,_,_,h=>h
 | .agg cs,v,hn,h=>by
  obtain⟨vs,rfl,h⟩:=h;exact⟨vs,rfl,XY a cs _ hn h⟩
 | .tup cs,v,hn,h=>by
  obtain⟨vs,rfl,h⟩:=h;exact⟨vs,rfl,XY a cs _ hn h⟩
 | .iptr bw cs,v,hn,h=>by
  obtain⟨r,o,rfl,i,g,b,j,d⟩:=h;exact⟨r,o,rfl,XX r,λk=>a r i<|g k,b,j,Gg a r cs o (V6 b) d⟩
 | .isl bw ex sz es,v,hn,h=>by
  obtain⟨ad,n,cap,rfl,i,g,b,j,d⟩:=h;refine⟨ad,n,cap,rfl,i,g,b,j,?_⟩;rcases d with d|⟨r,o,p,m,q,q9,q10⟩
  .exact .inl d
  .exact .inr ⟨r,o,p,XX r,λk=>a r m<|q k,q9,Gh a sz r es o (V6 j) q10⟩
 | .imap bw ks vs,v,hn,h=>by
  obtain⟨r,es,e,l,rfl,i,g,b,j,d,p,m,q⟩:=h;exact⟨r,es,e,l,rfl,XX r,λk=>a r i<|g k,b,j,d,p,XY a ks _ (V6 b.1) m,XY a vs _ (V6 b.2) q⟩
 | .ifc t x,v,hn,h=>by
  obtain⟨u,rfl,h⟩:=h;exact⟨u,rfl,Ww a x u hn h⟩
 | .clo fn first cap,v,hn,h=>by
  obtain⟨f,c,rfl,i,g⟩:=h;simp only[Zy,ZSq]at hn;exact⟨f,c,rfl,XY a first _ hn.1 i,XY a cap _ hn.2 g⟩
 | .ptr _ _ _ _,_,hn,_=>by simp[Zy]at hn
 | .sl _ _ _ _ _,_,hn,_=>by simp[Zy]at hn
 | .mp _,_,hn,_=>by simp[Zy]at hn
 | .it _,_,hn,_=>by simp[Zy]at hn
 | .yld _,_,hn,_=>by simp[Zy]at hn
def XY{X2:Xt}(c:∀r,¬T.rng r->¬X r->¬X2 r):(vs:List AV)->(rs:List Value)->Zi vs=true->Rs T X w vs rs->Rs Ty.empty X2 w vs rs
 |[],_,_,h=>h
 |a::as,vs,hn,h=>by
  obtain⟨v,b,rfl,d,e⟩:=h;simp only[Zi,ZSq]at hn;exact⟨v,b,rfl,Ww c a v hn.1 d,XY c as b hn.2 e⟩
def Gg{X2:Xt}(b:∀r,¬T.rng r->¬X r->¬X2 r)(r:Nat):(cs:List AV)->(o:Nat)->Zi cs=true->ZV T X w r cs o->ZV Ty.empty X2 w r cs o
 |[],_,_,_=>trivial
 |a::as,o,hn,h=>by
  obtain⟨⟨v,c,d⟩,q3⟩:=h;simp only[Zi,ZSq]at hn;exact⟨⟨v,c,Ww b a v hn.1 d⟩,Gg b r as (o+1) hn.2 q3⟩
def Gh{X2:Xt}(b:∀r,¬T.rng r->¬X r->¬X2 r)(sz r:Nat):(cs:List AV)->(o:Nat)->Zi cs=true->ZA T X w sz r cs o->ZA Ty.empty X2 w sz r cs o
 |[],_,_,_=>trivial
 |a::as,o,hn,h=>by
  simp only[Zi,ZSq]at hn;cases a with
  |agg cs=>
   obtain⟨c,e,d⟩:=h;exact⟨c,Gg b r cs o hn.1 e,Gh b sz r as (o+sz) hn.2 d⟩
  |_=>
   obtain⟨c,⟨v,e,d⟩,q4⟩:=h;exact⟨c,⟨v,e,Ww b _ v hn.1 d⟩,Gh b sz r as (o+sz) hn.2 q4⟩
end
mutual
def KL{s:Ty}{X2:Xt}(a:∀r,¬T.rng r->¬X r->¬s.rng r/\¬X2 r):(v:AV)->(rv:Value)->clean v=true->R T X w v rv->R s X2 w v rv
 | .bot,_,_,_=>trivial
 | .bool _,_,_,h=>h
 | .int _ _,_,_,h=>h
 | .str _,_,_,h=>h
 | .nilp,_,_,h=>h
 | .nilsl,_,_,h=>h
 | .nilmap,_,_,h=>h
 | .nilfn,_,_,h=>h
 | .nilif,_,_,h=>h
 | .agg cs,v,hn,h=>by
  obtain⟨vs,rfl,h⟩:=h;exact⟨vs,rfl,VJ a cs _ hn h⟩
 | .tup cs,v,hn,h=>by
  obtain⟨vs,rfl,h⟩:=h;exact⟨vs,rfl,VJ a cs _ hn h⟩
 | .iptr bw cs,v,hn,h=>by
  obtain⟨r,o,rfl,i,g,b,j,d⟩:=h;have k:bw=false:=by simpa[clean]using hn
  subst k;have:=a r i<|g rfl;exact⟨r,o,rfl,this.1,λ_=>this.2,b,j,Rj a r cs o b d⟩
 | .isl bw ex sz es,v,hn,h=>by
  obtain⟨ad,n,cap,rfl,i,g,b,j,d⟩:=h;have k:bw=false:=by simpa[clean]using hn
  subst k;refine⟨ad,n,cap,rfl,i,g,b,j,?_⟩;rcases d with d|⟨r,o,p,m,q,q9,q10⟩
  .exact .inl d
  .have:=a r m<|q rfl;exact .inr ⟨r,o,p,this.1,λ_=>this.2,q9,Rk a sz r es o j q10⟩
 | .imap bw ks vs,v,hn,h=>by
  obtain⟨r,es,e,l,rfl,i,g,b,j,d,p,m,q⟩:=h;have k:bw=false:=by simpa[clean]using hn
  subst k;have:=a r i<|g rfl;exact⟨r,es,e,l,rfl,this.1,λ_=>this.2,b,j,d,p,VJ a ks _ b.1 m,VJ a vs _ b.2 q⟩
 | .ifc t x,v,hn,h=>by
  obtain⟨u,rfl,h⟩:=h;exact⟨u,rfl,KL a x u hn h⟩
 | .clo fn first cap,v,hn,h=>by
  obtain⟨f,c,rfl,i,g⟩:=h;simp only[clean,ZSq]at hn;exact⟨f,c,rfl,VJ a first _ hn.1 i,VJ a cap _ hn.2 g⟩
 | .ptr _ _ _ _,_,hn,_=>by simp[clean]at hn
 | .sl _ _ _ _ _,_,hn,_=>by simp[clean]at hn
 | .mp _,_,hn,_=>by simp[clean]at hn
 | .it _,_,hn,_=>by simp[clean]at hn
 | .yld _,_,hn,_=>by simp[clean]at hn
def VJ{b:Ty}{X2:Xt}(d:∀r,¬T.rng r->¬X r->¬b.rng r/\¬X2 r):(vs:List AV)->(rs:List Value)->Z4 vs=true->Rs T X w vs rs->Rs b X2 w vs rs
 |[],_,_,h=>h
 |a::as,vs,hn,h=>by
  obtain⟨v,c,rfl,f,e⟩:=h;simp only[Z4,ZSq]at hn;exact⟨v,c,rfl,KL d a v hn.1 f,VJ d as c hn.2 e⟩
def Rj{b:Ty}{X2:Xt}(c:∀r,¬T.rng r->¬X r->¬b.rng r/\¬X2 r)(r:Nat):(cs:List AV)->(o:Nat)->Z4 cs=true->ZV T X w r cs o->ZV b X2 w r cs o
 |[],_,_,_=>trivial
 |a::as,o,hn,h=>by
  obtain⟨⟨v,d,e⟩,q3⟩:=h;simp only[Z4,ZSq]at hn;exact⟨⟨v,d,KL c a v hn.1 e⟩,Rj c r as (o+1) hn.2 q3⟩
def Rk{f:Ty}{X2:Xt}(b:∀r,¬T.rng r->¬X r->¬f.rng r/\¬X2 r)(sz r:Nat):(cs:List AV)->(o:Nat)->Z4 cs=true->ZA T X w sz r cs o->ZA f X2 w sz r cs o
 |[],_,_,_=>trivial
 |a::as,o,hn,h=>by
  simp only[Z4,ZSq]at hn;cases a with
  |agg cs=>
   obtain⟨e,d,c⟩:=h;exact⟨e,Rj b r cs o hn.1 d,Rk b sz r as (o+sz) hn.2 c⟩
  |_=>
   obtain⟨e,⟨v,d,c⟩,q4⟩:=h;exact⟨e,⟨v,d,KL b _ v hn.1 c⟩,Rk b sz r as (o+sz) hn.2 q4⟩
end
def MJ{bw:Bool}:∀{n:Nat}{cs b:List AV},ZC bw h n cs=some b->b.length=cs.length:=by
 intro n;induction n with
 |zero=>intro cs b a;cases cs<;>simp[ZC]at a
 |succ n e=>
  intro cs b a;cases cs with
  |nil=>simp[ZC]at a;subst a;rfl
  |cons c cs=>
   simp only[ZC]at a;cases d:Z4 (c::cs)with
   |true=>rw[d]at a;simp only[cond_true,Option.some.injEq]at a;subst a;rfl
   |false=>
    rw[d]at a;simp only[cond_false]at a;split at a
    .next x y g f=>simp at a;subst a;simp[e f]
    .cases a
def Bd{bw:Bool}{v:AV}{vs:List AV}(a:okc bw [v]=true)(b:okc bw vs=true):okc bw (v::vs)=true:=by
 cases bw<;>simp_all[okc,Z4,Zi]
def Be{bw:Bool}{v:AV}(a:clean v=true):okc bw [v]=true:=by
 cases bw
 .simp[okc,Z4,a]
 .simp[okc,Zi,KK v a]
def Bf(T:Ty)(X X2:Xt)(w:World)(h:Hp)(bw:Bool)(n:Nat):Prop:=
 (∀(v v':AV),freeze bw h n v=some v'->okc bw [v']=true/\((∃cs,v=.agg cs)->∃cs b,v=.agg cs/\v'=.agg b/\b.length=cs.length)/\((∀cs,v≠.agg cs)->∀cs,v'≠.agg cs)/\∀rv,R T X w v rv->R Ty.empty X2 w v' rv)/\
 (∀(vs a:List AV),ZC bw h n vs=some a->okc bw a=true/\(∀rs,Rs T X w vs rs->Rs Ty.empty X2 w a rs)/\(∀r o,ZV T X w r vs o->ZV Ty.empty X2 w r a o)/\(∀sz r o,ZA T X w sz r vs o->ZA Ty.empty X2 w sz r a o))
def MK{X2:Xt}{bw:Bool}(m:M T X h w)(O:∀r,¬T.rng r->¬X r->¬X2 r)(h3:bw=false->∀r,T.rng r->¬X2 r):∀n,Bf T X X2 w h bw n:=by
 intro n;induction n with
 |zero=>exact⟨λv v' a=>by simp[freeze]at a,λv v' a=>by cases v<;>simp[ZC]at a⟩
 |succ n L=>
  constructor
  .intro v v' a;simp only[freeze]at a;cases q:clean v with
   |true=>
    rw[q]at a;simp only[cond_true,Option.some.injEq]at a;subst a;exact⟨Be q,λ⟨cs,d⟩=>⟨cs,cs,d,d,rfl⟩,λd=>d,λrv j=>Ww O v rv (KK v q) j⟩
   |false=>
    rw[q]at a;simp only[cond_false]at a;cases v<;>(first|(simp only[reduceCtorEq]at a;done)|dsimp only at a|skip)
    case agg cs=>
     simp only[ZSD]at a;obtain⟨E,z,rfl⟩:=a;obtain⟨A,J,_,_⟩:=L.2 _ _ z;refine⟨by cases bw<;>simpa[okc,Z4,clean,Zi,Zy]using A,λ_=>⟨cs,E,rfl,rfl,MJ z⟩,λd=>(d cs rfl).elim,?_⟩
     rintro rv ⟨vs,rfl,j⟩;exact⟨vs,rfl,J _ j⟩
    case tup cs=>
     simp only[ZSD]at a;obtain⟨E,z,rfl⟩:=a;obtain⟨A,J,_,_⟩:=L.2 _ _ z;refine⟨by cases bw<;>simpa[okc,Z4,clean,Zi,Zy]using A,(λ⟨cs,d⟩=>by cases d),(λ_ cs d=>by cases d),?_⟩
     rintro rv ⟨vs,rfl,j⟩;exact⟨vs,rfl,J _ j⟩
    case ifc t x=>
     simp only[ZSD]at a;obtain⟨x',z,rfl⟩:=a;obtain⟨A,_,_,J⟩:=L.1 _ _ z;refine⟨by cases bw<;>simpa[okc,Z4,clean,Zi,Zy]using A,(λ⟨cs,d⟩=>by cases d),(λ_ cs d=>by cases d),?_⟩
     rintro rv ⟨u,rfl,j⟩;exact⟨u,rfl,J _ j⟩
    case clo fn first cap=>
     split at a
     .next f' c' z d=>
      simp only[Option.some.injEq]at a;subst a;obtain⟨A,J,_,_⟩:=L.2 _ _ z;obtain⟨q3,P,_,_⟩:=L.2 _ _ d;refine⟨by cases bw<;>simp_all[okc,Z4,clean,Zi,Zy],(λ⟨cs,d⟩=>by cases d),(λ_ cs d=>by cases d),?_⟩
      rintro rv ⟨f,c,rfl,N,G⟩;exact⟨f,c,rfl,J _ N,P _ G⟩
     .cases a
    case iptr b cs=>
     cases b with
     |false=>simp at a
     |true=>
      cases bw with
      |false=>simp at a
      |true=>
       simp at a;subst a;exact⟨rfl,(λ⟨cs,d⟩=>by cases d),(λ_ cs d=>by cases d),λrv j=>Ww O _ rv rfl j⟩
    case isl b ex sz es=>
     cases b with
     |false=>simp at a
     |true=>
      cases bw with
      |false=>simp at a
      |true=>
       simp at a;subst a;exact⟨rfl,(λ⟨cs,d⟩=>by cases d),(λ_ cs d=>by cases d),λrv j=>Ww O _ rv rfl j⟩
    case imap b ks vs=>
     cases b with
     |false=>simp at a
     |true=>
      cases bw with
      |false=>simp at a
      |true=>
       simp at a;subst a;exact⟨rfl,(λ⟨cs,d⟩=>by cases d),(λ_ cs d=>by cases d),λrv j=>Ww O _ rv rfl j⟩
    case ptr b i off g=>
     cases s:h[b]? with
     |none=>rw[s]at a;cases a
     |some o=>
      rw[s]at a;cases o<;>(first|(simp only[reduceCtorEq]at a;done)|dsimp only at a|skip)
      case row sz es=>
       cases V:(es.length==g)with
       |false=>rw[V]at a;cases a
       |true=>
        rw[V]at a;simp only[cond_true]at a;cases hi:es[i]? with
        |none=>rw[hi]at a;cases a
        |some e=>
         rw[hi]at a;simp only[ZSD]at a;obtain⟨E,z,rfl⟩:=a;obtain⟨A,_,q3,_⟩:=L.2 _ _ z;refine⟨by cases bw<;>rfl,(λ⟨cs,d⟩=>by cases d),(λ_ cs d=>by cases d),?_⟩
         intro rv j;obtain⟨r,C,B,cs,el,W,rfl,ah,k1,k2,k3,k4,k5⟩:=JU m s j<|by simpa using V
         obtain⟨k6,k7⟩:=Kw i k5 hi;rw[<-ZSY]at k7;have k:T.rng r:=⟨b,_,W,rfl⟩;exact⟨r,(B+i)*sz+off,rfl,XX r,λs=>h3 s r k,A,m.lt r k,q3 _ _<|Ku off k7⟩
    case sl b g off len ex=>
     cases s:h[b]? with
     |none=>rw[s]at a;cases a
     |some o=>
      rw[s]at a;cases o<;>(first|(simp only[reduceCtorEq]at a;done)|dsimp only at a|skip)
      case row sz es=>
       cases V:(es.length==g)with
       |false=>rw[V]at a;cases a
       |true=>
        rw[V]at a;simp only[cond_true,ZSD]at a;obtain⟨E,z,rfl⟩:=a;obtain⟨A,_,_,P⟩:=L.2 _ _ z;have K:=MJ z;refine⟨by cases bw<;>rfl,(λ⟨cs,d⟩=>by cases d),(λ_ cs d=>by cases d),?_⟩
        intro rv j;have ab:es.length=g:=by simpa using V
        obtain⟨r,C,B,W,k0,hC,D⟩:=XV m s;obtain⟨_,aj,g2,G,C2,B2,H,k1,k2,k3⟩:=j;rw[W]at H;cases H;obtain⟨cap,k4,k5,k6,k7⟩:=k3 ab.symm;have hl:E.length=len:=by rw[K];simp;omega
        rcases k7 with⟨Z,rfl,rfl⟩|⟨rfl,p,rfl,k8⟩
        .obtain⟨ae,el,j1,j2,j3⟩:=D;have k:T.rng Z:=⟨b,_,W,rfl⟩;refine⟨_,_,_,rfl,hl.symm,k4,λhx=>k6 (by simp at hx;exact hx.2),A,.inr ⟨Z,(B+off)*sz,rfl,XX Z,λs=>h3 s Z k,m.lt Z k,?_⟩⟩
         refine P _ _ _ ?_;have:=UV len<|UU off j3;rw[ZSY];exact this
        .have ak:len=0:=by omega
         refine⟨_,_,_,rfl,by omega,ZSr _,λ_=>rfl,A,.inl ?_⟩
         exact ZUs.1<|by omega
    case mp b=>
     cases s:h[b]? with
     |none=>rw[s]at a;cases a
     |some o=>
      rw[s]at a;cases o<;>(first|(simp only[reduceCtorEq]at a;done)|dsimp only at a|skip)
      case map ks vs=>
       cases F:Z4 ks with
       |false=>rw[F]at a;cases a
       |true=>
        rw[F]at a;simp only[cond_true,ZSD]at a;obtain⟨aa,z,rfl⟩:=a;obtain⟨A,J,_,_⟩:=L.2 _ _ z;refine⟨by cases bw<;>rfl,(λ⟨cs,d⟩=>by cases d),(λ_ cs d=>by cases d),?_⟩
        rintro rv ⟨r,W,rfl⟩;obtain⟨G,es,Q,l,H,k1,k2,k3,k4,k5⟩:=JS m s;rw[W]at H;cases H;have k:T.rng r:=⟨b,_,W,rfl⟩;refine⟨r,es,Q,l,rfl,XX r,λs=>h3 s r k,⟨?_,A⟩,k1,k2,k3,XY O ks _ (XW ks F) k4,J _ k5⟩
        cases bw
        .exact F
        .exact XW ks F
  .intro vs aa a;cases q:Z4 vs with
   |true=>
    simp only[ZC,q,cond_true,Option.some.injEq]at a;subst a;have hn:=XW vs q;exact⟨by cases bw<;>first|exact q|exact hn,λrs j=>XY O vs rs hn j,λr o j=>Gg O r vs o hn j,λsz r o j=>Gh O sz r vs o hn j⟩
   |false=>
   cases vs with
   |nil=>simp[Z4]at q
   |cons v vs=>
    simp only[ZC,q,cond_false]at a;split at a
    .next x y h1 ag=>
     simp only[Option.some.injEq]at a;subst a;obtain⟨A,J,q3,P⟩:=L.1 _ _ h1;obtain⟨p1,p2,p3,p4⟩:=L.2 _ _ ag;refine⟨Bd A p1,?_,?_,?_⟩
     .rintro rs ⟨u,ur,rfl,N,G⟩;exact⟨u,ur,rfl,P _ N,p2 _ G⟩
     .rintro r o ⟨⟨u,N,G⟩,r3⟩;exact⟨⟨u,N,P _ G⟩,p3 _ _ r3⟩
     .intro sz r o D;by_cases S:∃cs,v=.agg cs
      .obtain⟨cs,E,rfl,rfl,K⟩:=J S;obtain⟨N,G,r3⟩:=D;refine⟨K.trans N,?_,p4 _ _ _ r3⟩;have:=Kv G;obtain⟨us,u1,u2⟩:=this;have ac:=P (.agg us.toArray) ⟨us.toArray,rfl,by simpa using u2⟩
       obtain⟨ws,ad,af⟩:=ac;cases ad;exact Xs (by simpa using af) u1
      .have hx:=q3 (λcs d=>S ⟨cs,d⟩)
       have U:sz=1/\(∃u,World.at w r o=some u/\R T X w v u)/\ZA T X w sz r vs (o+sz):=by
        cases v<;>first|exact D|exact(S ⟨_,rfl⟩).elim
       obtain⟨N,⟨u,G,r3⟩,r4⟩:=U;have Y:sz=1/\(∃u,World.at w r o=some u/\R Ty.empty X2 w x u)/\ZA Ty.empty X2 w sz r y (o+sz):=⟨N,⟨u,G,P _ r3⟩,p4 _ _ _ r4⟩;cases x<;>first|exact Y|exact(hx _ rfl).elim
    .cases a
end Go.AM
namespace Go.AM
open Go
variable [Dr]
variable {P:Program} {E:Env} {T:Ty} {X:Xt} {w:World} {h:Hp} {fr:Fr} {a:Act}
def Qa(ro:Option Nat):Fence:={Fence.wide with round:=ro}
def VK(ro:Option Nat)(f:FuncId):(Qa ro).fn f:=trivial
def Rl(ro:Option Nat)(n:Nat):(Qa ro).depth.isSome=true->1<=n:=λh=>by cases h
def Bg(ro:Option Nat)(l:Nat):(Qa ro).inRound l=Qa (some l):=rfl
def Rm{ro:Option Nat}{n:Nat}{f:FuncId}{a:Array Value}{K:Ending->World->Prop}:CallsIn (Qa ro) n P f a w K↔Calls P f a w K:=
 (callsIn_wide (n:=n):CallsIn Fence.wide n P f a w K↔_)
def YI(P:Program)(r:Result Next)(w:World)(K:Value->World->Prop):Prop:=
 (∃rv w',r=.ok (.value rv) w'/\K rv w')\/
 (∃f b,r=.ok (.enter f b) w/\Calls P f b w λe w'=>∃rv,e=.returned rv/\K rv w')\/
 (∃l g a as bd,r=.ok (.round l g a as bd) w/\∀n ro,RoundIn (Qa ro) n P l g a as bd w λe w'=>∃rv,e=.returned rv/\K rv w')
def YI.mono{r:Result Next}{K d:Value->World->Prop}(c:∀v w',K v w'->d v w')(h:YI P r w K):YI P r w d:=by
 rcases h with⟨rv,w',a,b⟩|⟨f,args,a,b⟩|⟨l,g,tmps,as,bd,a,b⟩
 .exact .inl ⟨rv,w',a,c _ _ b⟩
 .exact .inr<|.inl ⟨f,args,a,b.mono λe w'⟨rv,he,hq⟩=>⟨rv,he,c _ _ hq⟩⟩
 .exact .inr<|.inr ⟨l,g,tmps,as,bd,a,λn ro=>(b n ro).mono λe w'⟨rv,he,hq⟩=>⟨rv,he,c _ _ hq⟩⟩
def YI.upon{r:Result Next}{K:Value->World->Prop}(d:YI P r w K){o:Oper}{ro:Option Nat}{n:Nat}{next:Act->World->Prop}{Q:Exit->Act->World->Prop}
 (c:∀rv w',K rv w'->next (a.put o.dst rv) w'):o.uponIn (Qa ro) n P a next Q r:=by
 rcases d with⟨rv,w',rfl,b⟩|⟨f,args,rfl,b⟩|⟨l,g,tmps,as,bd,rfl,b⟩
 .exact c _ _ b
 .refine⟨Rl ro n,Rm.2<|b.mono ?_⟩;rintro e w' ⟨rv,rfl,hq⟩;exact c _ _ hq
 .refine⟨Rl ro n,(b _ ro).mono ?_⟩;rintro e w' ⟨rv,rfl,hq⟩;exact c _ _ hq
def Yq(T:Ty)(X:Xt)(w:World)(h':Hp)(v:AV)(rv:Value)(w':World):Prop:=∃a,Step T w a w'/\M a X h' w'/\R a X w' v rv
def ZPP{h:Ty}{w':World}{v:AV}{g:Nat}(d:Step T w h w')(j:R T X w v<|.pointer<|some ⟨g,0,none⟩)(b:GlS w g v):GlS w' g v:=by
 cases v with
 |iptr bw cs=>
  obtain⟨r,o,e,a,n,p,i,m⟩:=j;cases e;obtain⟨c,t,f,k,l⟩:=b;exact⟨c,t,f,(d.keep _ i a).trans k,l⟩
 |_=>trivial
def Ctx.step{a:Ty}{w':World}{h':Hp}(c:Ctx E T X h w)(b:Step T w a w')(m:M a X h' w'):Ctx E a X h' w':=
 ⟨m,λg=>⟨HR b _ _ (c.gl g).1,ZPP b (c.gl g).1 (c.gl g).2⟩,λr d=>ZTy (c.hX r d) b.size⟩
def Marks(T:Ty)(w:World)(a:Nat)(b:List Deferred):Prop:=
 ∃rs:List Nat,b=rs.map (λr=>{target:=.collected r,args:=#[]})/\rs.Nodup/\∀r∈rs,a<=r/\Wn T w r
def Marks.step{b:Ty}{w':World}{a:Nat}{e:List Deferred}(i:Marks T w a e)(g:Step T w b w'):Marks b w' a e:=by
 obtain⟨rs,f,h,d⟩:=i;exact⟨rs,f,h,λr c=>⟨(d r c).1,Md g (d r c).2⟩⟩
structure St(E:Env)(T:Ty)(X:Xt)(h:Hp)(w:World)(fr:Fr)(base sz:Nat)(a:Act):Prop where
 c:Ctx E T X h w
 f:FrR T X w fr a.tmps
 sz:a.tmps.size=sz
 marks:Marks T w base a.defers
 base:base<=w.heap.size
def ML{a:Array Value}{d:Nat}{v:AV}{rv:Value}(b:FrR T X w fr a)(c:R T X w v rv)(f:d<a.size):FrR T X w (put fr d v) (a.setIfInBounds d rv):=by
 intro t;simp only[put,get];by_cases e:d=t
 .subst e;simp only[beq_self_eq_true,cond_true];rw[ZTf,ZVf f];exact c
 .have g:(d==t)=false:=by simpa using e
  simp only[g,cond_false];rw[ZTf,ZVg e,<-ZTf];exact b t
def JX(N:Nat):Option Nat->Option Nat->Bool
 |none,none=>true
 |some t,some d=>t==d&&Nat.blt t N
 |_,_=>false
def JY(N:Nat)(a:Array Oper):Option (Nat×Bool)->Option (Nat×Bool)->Bool
 |none,none=>true
 |some (j,b),some (t,c)=>b==c&&(match(a[j]?).bind (·.dst)with|some d=>d==t&&Nat.blt d N|none=>false)
 |_,_=>false
def Wx:Op->AOp->Bool
 | .call c,.call _ f args=>(match c.callee with| .value (.func g)=>g==f|_=>false)&&Wt c.args.toList args
 | .call c,.callv _ x args=>(match c.callee with| .value y=>Zr y x|_=>false)&&Wt c.args.toList args
 |_,_=>false
def X6(P:Program)(N:Nat)(a:Array Oper)(o:Oper)(q:AOper):Bool:=
 JX N o.dst q.dst&&JY N a o.guard q.guard&&(match q.op with| .apa sz b s x=>Gb P o.op (.app false sz b s x)|op=>bif op.isCall then Wx o.op op else Gb P o.op op)
def X7(P:Program)(N:Nat)(a:Array Oper):List Oper->List AOper->Bool
 |[],[]=>true
 |o::os,q::qs=>X6 P N a o q&&X7 P N a os qs
 |_,_=>false
def Gi{i:Ty}{w':World}{h':Hp}{v:AV}{rv:Value}{e sz N:Nat}{d:Option Nat}{b:Option Nat}(s:St E T X h w fr e sz a)(o:N<=sz)(j:JX N d b=true)
 (g:Step T w i w') (m:M i X h' w') (l:R i X w' v rv):St E i X h' w' (ZB fr b v) e sz (a.put d rv):=by
 have c':=s.c.step g m;have k:=Kr g s.f;cases d with
 |none=>
  cases b with
  |some t=>simp[JX]at j
  |none=>exact⟨c',k,s.sz,s.marks.step g,ZTa s.base g.size⟩
 |some d=>
  cases b with
  |none=>simp[JX]at j
  |some t=>
   simp only[JX,ZSq,beq_iff_eq,ZTw]at j;obtain⟨rfl,n⟩:=j;refine⟨c',ML k l (by have:=s.sz;omega),?_,s.marks.step g,ZTa s.base g.size⟩
   simp only[Act.put,ZUX];exact s.sz
def MM{a:Array Value}{l:Array Oper}{N:Nat}{o:Oper}{g:Option (Nat×Bool)}{b:Bool}(y:FrR T X w fr a)(z:N<=a.size)(i:JY N l o.guard g=true)
 (f:ZJ fr g=some b):Region.wanted o (yielded l a)=b:=by
 cases n:o.guard with
 |none=>
  rw[n]at i;cases g with
  |some _=>simp[JY]at i
  |none=>
   simp only[ZJ,Option.some.injEq]at f;subst f;simp[Region.wanted,n]
 |some p=>
  obtain⟨j,m⟩:=p;rw[n]at i;cases g with
  |none=>simp[JY]at i
  |some q=>
   obtain⟨t,c⟩:=q;simp only[JY,ZSq,beq_iff_eq]at i;obtain⟨rfl,i⟩:=i;cases s:(l[j]?).bind (·.dst)with
   |none=>rw[s]at i;cases i
   |some d=>
    rw[s]at i;simp only[ZSq,beq_iff_eq,ZTw]at i;obtain⟨rfl,r⟩:=i;simp only[ZJ]at f;cases h:get fr d with
    |bool x=>
     rw[h]at f;simp only[Option.some.injEq]at f;subst f;have k:=y d;rw[h]at k;have k:a.getD d undef=.bool x:=k;have e:d<a.size:=ZTy r z;have:a[d]?=some (.bool x):=by
      rw[ZTh e];rw[ZTf,ZTh e]at k;exact congrArg some k
     simp only[Region.wanted,n,yielded,s,Option.bind_some,this];cases x<;>cases m<;>rfl
    |tup vs=>
     cases vs with
     |cons _ _=>rw[h]at f;simp at f
     |nil=>
      rw[h]at f;simp only[Option.some.injEq]at f;subst f;have k:=y d;rw[h]at k;obtain⟨us,k,u⟩:=k;have u:us.toList=[]:=u;have v:us = #[]:=by apply ZTC;simpa using u
      subst v;have e:d<a.size:=ZTy r z;have:a[d]?=some (.tuple #[]):=by
       rw[ZTh e];rw[ZTf,ZTh e]at k;exact congrArg some k
      simp only[Region.wanted,n,yielded,s,Option.bind_some,this];rfl
    |_=>rw[h]at f;simp at f
end Go.AM
namespace Go.AM
open Go
variable [Dr]
variable {P:Program} {E:Env} {T:Ty} {X:Xt} {w:World} {h:Hp} {fr:Fr} {a:Act}
def KM(a:List Nat)(o:Oper):Nat:=o.after.toList.foldl (λm e=>bif Region.binds .any e then(m ||| (1 <<< e.on)) ||| (a.getD e.on 0)else m) 0
def YS:List Oper->List Nat->List Nat
 |[],ms=>ms
 |o::os,ms=>YS os<|ms++[KM ms o]
def MN:Option (Nat×Bool)->List Nat
 |some (t,_)=>[t]
 |none=>[]
def AOper.reads(q:AOper):List Nat:=q.op.slots++MN q.guard
def XZ(x y:AOper):Bool:=
 (match x.dst with|none=>true|some t=>!(y.reads.contains t)&&!(y.dst==some t))&&
 (match y.dst with|none=>true|some t=>!(x.reads.contains t))
def Rn(m:Nat)(a:List AOper)(i:Nat)(q:AOper)(u:List Nat):Bool:=
 (List.range i).all λj=>m.testBit j||(match a[j]? with|some x=>(u.contains j||(X3 x.op&&X3 q.op))&&XZ x q|none=>false)
def JZ(a:List Nat)(b:List AOper):Nat->List AOper->List (List Nat)->Bool
 |_,[],[]=>true
 |i,q::qs,u::us=>Rn (a.getD i 0) b i q u&&JZ a b (i+1) qs us
 |_,_,_=>false
def KO:Nat->List Oper->Bool
 |_,[]=>true
 |i,o::os=>o.after.toList.all (λe=>!Region.binds .any e||Nat.blt e.on i)&&KO (i+1) os
def MO(m:Nat)(i:Nat):Bool:=(List.range i).all λj=>m.testBit j
def Gj(P:Program)(N:Nat)(a:Array Oper)(d:List<|List Nat)(b c:List AOper):Bool:=
 P.follows .mixedOrders&&KO 0 a.toList&&X7 P N a a.toList (b++c)&&JZ (YS a.toList []) b 0 b d&&
  (List.range c.length).all λk=>MO ((YS a.toList []).getD (b.length+k) 0)<|b.length+k
def ZvV:AV->List (Nat×Nat)->Bool
 | .agg cs,ps=>ps.all λp=>decide (0<p.2)&&(match cs[p.1]? with|some (.isl _ _ _ [])=>true|_=>false)
 | .isl _ _ _ [],[(0,s)]=>decide (0<s)
 |_,_=>false
def QZ(P:Program)(N:Nat):Bool->Code->ACode->Bool
 |_,.skip,.skip=>true
 |_,.label _,.skip=>true
 |_,.region _ ops false,.region qs=>X7 P N ops ops.toList qs
 |_,.region _ ops false,.zbox d sz z ps=>X7 P N ops ops.toList [⟨some d,.box sz<|.c z,none⟩]&&(ops.toList.all (λo=>match o.op with| .alloc _=>true|_=>false)&&ZvV z ps)
 |_,.region _ ops false,.nils s d off p=>X7 P N ops ops.toList [⟨some d,.fadr off p,none⟩,⟨none,.store 1 (.t d)<|.c<|.isl false false s [],none⟩]&&decide (0<s)
 |_,.region _ ops true,.draw un p1 p2=>Gj P N ops un p1 p2
 |rd,.seq a b,.seq x y=>QZ P N rd a x&&QZ P N rd b y
 |rd,.cond c a b,.cond d x y=>Zr c d&&QZ P N rd a x&&QZ P N rd b y
 |rd,.block i a,.block j x=>i==j&&QZ P N rd a x
 |rd,.loop a,.loop _ x=>QZ P N rd a x
 |rd,.rangeFunc g ps as bd,.rangeFunc f qs x y=>
  !rd&&Zr g f&&decide (ps.toList=qs)&&qs.all (λp=>Nat.blt p N)&&QZ P N true as x&&QZ P N true bd y
 |_,.exit i,.exit j=>i==j
 |_,.ret,.ret=>true
 |rd,c,.keep _ x=>QZ P N rd c x
 |rd,c,.ghost _ _ _ x=>QZ P N rd c x
 |_,_,_=>false
def Chk(P:Program)(n:Nat)(c:Code)(q:ACode):Prop:=∃N,N<=n/\QZ P N true c q=true
def YJ(P:Program):List ResultVar->List ResVar->Bool
 |[],[]=>true
 | .tmp t::r,.tmp u::s=>t==u&&YJ P r s
 | .cell b t::r,.cell u n::s=>b==u&&Xv P t n&&YJ P r s
 |_,_=>false
def Qn(P:Program)(E:Env)(f:Nat)(s:List AV->Hp->Option (AV×Hp)):Prop:=
 ∀b h v h',s b h=some (v,h')->∀(T:Ty)(X:Xt)(w:World)(a:Array Value),X.cr=Chk P->Ctx E T X h w->Rs T X w b a.toList->
  YI P ((callFunc f a).run P w) w (Yq T X w h' v)
def ZEs(P:Program)(E:Env)(f:Nat)(s:List AV->Nat->List AV->Option (List AV)):Prop:=
 ∀b h v c,ZE8 s h b=some (v,c)->∀(T:Ty)(X:Xt)(w:World)(a:Array Value),X.cr=Chk P->Ctx E T X h w->Rs T X w b a.toList->
  YI P ((callFunc f a).run P w) w (Yq T X w (ZH h c) v)
structure EnvOk(P:Program)(E:Env):Prop where
 gl:∀g,clean (E.gl g)=true
 fn:∀f q,E.fn f=some q->∃(fn:Func)(c:Code),P.funcs[f]?=some fn/\(fn.name=="runtime.NumGoroutine")=false/\fn.body=some c/\QZ P fn.ntmps false c q.body=true/\YJ P fn.results.toList q.res=true
 sum:∀f s,E.sum f=some s->Qn P E f s
 rs:∀f s,E.rs f=some s->ZEs P E f s
def exR:AExit->Exit
 | .normal=>.normal
 | .exit id=>.exit id
 | .ret=>.ret
structure AllOk(P:Program)(E:Env)(k:Nat):Prop where
 rsum:∀f s,E.rs f=some s->ZEs P E f s
 fn:∀f args h v h',Qz E k f args h=some (v,h')->∀(T:Ty)(X:Xt)(w:World)(rargs:Array Value),X.cr=Chk P->Ctx E T X h w->Rs T X w args rargs.toList->
  YI P ((callFunc f rargs).run P w) w (Yq T X w h' v)
 body:∀f args h v h',QX E k f args h=some (v,h')->∀(T:Ty)(X:Xt)(w:World)(rargs:Array Value),X.cr=Chk P->Ctx E T X h w->Rs T X w args rargs.toList->
  (callFunc f rargs).run P w=.ok (.enter f rargs) w/\Calls P f rargs w λe w'=>∃rv,e=.returned rv/\Yq T X w h' v rv w'
 call:∀p f args h v h',Qm E k p f args h=some (v,h')->∀(T:Ty)(X:Xt)(w:World)(rargs:Array Value),X.cr=Chk P->Ctx E T X h w->Rs T X w args rargs.toList->
  YI P ((callFunc f rargs).run P w) w (Yq T X w h' v)
 yield:∀b args h v h',YG E k b args h=some (v,h')->∀(T:Ty)(X:Xt)(w:World)(rargs:Array Value)(l:Nat),X.cr=Chk P->Ctx E T X h w->Rs T X w args rargs.toList->T b=some (.loop l)->
  YI P ((Instr.yield l rargs).run P w) w (Yq T X w h' v)
 callv:∀p f args h v h',QQ E k p f args h=some (v,h')->∀(T:Ty)(X:Xt)(w:World)(fv:Value)(rargs:Array Value),X.cr=Chk P->Ctx E T X h w->R T X w f fv->Rs T X w args rargs.toList->
  YI P ((do let d <-Deferred.ofValue fv rargs;invoke d.target d.args:Sem Next).run P w) w (Yq T X w h' v)
 op:∀q fr h fr' h',Q5 E k q fr h=some (fr',h')->∀(T:Ty)(X:Xt)(w:World)(a:Act)(N:Nat)(ops:Array Oper)(o:Oper)(base sz:Nat)(ro:Option Nat)(n:Nat),
  X.cr=Chk P->N<=sz->X6 P N ops o q=true->St E T X h w fr base sz a->∀(next:Act->World->Prop)(Q:Exit->Act->World->Prop),
  (∀T' a' w',Step T w T' w'->St E T' X h' w' fr' base sz a'->next a' w')->
  if Region.wanted o (yielded ops a.tmps)=true then o.wpIn (Qa ro) n P a w next Q else(∀f,o.about P w a.eval=some f->(Qa ro).fn f)/\next (a.put o.dst undef) w
 ops:∀qs fr h fr' h',ZS E k qs fr h=some (fr',h')->∀(T:Ty)(X:Xt)(w:World)(a:Act)(N:Nat)(ops:Array Oper)(os:List Oper)(base sz:Nat)(ro:Option Nat)(n:Nat),
  X.cr=Chk P->N<=sz->X7 P N ops os qs=true->St E T X h w fr base sz a->∀(Q:Exit->Act->World->Prop),
  (∀T' a' w',Step T w T' w'->St E T' X h' w' fr' base sz a'->Q .normal a' w')->wpListIn (Qa ro) n P ops Q os a w
 code:∀q fr h e fr' h',Ze E k q fr h=some (e,fr',h')->∀(T:Ty)(X:Xt)(w:World)(a:Act)(N:Nat)(c:Code)(base sz:Nat)(rd:Bool)(ro:Option Nat)(n:Nat),
  X.cr=Chk P->N<=sz->QZ P N rd c q=true->(rd=false->ro=none)->St E T X h w fr base sz a->∀(Q:Exit->Act->World->Prop),
  (∀T' a' w',Step T w T' w'->St E T' X h' w' fr' base sz a'->Q (exR e) a' w')->c.wpIn (Qa ro) n P Q a w
 rounds:∀live q fr h e fr' h',Ze E k (.loop live q) fr h=some (e,fr',h')->∀(T:Ty)(X:Xt)(w:World)(a:Act)(N:Nat)(c:Code)(base sz:Nat)(rd:Bool)(ro:Option Nat)(n:Nat),
  X.cr=Chk P->N<=sz->QZ P N rd c q=true->(rd=false->ro=none)->St E T X h w fr base sz a->∀(Q:Exit->Act->World->Prop),
  (∀T' a' w',Step T w T' w'->St E T' X h' w' fr' base sz a'->Q (exR e) a' w')->Code.roundsIn (Qa ro) n P c Q k a w
def MP(T:Ty)(w:World){D:Nat}{j:Option (List Deferred)}(h:w.heap[D]?=some (.deferred j))(a:Option<|List Deferred):Stp T w T (w.putObj D<|.deferred a):=by
 have i:∀b,b≠D->(w.putObj D<|.deferred a).heap[b]?=w.heap[b]?:=λb d=>World.putObj_heap_other d
 have g:D<w.heap.size:=(ZTi.1 h).1;have f:(w.putObj D<|.deferred a).heap[D]?=some (.deferred a):=by simp[World.putObj,g]
 refine⟨by simp[World.putObj],λb c d=>⟨c,d,.refl c⟩,λb _ _ o=>?_,λb es c _ _ d=>?_,λb d=>.inl d⟩
 .by_cases e:b=D
  .subst e;simp[World.at,World.cell?,f,h]
  .exact at_eq<|i b e
 .by_cases e:b=D
  .subst e;rw[h]at d;cases d
  .rw[i b e];exact d
def Bh(m:M T X h w){D:Nat}{g:Option (List Deferred)}(i:w.heap[D]?=some (.deferred g))(d:¬T.rng D)(a:Option<|List Deferred):M T X h (w.putObj D<|.deferred a) where
 inj:=m.inj
 lt r d:=ZTy (m.lt r d)<|by simp[World.putObj]
 notX:=m.notX
 obj b:=Mf (MP T w i a) _ _ (λt r f c=>World.putObj_heap_other<|λe=>d ⟨b,t,f,by rw[c,<-e]⟩)<|m.obj b
def Bi{fn:Func}{a:Array Value}{K:Ending->World->Prop}{n:Nat}{T0:Ty}{w0:World}{v:AV}(g:∀w',M T X h w'->FrR T X w' fr a->Step T0 w0 T w'->∃rv,(results fn a).run P w'=.ok rv w'/\K (.returned rv) w'):
 ∀(rs:List Nat)(w:World),rs.Nodup->(∀r∈rs,w0.heap.size<=r/\Wn T w r)->M T X h w->FrR T X w fr a->Step T0 w0 T w->
 LeavesInM Fence.wide n P fn a K (rs.map<|λr=>{target:=.collected r,args:=#[]}) .returning w:=by
 intro rs;induction rs with
 |nil=>
  intro w _ _ m j c;obtain⟨rv,x,B⟩:=g w m j c;exact⟨rv,x,B⟩
 |cons r rs y=>
  intro w i u m j c;obtain⟨F,D,k,q⟩:=u r<|by simp
  refine⟨by simp,.inl ⟨r,_,rfl,run_takeDeferred q,?_⟩⟩
  have l:=MP T w q none;have d:∀b,b≠r->(w.putObj r<|.deferred none).heap[b]?=w.heap[b]?:=λb t=>World.putObj_heap_other t
  refine y _ (ZT8.1 i).2 ?_ (Bh m q k none) (Me l j) ?_
  .intro p f;have s:p≠r:=λe=>(ZT8.1 i).1 (e▸f)
   obtain⟨C,A,z,E⟩:=u p<|by simp[f]
   exact⟨C,by simpa[World.putObj]using A,z,(d p s).trans E⟩
  .exact⟨c.os,c.tape,c.output,by simpa[World.putObj]using c.size,c.le,λb t o=>(d b<|by omega).trans (c.keep b t o),c.rng,c.drawn⟩
def Bj(m:M T X h w){c:Array Value}(G:FrR T X w fr c):∀{rs:List ResultVar}{f:List ResVar}{vs:List AV},YJ P rs f=true->YD fr h f=some vs->
 ∃us:List Value,(rs.mapM (λ(x:ResultVar)=>(match x with
  | .tmp t=>pure<|c.getD t undef
  | .cell b t=>do loadVar t (<-asAddr (c.getD b undef)):Sem Value))).run P w=.ok us w/\Rs T X w vs us:=by
 intro rs;induction rs with
 |nil=>
  intro f vs d j;cases f with
  |cons _ _=>simp[YJ]at d
  |nil=>
   simp only[YD,Option.some.injEq]at j;subst j;exact⟨[],by simp,rfl⟩
 |cons r rs N=>
  intro f vs d j;cases f with
  |nil=>cases r<;>simp[YJ]at d
  |cons q f=>
   simp only[YD]at j;split at j
   .next v Y a O=>
    simp only[Option.some.injEq]at j;subst j;have l:YJ P rs f=true/\∃u,((match r with
     | .tmp t=>pure<|c.getD t undef
     | .cell b t=>do loadVar t (<-asAddr (c.getD b undef)):Sem Value)).run P w=.ok u w/\R T X w v u:=by
     cases r with
     |tmp t=>
      cases q with
      |cell _ _=>simp[YJ]at d
      |tmp u=>
       simp only[YJ,ZSq,beq_iff_eq]at d;obtain⟨rfl,d⟩:=d;simp only[WX,Option.some.injEq]at a;subst a;exact⟨d,_,by simp,G t⟩
     |cell b t=>
      cases q with
      |tmp _=>simp[YJ]at d
      |cell u n=>
       simp only[YJ,ZSq,beq_iff_eq]at d;obtain⟨⟨rfl,H⟩,d⟩:=d;refine⟨d,?_⟩;have p:=G b;simp only[WX]at a;split at a
       .next b' i off g D=>
        rw[D]at p;split at a
        .next sz es U=>
         cases k:(es.length==g)with
         |false=>rw[k]at a;cases a
         |true=>
          rw[k]at a;simp only[cond_true]at a;cases A:es[i]? with
          |none=>rw[A]at a;cases a
          |some e=>
           rw[A]at a;simp only at a;obtain⟨r,C,B,cs,el,hT,E,K,k1,k2,k3,Z,Q⟩:=JU m U p<|by simpa using k
           obtain⟨L,J⟩:=Kw i Q A;rw[<-ZSY]at J;obtain⟨rv,z,F⟩:=G0 H (Ku off J) a;exact⟨rv,by simp only[E,asAddr,Sem.run_bind,Sem.run_pure,Result.andThen_ok];exact z,F⟩
        .cases a
       .next bw cs D=>
        rw[D]at p;obtain⟨r,o,E,_,_,_,_,s⟩:=p;obtain⟨rv,z,F⟩:=G0 H s a;exact⟨rv,by simp only[E,asAddr,Sem.run_bind,Sem.run_pure,Result.andThen_ok];exact z,F⟩
       .cases a
    obtain⟨y,u,S,W⟩:=l;obtain⟨us,V,L⟩:=N y O;refine⟨u::us,?_,u,us,rfl,W,L⟩;rw[List.mapM_cons,Sem.run_bind,S,Result.andThen_ok,Sem.run_bind,V,Result.andThen_ok,Sem.run_pure]
   .cases j
def Bk{fn:Func}(m:M T X h w){a:Array Value}(j:FrR T X w fr a){i:List ResVar}{v:AV}(o:YJ P fn.results.toList i=true)(b:QO fr h i=some v):
 ∃rv,(results fn a).run P w=.ok rv w/\R T X w v rv:=by
 unfold QO at b;cases d:YD fr h i with
 |none=>rw[d]at b;cases b
 |some vs=>
  rw[d]at b;obtain⟨us,l,g⟩:=Bj m j o d;have f:(results fn a).run P w=.ok (if h:us.toArray.size=1 then us.toArray[0]else .tuple us.toArray) w:=by
   unfold results;rw[Sem.run_bind,Array.mapM_eq_mapM_toList,Sem.run_map]
   erw[l]
   simp only[Result.andThen_ok,Sem.run_pure]
  refine⟨_,f,?_⟩;have c:=Qr g;by_cases e:us.length=1
  .obtain⟨u,rfl⟩:=ZUY.1 e;obtain⟨x,rfl⟩:=ZUY.1<|c.trans e;simp only[Option.some.injEq]at b;subst b;obtain⟨y,p,n,k,q⟩:=g;cases n;simpa using k
  .have:v=.tup vs:=by
    cases vs with
    |nil=>simpa using b.symm
    |cons x xs=>
     cases xs with
     |nil=>simp at c;omega
     |cons y ys=>simpa using b.symm
   subst this;rw[dif_neg<|by simpa using e]
   exact⟨us.toArray,rfl,by simpa using g⟩
end Go.AM
namespace Go.AM
open Go
variable [Dr]
variable {P:Program} {E:Env} {T:Ty} {X:Xt} {w:World} {h:Hp} {fr:Fr} {a:Act}
def Bl(n:EnvOk P E){k:Nat}(l:AllOk P E k){f:Nat}{b:List AV}{v:AV}{h':Hp}(e:Qz E (k+1) f b h=some (v,h'))(a:Array Value)(d:X.cr=Chk P)(c:Ctx E T X h w)(i:Rs T X w b a.toList):
 YI P ((callFunc f a).run P w) w (Yq T X w h' v):=by
 simp only[Qz]at e;cases g:E.sum f with
 |some s=>
  rw[g]at e;exact n.sum f s g b h v h' e T X w a d c i
 |none=>
  rw[g]at e;obtain⟨j,m⟩:=l.body f b h v h' e T X w a d c i;exact .inr<|.inl ⟨f,a,j,m⟩
def Bm:∀(a:List AV)(i t:Nat),get (QP i a) t=if i<=t then(a[t-i]?).getD .bot else .bot:=by
 intro a;induction a with
 |nil=>intro i t;simp[QP,get]
 |cons v r c=>
  intro i t;simp only[QP,get];by_cases e:i=t
  .subst e;simp
  .have:(i==t)=false:=by simpa using e
   rw[this,cond_false,c];by_cases b:i<=t
   .have d:t-i=(t-(i+1))+1:=by omega
    rw[if_pos b,if_pos (by omega),d,ZTp]
   .rw[if_neg b,if_neg<|by omega]
def Bn{b:List AV}{a:Array Value}(h:Rs T X w b a.toList)(n:Nat):FrR T X w (QP 0 b) (a++Array.replicate n undef):=by
 intro t;rw[Bm,if_pos<|ZSt _,Nat.sub_zero];cases f:b[t]? with
 |none=>trivial
 |some v=>
  obtain⟨rv,e,g⟩:=Wp t h f;have c:a[t]?=some rv:=by simpa using e
  have d:=(ZTi.1 c).1;rw[ZTf,ZUt d,c];exact g
def Bo(S:EnvOk P E){k:Nat}(H:AllOk P E k){f:Nat}{b:List AV}{v:AV}{h':Hp}(d:QX E (k+1) f b h=some (v,h'))(a:Array Value)(p:X.cr=Chk P)(c:Ctx E T X h w)(M:Rs T X w b a.toList):
 (callFunc f a).run P w=.ok (.enter f a) w/\Calls P f a w λe w'=>∃rv,e=.returned rv/\Yq T X w h' v rv w':=by
 simp only[QX]at d;cases A:E.fn f with
 |none=>rw[A]at d;cases d
 |some q=>
  rw[A]at d;simp only at d;obtain⟨fn,U,D,Q,F,W,V⟩:=S.fn f q A;have i:(callFunc f a).run P w=.ok (.enter f a) w:=by
   unfold callFunc;simp only[Sem.run_bind,run_program,Result.andThen_ok,D,Q,F,Option.isNone_some,ZSH,if_false,Sem.run_pure]
  refine⟨i,(Rm (ro:=none) (n:=0)).1 ?_⟩;have o:∀e g ,Ze E k q.body (QP 0 b) h=some (e,g,h')->(e=.normal\/e=.ret)->QO g h' q.res=some v->CallsIn (Qa none) 0 P f a w λe w'=>∃rv,e=.returned rv/\Yq T X w h' v rv w':=by
   intro e g j u l;refine callsIn_of_wp_marks D F (VK _ _) ?_;have r:St E T X h w (QP 0 b) w.heap.size (a++Array.replicate (fn.ntmps-a.size) undef).size {tmps:=a++Array.replicate (fn.ntmps-a.size) undef,defers:=[]}:=
    ⟨c,Bn M _,rfl,⟨[],rfl,ZUa,by simp⟩,ZSr _⟩
   refine H.code q.body (QP 0 b) h e g h' j T X w _ fn.ntmps U w.heap.size _ false none 0 p ?_ W (λ_=>rfl) r _ ?_
   .simp only[Array.size_append,Array.size_replicate];omega
   .intro N Y w' J x;obtain⟨rs,t,B,s⟩:=x.marks;have:=Bi (P:=P) (fn:=fn) (n:=0) (K:=λe w'=>∃rv,e=.returned rv/\Yq T X w h' v rv w') (T0:=T) (w0:=w) (v:=v)
     (λZ G L C=>by
      obtain⟨rv,R,O⟩:=Bk (P:=P) (fn:=fn) G L V l;exact⟨rv,R,rv,rfl,N,C,G,O⟩)
     rs w' B s x.c.m x.f J
    rw[<-t]at this;rcases u with rfl|rfl<;>exact this
  split at d
  .next g y j=>
   simp only[ZSD]at d;obtain⟨v',z,d⟩:=d;cases d;exact o _ _ j (.inl rfl) z
  .next g y j=>
   simp only[ZSD]at d;obtain⟨v',z,d⟩:=d;cases d;exact o _ _ j (.inr rfl) z
  .cases d
def Bp{v:AV}{rv:Value}{X2:Xt}(a:∀r,¬T.rng r->¬X r->¬X2 r)(c:clean v=true)(b:R T X w v rv):R Ty.empty X2 w v rv:=Ww a v rv (KK v c) b
def Bq(L:EnvOk P E){k:Nat}(H:AllOk P E k){p:Bool}{f:Nat}{a:List AV}{v:AV}{h':Hp}(o:Qm E (k+1) p f a h=some (v,h'))(d:Array Value)(z:X.cr=Chk P)(c:Ctx E T X h w)(e:Rs T X w a d.toList):
 YI P ((callFunc f d).run P w) w (Yq T X w h' v):=by
 cases p with
 |false=>
  rw[Qm]at o;exact H.fn f a h v h' o T X w d z c e
 |true=>
  simp only[Qm]at o;split at o
  .next as i=>
   split at o
   .next u K B=>
    simp only[ZSD]at o;obtain⟨v',y,o⟩:=o;cases o
    let X2:Xt:=⟨λr=>X r\/T.rng r,X.cr⟩
    have x:∀r,¬T.rng r->¬X r->¬X2 r:=λr C J l=>l.elim J C
    have O:M Ty.empty X2 [] w:=by
     refine⟨λb c' Q G r s=>(by cases s),λr e=>(XX r e).elim,λr e=>(XX r e).elim,λb=>?_⟩
     simp only[List.getElem?_nil];trivial
    have G:Ctx E Ty.empty X2 [] w:=
     ⟨O,λg=>⟨Bp x (L.gl g) (c.gl g).1,(c.gl g).2⟩,λr e=>e.elim (c.hX r)<|c.m.lt r⟩
    have F:Rs Ty.empty X2 w as d.toList:=by
     unfold Ql at i;cases j:Z4 a with
     |true=>
      rw[j]at i;simp only[cond_true,Option.some.injEq]at i;subst i;exact XY x a _ (XW a j) e
     |false=>
      rw[j]at i;simp only[cond_false]at i;exact((MK c.m x (λs=>by cases s) 40).2 a as i).2.1 _ e
    refine(H.fn f as [] u K B Ty.empty X2 w d z G F).mono ?_;rintro rv w' ⟨T',st,m',hu⟩;have n:∀b,b<w.heap.size->w'.heap[b]?=w.heap[b]?:=λb s=>st.keep b s<|XX b
    have A:Step T w T w':=⟨st.os,st.tape,st.output,st.size,λb c s=>⟨c,s,.refl c⟩,λb s _=>n b s,λb s=>.inl s,st.drawn⟩
    have t:∀r,T'.rng r->w.heap.size<=r:=λr e=>(st.rng r e).resolve_left (XX r)
    refine⟨T,A,Xr c.m A<|λr e=>n r<|c.m.lt r e,?_⟩
    have q:∀r,¬X2 r->¬T.rng r/\¬X r:=λr l=>⟨λe=>l<|.inr e,λe=>l<|.inl e⟩
    unfold YE at y;cases j:clean u with
    |true=>
     rw[j]at y;simp only[cond_true,Option.some.injEq]at y;subst y;exact KL (λr _ l=>q r l) u rv j hu
    |false=>
     rw[j]at y;simp only[cond_false]at y;obtain⟨C,_,_,N⟩:=(MK (X2:=X2) (bw:=false) m' (λr _ l=>l)
      (λ_ r e l=>by have:=t r e;have:=G.hX r l;omega) 40).1 u v y
     have D:clean v=true:=by simpa[okc,Z4]using C
     exact KL (λr _ l=>q r l) v rv D<|N rv hu
   .cases o
  .cases o
def Br{k:Nat}(o:AllOk P E k){p:Bool}{f:AV}{e:List AV}{v:AV}{h':Hp}(j:QQ E (k+1) p f e h=some (v,h'))(q:Value)(a:Array Value)(m:X.cr=Chk P)(c:Ctx E T X h w)(n:R T X w f q)(s:Rs T X w e a.toList):
 YI P ((do let d <-Deferred.ofValue q a;invoke d.target d.args:Sem Next).run P w) w (Yq T X w h' v):=by
 cases f with
 |clo fn first cap=>
  cases fn with
  |func g=>
   simp only[QQ]at j;obtain⟨t,r,rfl,x,y⟩:=n;have i:(do let d <-Deferred.ofValue (.func (.func g) t r) a;invoke d.target d.args:Sem Next).run P w=(callFunc g<|(t++a)++r).run P w:=by
    simp only[Deferred.ofValue,Sem.run_bind,Sem.run_pure,Result.andThen_ok,invoke]
   rw[i];refine o.call p g _ h v h' j T X w _ m c ?_;have:=QR (QR x s) y;simpa using this
  |_=>simp[QQ]at j
 |yld b=>
  simp only[QQ]at j;cases p with
  |true=>simp at j
  |false=>
   simp only[cond_false]at j;obtain⟨l,u,rfl⟩:=n;have i:(do let d <-Deferred.ofValue (.func (.yield l) #[] #[]) a;invoke d.target d.args:Sem Next).run P w=(Instr.yield l a).run P w:=by
    simp only[Deferred.ofValue,Sem.run_bind,Sem.run_pure,Result.andThen_ok,invoke];simp
   rw[i];exact o.yield b e h v h' j T X w a l m c s u
 |_=>simp[QQ]at j
end Go.AM
namespace Go.AM
open Go
variable {E:Env} {fr:Fr} {h h':Hp}
def MQ{x:AV}(a:∀b∈Zs x,h'[b]?=h[b]?):Q2 h' x=Q2 h x:=by
 cases x<;>first|rfl|skip
 case sl b g off len ex=>simp only[Q2,a b<|by simp[Zs]]
def MR{sz:Nat}{x:AV}(a:∀b∈Zs x,h'[b]?=h[b]?):Qq h' sz x=Qq h sz x:=by
 cases x<;>first|rfl|skip
 case sl b g off len ex=>simp only[Qq,a b<|by simp[Zs]]
def Bs{x:AV}(a:∀b∈Zs x,h'[b]?=h[b]?):X1 h' x=X1 h x:=by
 cases x<;>first|rfl|skip
 case sl b g off len ex=>simp only[X1,a b<|by simp[Zs]]
 case mp b=>simp only[X1,a b<|by simp[Zs]]
def Bu{aid sz a:Nat}{fz:Bool}{s x:AV}(f:∀b∈Zs s++Zs x,h'[b]?=h[b]?):Qt h' aid fz sz a s x=Qt h aid fz sz a s x:=by
 have c:∀b∈Zs s,h'[b]?=h[b]?:=λb d=>f b<|by simp[d]
 have e:∀b∈Zs x,h'[b]?=h[b]?:=λb d=>f b<|by simp[d]
 unfold Qt;rw[MQ c,MQ e,MR c,MR e];cases s<;>first|rfl|skip
 case isl bw ex z es=>cases ex<;>rfl
 case sl b g off len ex=>
  have:=c b<|by simp[Zs]
  cases ex
  .simp only[this]
  .rfl
def Bv{aid:Nat}{e:AOp}(a:∀b∈opT E fr e,h'[b]?=h[b]?):Z8 E fr h' aid e=Z8 E fr h aid e:=by
 cases e<;>try rfl
 case load n x=>
  simp only[opT]at a;simp only[Z8];generalize ev E fr x=y at a⊢;cases y<;>first|rfl|(have d:=a _<|ZSL.2 rfl;simp only[d])
 case store n x y=>
  simp only[opT]at a;simp only[Z8];generalize ev E fr x=y at a⊢;cases y<;>first|rfl|(have d:=a _<|ZSL.2 rfl;simp only[d])
 case isn neg x=>
  simp only[opT]at a;simp only[Z8];generalize ev E fr x=y at a⊢;cases y<;>first|rfl|(have d:=a _<|ZSL.2 rfl;simp only[d])
 case nilck x=>
  simp only[opT]at a;simp only[Z8];generalize ev E fr x=y at a⊢;cases y<;>first|rfl|(have d:=a _<|ZSL.2 rfl;simp only[d])|skip
  case clo fn first cap=>cases fn<;>rfl
 case ldr n c x=>
  simp only[opT]at a;simp only[Z8];generalize ev E fr x=y at a⊢;cases y<;>first|rfl|skip
  case ptr b i off g=>
   have d:=a b<|by simp
   have j:=a (b+1)<|by simp
   simp only[d,ZvH,j]
 case rel x=>
  simp only[opT]at a;simp only[Z8];generalize ev E fr x=y at a⊢;cases y<;>first|rfl|(have d:=a _<|ZSL.2 rfl;simp only[d])
 case fadr n x=>
  simp only[opT]at a;simp only[Z8];generalize ev E fr x=y at a⊢;cases y<;>first|rfl|(have d:=a _<|ZSL.2 rfl;simp only[d])
 case nxt x=>
  simp only[opT]at a;simp only[Z8];generalize ev E fr x=y at a⊢;cases y<;>first|rfl|(have d:=a _<|ZSL.2 rfl;simp only[d])
 case len k x=>
  simp only[opT]at a;simp only[Z8,Bs a]
 case iadr sz x i=>
  simp only[opT]at a;simp only[Z8];generalize ev E fr x=y at a⊢;generalize ev E fr i=z;cases y<;>cases z<;>first|rfl|(have d:=a _<|ZSL.2 rfl;simp only[d])
 case aadr sz n x i=>
  simp only[opT]at a;simp only[Z8];generalize ev E fr x=y at a⊢;generalize ev E fr i=z;cases y<;>cases z<;>first|rfl|(have d:=a _<|ZSL.2 rfl;simp only[d])
 case slc sz x lo hi mx=>
  simp only[opT]at a;simp only[Z8];generalize ev E fr x=y at a⊢;cases y<;>first|rfl|(have d:=a _<|ZSL.2 rfl;simp only[d])
 case ins ag ks m k v=>
  simp only[opT]at a;simp only[Z8];generalize ev E fr m=y at a⊢;cases y<;>first|rfl|(have d:=a _<|ZSL.2 rfl;simp only[d])
 case mupd ag ks m k v=>
  simp only[opT]at a;simp only[Z8];generalize ev E fr m=y at a⊢;cases y<;>first|rfl|(have d:=a _<|ZSL.2 rfl;simp only[d])
 case lkp ag ks ok z m k=>
  simp only[opT]at a;simp only[Z8];generalize ev E fr m=y at a⊢;cases y<;>first|rfl|(have d:=a _<|ZSL.2 rfl;simp only[d])
 case app fz sz bytes s x=>
  simp only[opT]at a;simp only[Z8];exact Bu a
 case apr sz bytes s x=>
  simp only[opT]at a;simp only[Z8];rw[Bu a];cases f:Qt h aid false sz bytes (ev E fr s) (ev E fr x)with
  |none=>rfl
  |some r=>
   obtain⟨v,rs,q⟩:=r;dsimp only;cases q with
   |some p=>cases v<;>first|rfl|(obtain⟨t,o⟩:=p;cases o<;>rfl)
   |none=>
    have l:=Zzc f;cases v<;>first|rfl|skip
    case sl b g off len ex=>
     have:=a b<|ZTM _<|by rw[<-l];simp[Zs]
     simp only[ZvE,this]
def MS{x:AV}{es:List AV}(a:Q2 h x=some es):∀b∈Zs x,∃o,h[b]?=some o:=by
 intro b c;cases x<;>simp[Zs]at c<;>simp only[Q2,reduceCtorEq]at a
 case sl b' g off len ex=>
  subst c;cases d:h[b]? with
  |none=>rw[d]at a;cases a
  |some o=>exact⟨o,rfl⟩
def Bw{aid:Nat}{q:AOp}{r:Zt}(d:Z8 E fr h aid q=some r):∀b∈opT E fr q,∃o,h[b]?=some o:=by
 intro b a;cases e:h[b]? with
 |some o=>exact⟨o,rfl⟩
 |none=>
  exfalso;cases q<;>simp only[opT,ZUj]at a<;>simp only[Z8]at d
  case load n x=>
   generalize ev E fr x=y at a d;cases y<;>simp[Zs]at a<;>subst a<;>simp[e]at d
  case store n x y=>
   generalize ev E fr x=y at a d;cases y<;>simp[Zs]at a<;>subst a<;>simp[e]at d
  case isn neg x=>
   generalize ev E fr x=y at a d;cases y<;>simp[Zs]at a<;>subst a<;>simp[e]at d
  case nilck x=>
   generalize ev E fr x=y at a d;cases y<;>simp[Zs]at a<;>subst a<;>simp[e]at d
  case ldr n c x=>
   generalize ev E fr x=y at a d;cases y<;>first|(simp at a;done)|skip
   case ptr b' i off g=>
    simp only[ZST,ZUj,or_false]at a;rcases a with rfl|rfl
    .simp[e]at d
    .dsimp only at d
     repeat' (split at d)
     all_goals first
      |(cases d;done)
      |skip
     all_goals try simp only[cond]at d
     all_goals (repeat' (split at d))
     all_goals first
      |(cases d;done)
      |(unfold ZvH at d
        repeat' (split at d)
        all_goals try simp only[cond]at d
        all_goals (repeat' (split at d))
        all_goals first
         |(cases d;done)
         |(rename_i t;rw[e]at t;cases t)
         |(simp_all))
  case rel x=>
   generalize ev E fr x=y at a d;cases y<;>simp[Zs]at a<;>subst a<;>simp[e,Zs]at d
  case fadr n x=>
   generalize ev E fr x=y at a d;cases y<;>simp[Zs]at a<;>subst a<;>simp[e]at d
  case nxt x=>
   generalize ev E fr x=y at a d;cases y<;>simp[Zs]at a<;>subst a<;>simp[e]at d
  case len k x=>
   generalize ev E fr x=y at a d;cases y<;>simp[Zs]at a<;>subst a<;>cases u:VC k _<;>rw[u]at d<;>simp[X1,e]at d
  case iadr sz x i=>
   generalize ev E fr x=y at a d;generalize ev E fr i=z at d;cases y<;>simp[Zs]at a<;>subst a<;>cases z<;>simp[e]at d
  case aadr sz n x i=>
   generalize ev E fr x=y at a d;generalize ev E fr i=z at d;cases y<;>simp[Zs]at a<;>subst a<;>cases z<;>simp[e]at d
  case slc sz x lo hi mx=>
   generalize ev E fr x=y at a d;cases y<;>simp[Zs]at a<;>subst a<;>simp only[e]at d<;>first|(cases d;done)|(split at d<;>simp at d)
  case ins ag ks m k v=>
   generalize ev E fr m=y at a d;cases y<;>simp[Zs]at a<;>subst a<;>simp[e]at d
  case mupd ag ks m k v=>
   generalize ev E fr m=y at a d;cases y<;>simp[Zs]at a<;>subst a<;>simp[e]at d
  case lkp ag ks ok z m k=>
   generalize ev E fr m=y at a d;cases y<;>simp[Zs]at a<;>subst a<;>simp[e]at d
  case apr sz bytes s x=>
   cases j:Qt h aid false sz bytes (ev E fr s) (ev E fr x)with
   |none=>rw[j]at d;cases d
   |some r=>
    unfold Qt at j;split at j
    .next es ys l p=>
     rcases ZSQ.1 a with a|a
     .obtain⟨o,f⟩:=MS l b a;rw[e]at f;cases f
     .obtain⟨o,f⟩:=MS p b a;rw[e]at f;cases f
    .cases j
  case app fz sz bytes s x=>
   unfold Qt at d;split at d
   .next es ys l p=>
    rcases ZSQ.1 a with a|a
    .obtain⟨o,f⟩:=MS l b a;rw[e]at f;cases f
    .obtain⟨o,f⟩:=MS p b a;rw[e]at f;cases f
   .cases d
def Le(h h':Hp):Prop:=∀(b:Nat)(o:AObj),h[b]?=some o->h'[b]?=some o
variable {bw:Bool}
mutual
def MT(l:Le h h'){bw:Bool}:(n:Nat)->(v v':AV)->freeze bw h n v=some v'->freeze bw h' n v=some v'
 |0,v,v',he=>by simp[freeze]at he
 |n+1,v,v',he=>by
  simp only[freeze]at he⊢;cases q:clean v with
  |true=>rw[q]at he;exact he
  |false=>
   rw[q]at he;simp only[cond_false]at he⊢;cases v<;>(first|(simp only[reduceCtorEq]at he;done)|dsimp only at he⊢ |skip)
   case agg cs=>
    simp only[ZSD]at he⊢;obtain⟨a,d,j⟩:=he;exact⟨a,Wy l n cs a d,j⟩
   case tup cs=>
    simp only[ZSD]at he⊢;obtain⟨a,d,j⟩:=he;exact⟨a,Wy l n cs a d,j⟩
   case ifc t x=>
    simp only[ZSD]at he⊢;obtain⟨a,d,j⟩:=he;exact⟨a,MT l n x a d,j⟩
   case clo fn first cap=>
    split at he
    .next f c d j=>rw[Wy l n first f d,Wy l n cap c j];exact he
    .cases he
   case iptr b cs=>cases b<;>exact he
   case isl b ex sz es=>cases b<;>exact he
   case imap b ks vs=>cases b<;>exact he
   case ptr b i off g=>
    cases k:h[b]? with
    |none=>rw[k]at he;cases he
    |some o=>
     rw[k]at he;rw[l b o k];cases o<;>(first|(simp only[reduceCtorEq]at he;done)|dsimp only at he⊢ |skip)
     case row sz es=>
      cases m:(es.length==g)with
      |false=>rw[m]at he;cases he
      |true=>
       rw[m]at he;simp only[cond_true]at he⊢;cases p:es[i]? with
       |none=>rw[p]at he;cases he
       |some e=>
        rw[p]at he;simp only[ZSD]at he⊢;obtain⟨a,d,j⟩:=he;exact⟨a,Wy l n _ a d,j⟩
   case sl b g off len ex=>
    cases k:h[b]? with
    |none=>rw[k]at he;cases he
    |some o=>
     rw[k]at he;rw[l b o k];cases o<;>(first|(simp only[reduceCtorEq]at he;done)|dsimp only at he⊢ |skip)
     case row sz es=>
      cases m:(es.length==g)with
      |false=>rw[m]at he;cases he
      |true=>
       rw[m]at he;simp only[cond_true,ZSD]at he⊢;obtain⟨a,d,j⟩:=he;exact⟨a,Wy l n _ a d,j⟩
   case mp b=>
    cases k:h[b]? with
    |none=>rw[k]at he;cases he
    |some o=>
     rw[k]at he;rw[l b o k];cases o<;>(first|(simp only[reduceCtorEq]at he;done)|dsimp only at he⊢ |skip)
     case map ks vs=>
      cases m:Z4 ks with
      |false=>rw[m]at he;cases he
      |true=>
       rw[m]at he;simp only[cond_true,ZSD]at he⊢;obtain⟨a,d,j⟩:=he;exact⟨a,Wy l n _ a d,j⟩
def Wy(d:Le h h'){bw:Bool}:(n:Nat)->(v v':List AV)->ZC bw h n v=some v'->ZC bw h' n v=some v'
 |0,v,v',he=>by cases v<;>simp[ZC]at he
 |n+1,[],v',he=>by simpa[ZC]using he
 |n+1,v::r,v',he=>by
  simp only[ZC]at he⊢;cases c:Z4 (v::r)with
  |true=>rw[c]at he;exact he
  |false=>
   rw[c]at he;simp only[cond_false]at he⊢;split at he
   .next a b f e=>rw[MT d n v a f,Wy d n r b e];exact he
   .cases he
end
mutual
def MU{bw:Bool}:(n:Nat)->(v:AV)->Zy v=true->freeze bw h n v=freeze bw h' n v
 |0,v,_=>by simp[freeze]
 |n+1,v,hn=>by
  simp only[freeze];cases a:clean v with
  |true=>rfl
  |false=>
   simp only[cond_false];cases v<;>first|rfl|(simp[Zy]at hn;done)|skip
   case iptr b _=>cases b<;>rfl
   case isl b _ _ _=>cases b<;>rfl
   case imap b _ _=>cases b<;>rfl
   case agg cs=>simp only[KP n cs<|by simpa[Zy]using hn]
   case tup cs=>simp only[KP n cs<|by simpa[Zy]using hn]
   case ifc t x=>simp only[MU n x<|by simpa[Zy]using hn]
   case clo fn first cap=>
    simp only[Zy,ZSq]at hn;simp only[KP n first hn.1,KP n cap hn.2]
def KP{bw:Bool}:(n:Nat)->(v:List AV)->Zi v=true->ZC bw h n v=ZC bw h' n v
 |0,v,_=>by cases v<;>simp[ZC]
 |n+1,[],_=>by simp[ZC]
 |n+1,v::r,hn=>by
  simp only[Zi,ZSq]at hn;simp only[ZC,MU n v hn.1,KP n r hn.2]
end
end Go.AM
namespace Go.AM
open Go
variable [Dr]
variable {P:Program} {E:Env} {T:Ty} {X:Xt} {w:World} {h:Hp} {fr:Fr} {a:Act}
def Bx{s:Sem Next}{t ty:TypeId}{k:Nat}{x:AV}{v:Value}{res:Zt}(m:M T X h w)(l:(match k with|0=>V3 P t|1=>(isSlice P t).isSome|2=>(isMap P t).isSome|_=>false)=true)(d:R T X w x v)
 (c:∀rv,(Builtin.len_ #[t] ty #[v]).run P w=.ok rv w->s.run P w=.ok (.value rv) w)
 (a:(bif VC k x then X1 h x else none)=some res):Sim P T X h w s res:=by
 cases j:VC k x with
 |false=>grind
 |true=>
  rw[j]at a;have b:V3 P t=true->P.underlying t=some .string:=Gd;have i:(isSlice P t).isSome=true->∃e,P.underlying t=some (.slice e):=by
   simp_all[ZUk,KJ]
  have g:(isMap P t).isSome=true->∃k e,P.underlying t=some (.map k e):=by
   intro f;obtain⟨⟨k,e⟩,a⟩:=ZUk.1 f;exact⟨k,e,Ge a⟩
  refine CN (ty:=ty) m ?_ ?_ d c a
  all_goals grind [VC]
def MV{sz aid:Nat}{x:AV}{res:Zt}(a:(bif fits sz x then(bif Z4 x.cells then Zl (some<|.iptr false x.cells)else bif Zi x.cells then Zl (some<|.iptr true x.cells)else some (.ptr aid 0 0 1,[],some (aid,.row sz [x])))else none)=some res):
 fits sz x=true/\((∃bw,okc bw x.cells=true/\res=(.iptr bw x.cells,[],none))\/res=(.ptr aid 0 0 1,[],some (aid,.row sz [x]))):=by
 cases e:fits sz x with
 |false=>grind
 |true=>
  rw[e,cond_true]at a;cases c:Z4 x.cells with
  |true=>
   rw[c,cond_true]at a;obtain⟨u,b,rfl⟩:=ZY a;cases b;exact⟨rfl,.inl ⟨false,c,rfl⟩⟩
  |false=>
   rw[c,cond_false]at a;cases d:Zi x.cells with
   |true=>
    rw[d,cond_true]at a;obtain⟨u,b,rfl⟩:=ZY a;cases b;exact⟨rfl,.inl ⟨true,d,rfl⟩⟩
   |false=>
    grind
def MW{s:Sem Next}{mx:Bool}{x y:AV}{v u:Value}{res:Zt}(m:M T X h w)(e:R T X w x v)(g:R T X w y u)
 (d:∀k p j q,v=.int k p->u=.int j q->s.run P w=.ok (.value<|.int k<|bif mx then(if q>p then q else p)else(if q<p then q else p)) w)
 (c:(match(generalizing:=false) x,y with| .int k a,.int _ b=>Zl (some<|AV.int k<|bif mx then(if b>a then b else a)else(if b<a then b else a))|_,_=>none)=some res):Sim P T X h w s res:=by
 cases x<;>(first|(simp[reduceCtorEq]at c)|skip)
 cases y<;>(first|(simp[reduceCtorEq]at c)|skip)
 next k a j b=>
 obtain⟨z,f,rfl⟩:=ZY c;cases f;exact Sim.pure m (d k a j b e g) rfl
def MX{es:List AV}(a:Z4 es=true):∀(n k:Nat),Z4 ((es.drop n).take k)=true:=by
 induction es with
 |nil=>grind
 |cons e es b=>
  intro n k;simp[Z4]at a;cases n with
  |zero=>
   cases k with
   |zero=>rfl
   |succ k=>
    have:=b a.2 0 k
    simp_all[Z4]
  |succ n=>grind
theorem MY{s:Sem Next}{x:AV}{v:Value}{res:Zt}(m:M T X h w)(O:R T X w x v)(hs:s.run P w=.ok (.value v) w)
 (d:(match(generalizing:=false) x with
 | .sl b g off len ex=>
  match h[b]? with
  |some (.row sz es)=>bif es.length==g&&Z4 es then some (AV.isl false ex sz<|(es.drop off).take len,[b],some (b,AObj.gone))else none
  |_=>none
 |v=>bif (Zs v).isEmpty then Zl (some v)else none)=some res):Sim P T X h w s res:=by
 have j:∀y:AV,y=x->(bif (Zs y).isEmpty then Zl (some y)else none)=some res->Sim P T X h w s res:=by
  rintro y rfl d;cases ht:(Zs y).isEmpty with
  |false=>grind
  |true=>
   rw[ht]at d;obtain⟨u,hu,rfl⟩:=ZY d
   grind [Sim.pure]
 cases x<;>first|exact j _ rfl d|skip
 case sl b g off len ex=>
  dsimp only at d;split at d
  .next sz es L=>
   cases G:(es.length==g&&Z4 es)with
   |false=>grind
   |true=>
    rw[G]at d;simp[Option.some.injEq]at d;subst d;simp[beq_iff_eq]at G;obtain⟨U,A⟩:=G;obtain⟨r,C,B,D,k0,hC,n⟩:=XV m L;obtain⟨_,S,g2,r2,C2,B2,t,k1,k2,Z⟩:=O;rw[D]at t;cases t;obtain⟨cap,N,k5,k6,k7⟩:=Z U.symm;have o:b<h.length:=(ZSA.1 L).1;have a:∀q,(upd T b<|.row sz (es.length+1) none 0 0).rng q->∃f c',f≠b/\T f=some c'/\c'.real=some q:=by
     rintro q ⟨f,c',k,z⟩;by_cases e:f=b
     .subst e;rw[upd_same]at k;cases k;cases z
     grind [upd_ne]
    have E:Step T w (upd T b<|.row sz (es.length+1) none 0 0) w:=by
     refine⟨rfl,rfl,rfl,ZSr _,λy c K=>?_,λ_ _ _=>rfl,λq J=>?_,λ_=>ZSr _⟩
     .by_cases e:y=b
      .subst e;rw[D]at K;cases K;exact⟨_,upd_same _ _ _,rfl,.inr<|by omega⟩
      .exact⟨c,by grind [upd_ne],.refl _⟩
     .obtain⟨f,c',_,k,z⟩:=a q J;exact .inl ⟨f,c',k,z⟩
    have m':=WZ m b .gone (.row sz (es.length+1) none 0 0) (ZTx o) E (λ_ _ _ _ _ _=>rfl) (λr Q=>by cases Q) trivial
    refine⟨_,w,v,.inl hs,E,m',?_⟩;have W:((es.drop off).take len).length=len:=by grind
    rcases k7 with⟨l,rfl,rfl⟩|⟨rfl,p,rfl,k8⟩
    .obtain⟨F,el,j1,j2,Y⟩:=n;have i:T.rng l:=⟨b,_,D,rfl⟩;refine⟨_,_,_,rfl,W.symm,N,k6,MX A _ _,.inr ⟨l,(B+off)*sz,rfl,?_,λ_=>m.notX l i,m.lt l i,?_⟩⟩
     .intro J;obtain⟨f,c',H,k,z⟩:=a l J;exact H<|m.inj f c' b _ l k D z rfl
     .have:=UV len<|UU off Y;rw[ZSY];exact HS E _ _ rfl _ _ this
    .have V:len=0:=by omega
     refine⟨_,_,_,rfl,by omega,ZSr _,λ_=>rfl,MX A _ _,.inl ?_⟩
     grind
  grind
def Zze{s:Sem Next}{r res:Zt}(K:Sim P T X h w s r)(N:∀b o,r.2.2=some (b,o)->b<=h.length)(d:ZvE h r=some res):Sim P T X h w s res:=by
 obtain⟨v,rs,q⟩:=r;obtain⟨T0,w0,rv,e,i,G,A⟩:=K;have m:∀(b g off c sz:Nat)(f:Bool)(es:List AV),v=.sl b g off c f->(ZH h q)[b]?=some (.row sz es)->(es.length==g&&Z4 es)=true->
  setH (ZH h q) b .gone=setH h b .gone->Sim P T X h w s (.isl false f sz<|(es.drop off).take c,rs,some (b,.gone)):=by
  rintro b g off c sz f es rfl hrow y hset;have l:Sim P T0 X (ZH h q) w0 (Pure.pure (Next.value rv):Sem Next) (AV.isl false f sz<|(es.drop off).take c,[b],some (b,AObj.gone)):=by
   grind [MY,Sem.run_pure]
  obtain⟨D,z,u,x,t,L,B⟩:=l;have F:z=w0/\u=rv:=by
   simp_all
  obtain⟨rfl,rfl⟩:=F;have n:M D X (setH (ZH h q) b .gone) z:=L;rw[hset]at n;exact⟨D,z,_,e,i.trans t,n,B⟩
 unfold ZvE at d;split at d
 .next b g off c f p E sz es a=>
  simp only[Prod.mk.injEq]at a;obtain⟨rfl,rfl,rfl⟩:=a;cases j:(E==b&&(es.length==g&&Z4 es))with
  |false=>grind
  |true=>
   rw[j]at d;simp only[cond_true,Option.some.injEq]at d;subst d;simp only[ZSq]at j;have C:E=b:=by grind
   subst C;obtain⟨J,H⟩:=Zzb (.row sz es) .gone<|N _ _ rfl;exact m _ _ _ _ _ _ es rfl H (by grind) J
 .next b g off c f p a=>
  simp only[Prod.mk.injEq]at a;obtain⟨rfl,rfl,rfl⟩:=a;cases k:h[b]? with
  |none=>grind
  |some o=>
   rw[k]at d;cases o<;>simp only[reduceCtorEq]at d
   case row sz es=>
    cases y:(es.length==g&&Z4 es)with
    |false=>grind
    |true=>
     rw[y]at d;simp only[cond_true,Option.some.injEq]at d;subst d;exact m _ _ _ _ _ _ es rfl k y rfl
 .next bw f sz es p a=>
  simp only[Prod.mk.injEq]at a;obtain⟨rfl,rfl,rfl⟩:=a;simp only[Option.some.injEq]at d;subst d;exact⟨T0,w0,rv,e,i,G,A⟩
 grind
def ZxQ:∀{cs:List AV}{vs:List Value}{o:Nat}{x:AV}{v:Value},Rs T X w cs vs->vs[o]?=some v->R T X w x v->Rs T X w (cs.set o x) vs
 |[],vs,o,x,v,h,_,_=>h
 |c::cs,vs,0,x,v,h,hv,hx=>by
  obtain⟨u,us,rfl,b,a⟩:=h;simp[Option.some.injEq]at hv;subst hv;exact⟨_,_,rfl,hx,a⟩
 |c::cs,vs,o+1,x,v,h,hv,hx=>by
  obtain⟨u,us,rfl,b,a⟩:=h;exact⟨_,_,rfl,b,ZxQ a (by grind) hx⟩
def Zzf{s:Sem Next}{t:TypeId}{n c:Nat}{x:AV}{v:Value}{res:Zt}(m:M T X h w)(J:Xv P t (some n)=true)(S:R T X w x v)
 (Y:∀rv,(Instr.loadAt t v).run P w=.ok rv w->s.run P w=.ok (.value rv) w)
 (a:(match(generalizing:=false) x with
  | .ptr b i off g=>
   match h[b]? with
   |some (.row _ es)=>
    bif es.length==g then
     match es[i]? with
     |some e=>
      match takeC (some n) (e.cells.drop off)with
      |some u=>ZvH h b c u
      |none=>none
     |none=>none
    else none
   |_=>none
  |_=>none)=some res):Sim P T X h w s res:=by
 cases x<;>simp[reduceCtorEq]at a
 case ptr b i off g=>
  cases hb:h[b]? with
  |none=>grind
  |some o=>
   rw[hb]at a;cases o<;>simp[reduceCtorEq]at a
   case row sz es=>
    cases W:(es.length==g)with
    |false=>grind
    |true=>
     rw[W]at a;simp[cond_true]at a;cases U:es[i]? with
     |none=>grind
     |some e=>
      rw[U]at a;dsimp only at a;cases L:takeC (some n) (e.cells.drop off)with
      |none=>grind
      |some u=>
       rw[L]at a;have A:Sim P T X h w s (u,[b],none):=by
        refine Cv (n:=some n) m J S Y ?_
        grind
       obtain⟨T0,w0,rv,f,p,O,E⟩:=A;have V:M T0 X h w0:=O;cases u<;>simp[ZvH]at a
       case agg cs=>
        cases j:cs[c]? with
        |none=>grind
        |some q=>
         rw[j]at a;cases q<;>simp[reduceCtorEq]at a
         case sl b2 g2 off2 len ex=>
          obtain⟨vs,rfl,k⟩:=E;obtain⟨G,C,hR⟩:=Wp c k j;cases y:(b2==b+1)with
          |false=>grind
          |true=>
          rw[y]at a;simp[cond_true]at a;have aa:b2=b+1:=by grind
          cases B:h[b+1]? with
          |none=>grind
          |some Q=>
           rw[B]at a;cases Q<;>simp[reduceCtorEq]at a
           case row sz2 es2=>
            cases D:(es2.length==g2&&Z4 es2)with
            |false=>grind
            |true=>
             rw[D]at a;simp[Option.some.injEq]at a;subst a;have l:Sim P T0 X h w0 (Pure.pure (Next.value G):Sem Next) (AV.isl false ex sz2<|(es2.drop off2).take len,[b+1],some (b+1,AObj.gone)):=by
              grind [MY,Sem.run_pure]
             obtain⟨N,H,r,z,d,Z,F⟩:=l;have K:H=w0/\r=G:=by
              simp_all
             obtain⟨rfl,rfl⟩:=K;exact⟨N,H,_,f,p.trans d,Z,vs,rfl,ZxQ (Yb d _ _ k) C F⟩
set_option maxHeartbeats 1000000 in
def MZ(c:Ctx E T X h w)(B:FrR T X w fr a.tmps){o:Oper}{q:AOp}{aid:Nat}{res:Zt}(R:aid<=h.length)(hT:T aid=none)(g:Gb P o.op q=true)(A:Z8 E fr h aid q=some res):
 Sim P T X h w (execOp a.eval o) res:=by
 obtain⟨bg,op,ty,bk,bf,gd⟩:=o;simp only at g;have C:=c.gl;have m:=c.m;have hX:=c.hX;unfold Gb at g;split at g
 .next x y=>exact MY m (evR C B g) rfl A
 .next x y=>exact MY m (evR C B g) rfl A
 .next x y=>
  obtain⟨u,M,rfl⟩:=ZY A;cases M;exact Sim.pure m rfl (evR C B g)
 .next x y=>
  obtain⟨u,M,rfl⟩:=ZY A;cases M;exact Sim.pure m rfl (evR C B g)
 .next x sz=>
  simp only[ZSq,decide_eq_true_eq]at g;cases MG g.1;simp only[Z8,Option.some.injEq]at A;subst A;exact MH m R hT g.2 rfl
 .next x sz=>
  simp only[ZSq,decide_eq_true_eq]at g;cases MG g.1;simp only[Z8,Option.some.injEq]at A;subst A;exact MH m R hT g.2 rfl
 .next cc x y c' x' y'=>
  simp only[ZSq]at g;have L:=evR C B g.1.1;have J:=evR C B g.1.2;have h3:=evR C B g.2;simp only[Z8]at A;generalize ev E fr c'=cv at A L;cases cv<;>(first|(simp only[reduceCtorEq]at A;done)|skip)
  case bool b=>
   have O:=Wu L;cases b
   .obtain⟨u,M,rfl⟩:=ZY A;cases M;exact Sim.pure m (by simp[execOp,O,asBool]) h3
   .obtain⟨u,M,rfl⟩:=ZY A;cases M;exact Sim.pure m (by simp[execOp,O,asBool]) J
 .next t sz z=>
  simp only[ZSq,decide_eq_true_eq]at g;obtain⟨v,hv,aq⟩:=Gf g.1;simp only[Z8,ev]at A;cases Q:fits sz z with
  |false=>rw[Q]at A;cases A
  |true=>
   rw[Q]at A;simp only[cond_true,Option.some.injEq]at A;subst A;exact UZ (e:=t) m hX R hT g.2 Q (Ws v z aq)<|Qg (s:=Instr.alloc t true<|.tuple #[]) rfl (by simp[Instr.alloc,Xu w hv,KB])
 .next t x sz y=>
  simp only[ZSq,decide_eq_true_eq]at g;simp only[Z8]at A;cases Q:fits sz (ev E fr y)with
  |false=>rw[Q]at A;cases A
  |true=>
   rw[Q]at A;simp only[cond_true,Option.some.injEq]at A;subst A;exact UZ (e:=t) m hX R hT g.2 Q (evR C B g.1)<|Qg (s:=Instr.box t<|a.eval x) rfl (by simp[Instr.box,KB])
 .next t sz z=>
  simp only[ZSq,decide_eq_true_eq]at g;obtain⟨v,hv,aq⟩:=Gf g.1;simp only[Z8,ev]at A;obtain⟨Q,⟨bw,av,rfl⟩|rfl⟩:=MV A
  .exact Mj (e:=t) m hX Q av (Ws v z aq)<|Qg (s:=Instr.alloc t true<|.tuple #[]) rfl (by simp[Instr.alloc,Xu w hv,KB])
  .exact UZ (e:=t) m hX R hT g.2 Q (Ws v z aq)<|Qg (s:=Instr.alloc t true<|.tuple #[]) rfl (by simp[Instr.alloc,Xu w hv,KB])
 .next t x sz y=>
  simp only[ZSq,decide_eq_true_eq]at g;simp only[Z8]at A;obtain⟨Q,⟨bw,av,rfl⟩|rfl⟩:=MV A
  .exact Mj (e:=t) m hX Q av (evR C B g.1)<|Qg (s:=Instr.box t<|a.eval x) rfl (by simp[Instr.box,KB])
  .exact UZ (e:=t) m hX R hT g.2 Q (evR C B g.1)<|Qg (s:=Instr.box t<|a.eval x) rfl (by simp[Instr.box,KB])
 .next t ps z qs=>
  simp only[ZSq]at g;obtain⟨V,Z⟩:=g;obtain⟨zv,ac,ak⟩:∃zv,YH P t=some zv/\Wr zv.cells.toList z=true:=by
   cases ac:YH P t with
   |none=>rw[ac]at V;cases V
   |some v=>rw[ac]at V;exact⟨v,rfl,V⟩
  refine CT (a:=a) m C B ac ak ?_ (λrv G=>Qg (s:=Instr.build t<|ps.map λ(i,x)=>(i,a.eval x)) rfl G) A
  cases D:V5 P t with
  |some fs=>
   rw[D]at Z;simp only[ZSq]at Z;obtain⟨l,hl⟩:=ZUk.1 Z.1;exact .inl ⟨fs,l,Rh D,hl,Z.2⟩
  |none=>
   rw[D]at Z;cases ha:V4 P t with
   |none=>rw[ha]at Z;cases Z
   |some ne=>
    obtain⟨n,e⟩:=ne;rw[ha]at Z;simp only at Z;cases H:ZR P e with
    |none=>rw[H]at Z;cases Z
    |some sz=>rw[H]at Z;exact .inr ⟨n,e,sz,Rg ha,H,Z⟩
 .next t au ps fz ex sz z bd qs=>
  cases D:isSlice P t with
  |none=>rw[D]at g;cases g
  |some e=>
   rw[D]at g;simp only[ZSq,decide_eq_true_eq]at g;obtain⟨⟨⟨⟨⟨rfl,h0⟩,hlen⟩,H⟩,V⟩,Z⟩:=g;obtain⟨zv,ac,ak⟩:=Gf V;exact CV (a:=a) m C B hX R hT h0 hlen (KJ D) H ac ak Z (λrv w' G=>Qg (s:=Instr.buildSlice t au<|ps.map λ(i,x)=>(i,a.eval x)) rfl G) A
 .next t x n y=>
  simp only[ZSq]at g;exact Cv m g.1 (evR C B g.2) (λrv G=>Qg (s:=Instr.loadAt t<|a.eval x) rfl G) A
 .next t x n c y=>
  simp only[ZSq]at g;exact Zzf m g.1 (evR C B g.2) (λrv G=>Qg (s:=Instr.loadAt t<|a.eval x) rfl G) A
 .next t x y n x' y'=>
  simp only[ZSq,decide_eq_true_eq]at g;exact Cx m g.1.1 (evR C B g.1.2) (evR C B g.2) (λw' G=>Ri (s:=Instr.storeAt t (a.eval x)<|a.eval y) rfl G) A
 .next x y=>
  refine CE m (evR C B g) ?_ A;rintro(⟨p,Z⟩|⟨f,c,e,Z⟩)<;>simp[execOp,Z]
 .next ab t x yt neg y=>
  simp only[ZSq,decide_eq_true_eq]at g;obtain⟨⟨rfl,Z⟩,L⟩:=g;refine ZGx (neg:=neg) m (evR C B L) ?_ A;intro p hv;have hg:(eqGuard (if neg then .neq else .eql) t x (.const<|.pointer none) (a.eval x)<|.pointer none).run P w=.ok () w:=MI (λ_ us _ M=>by cases M)<|.inr<|by simp
  refine Qg (s:=(do eqGuard (if neg then .neq else .eql) t x (.const<|.pointer none) (a.eval x) (.pointer none);binOp (if neg then .neq else .eql) t (a.eval x) (.pointer none))) rfl ?_
  simp only[Sem.run_bind,hg,Result.andThen_ok];unfold ZFF at Z;split at Z
  .rename_i e M;rw[hv];have hq:(Op.equalIn Op.maxDepth t (.pointer p)<|.pointer none).run P w=.ok p.isNone w:=by
    obtain⟨n,hn⟩:∃n,Op.maxDepth=n+1:=⟨9999,rfl⟩;rw[hn];cases p<;>simp[Op.equalIn,run_underlying M]
   cases neg with
   |false=>simp[binOp,Op.equal,hq]
   |true=>cases p<;>simp[binOp,Op.equal,hq]
  .cases Z
 .next ab t x y yt ay x' y'=>
  simp only[ZSq,decide_eq_true_eq]at g;obtain⟨⟨rfl,L⟩,J⟩:=g;have U:=evR C B L;have r2:=evR C B J;obtain⟨u,M,rfl⟩:=ZY A;obtain⟨rv,q1,q2⟩:=Cp (P:=P) M U r2;refine Sim.pure m (Qg (s:=(do eqGuard ab t x y (a.eval x) (a.eval y);binOp ab t (a.eval x) (a.eval y))) rfl ?_) q1;have hg:(eqGuard ab t x y (a.eval x)<|a.eval y).run P w=.ok () w:=by
   refine MI ?_ ?_
   .intro vs us e1 _;generalize ev E fr x'=xv at M U;cases xv<;>first|(simp[YZ]at M;done)|skip
    .rw[QS U]at e1;cases e1
    .rw[Yj U]at e1;cases e1
   .left;intro e1;generalize ev E fr x'=xv at M U;cases xv<;>first|(simp[YZ]at M;done)|skip
    .rw[QS U]at e1;cases e1
    .rw[Yj U]at e1;cases e1
  simp only[Sem.run_bind,hg,Result.andThen_ok,q2]
 .next ab t x y yt neg ag ks x' y'=>
  simp only[ZSq,decide_eq_true_eq,ZSP]at g;obtain⟨⟨⟨⟨⟨an,hk⟩,rfl⟩,hgt⟩,L⟩,J⟩:=g;have U:=evR C B L;have r2:=evR C B J;obtain⟨u,M,rfl⟩:=ZY A;simp only[ZSD]at M;obtain⟨b,O,rfl⟩:=M;have am:=HV (P:=P) hk O U r2;have az:a.eval x≠.nilIface:=by
   intro e1;generalize ev E fr x'=xv at O U;cases al:ZF P t with
   |true=>
    rw[al]at O;cases xv<;>simp[Zz]at O
    obtain⟨vs,hv,_⟩:=U;rw[hv]at e1;cases e1
   |false=>
    rw[al]at O;simp only[Zz]at O;have hl:=(X5 O).1;cases ks with
    |nil=>simp at hl
    |cons k ks=>
     simp only[ZE]at O;cases ad:eq1 k xv (ev E fr y')with
     |none=>rw[ad]at O;cases O
     |some b0=>
      rcases k with _|_|_|k<;>cases xv<;>simp[eq1]at ad
      .rw[Wu U]at e1;cases e1
      .rw[QS U]at e1;cases e1
      .rw[Yj U]at e1;cases e1
  have hg:(eqGuard ab t x y (a.eval x)<|a.eval y).run P w=.ok () w:=MI (λ_ _ _ _=>hgt)<|.inl az
  refine Sim.pure m (Qg (s:=(do eqGuard ab t x y (a.eval x) (a.eval y);binOp ab t (a.eval x) (a.eval y))) rfl (rv:=.bool (if neg=true then !b else b)) ?_)<|by cases neg<;>rfl
  simp only[Sem.run_bind,hg,Result.andThen_ok];have ar:(binOp .eql t (a.eval x)<|a.eval y).run P w=.ok (.bool b) w/\(binOp .neq t (a.eval x)<|a.eval y).run P w=.ok (.bool !b) w:=by
   cases al:ZF P t with
   |true=>
    rw[al]at O;generalize ev E fr x'=xv at O U;generalize ev E fr y'=yv at O r2;cases xv<;>cases yv<;>simp[Zz]at O
    obtain⟨vs,hv,_⟩:=U;obtain⟨us,bc,_⟩:=r2;rw[hv,bc]at am⊢;constructor<;>simp[binOp,am]
   |false=>
    rw[al]at O;simp only[Zz]at O;have hl:=(X5 O).1;generalize ev E fr x'=xv at O U;generalize ev E fr y'=yv at O r2;cases ks with
    |nil=>simp at hl
    |cons k ks=>
     cases ks with
     |cons _ _=>simp at hl
     |nil=>
      simp only[ZE]at O;cases ad:eq1 k xv yv with
      |none=>rw[ad]at O;cases O
      |some b0=>
       rw[ad]at O;simp at O;subst O;rcases k with _|_|_|k<;>cases xv<;>cases yv<;>simp[eq1]at ad
       .rw[Wu U,Wu r2]at am⊢;constructor<;>simp[binOp,am]
       .obtain⟨rfl,rfl⟩:=ad;rw[QS U,QS r2];constructor<;>simp[binOp,Op.intCmp]<;>rfl
       .rw[Yj U,Yj r2];subst ad;constructor<;>simp[binOp,Op.stringOp,Z3,toList_data]
  cases neg with
  |true=>simp only[if_true]at an⊢;rw[an];exact ar.2
  |false=>simp only[ZSH,if_false]at an⊢;rw[an];exact ar.1
 .next ba t x ay y=>
  simp only[ZSq,decide_eq_true_eq]at g;obtain⟨rfl,L⟩:=g;obtain⟨u,M,rfl⟩:=ZY A;obtain⟨rv,q1,q2⟩:=Cq (P:=P) M<|evR C B L;exact Sim.pure m (Qg (s:=Op.unary ba<|a.eval x) rfl q2) q1
 .next s d x k y=>
  simp only[ZSq]at g;obtain⟨L,J⟩:=g;have U:=evR C B L;simp only[Z8]at A;generalize ev E fr y=yv at A U;split at J
  .next ds k' kk e1 e2=>
   have J:=of_decide_eq_true J;subst J;cases yv<;>(first|(simp only[reduceCtorEq]at A;done)|skip)
   obtain⟨u,M,rfl⟩:=ZY A;cases M;refine Sim.pure m (Qg (s:=convert s d<|a.eval x) rfl ?_) rfl;rw[QS U];simp only[convert,Sem.run_bind,run_underlying e1,run_underlying e2,Result.andThen_ok];cases ds<;>rfl
  .next ds e1 e2=>
   cases yv<;>(first|(simp only[reduceCtorEq]at A;done)|skip)
   obtain⟨u,M,rfl⟩:=ZY A;cases M;refine Sim.pure m (Qg (s:=convert s d<|a.eval x) rfl ?_) U;rw[Yj U];simp only[convert,Sem.run_bind,run_underlying e1,run_underlying e2,Result.andThen_ok];cases ds<;>rfl
  .cases J
 .next t x i n off y=>
  cases D:V5 P t with
  |none=>rw[D]at g;cases g
  |some fs=>
   rw[D]at g;simp only at g;cases af:fs[i]? with
   |none=>rw[af]at g;cases g
   |some f=>
    rw[af]at g;simp only[ZSq,decide_eq_true_eq]at g;obtain⟨⟨rfl,hn⟩,hx⟩:=g;exact CL m (Rh D) af hn (evR C B hx) (λrv G=>Qg (s:=Instr.field t (a.eval x) i) rfl G) A
 .next t x i off y=>
  cases D:V5 P t with
  |none=>rw[D]at g;cases g
  |some fs=>
   rw[D]at g;simp only at g;cases af:fs[i]? with
   |none=>rw[af]at g;cases g
   |some f=>
    rw[af]at g;simp only[ZSq,decide_eq_true_eq]at g;obtain⟨⟨rfl,hn⟩,hx⟩:=g;cases H:ZR P f.type with
    |none=>rw[H]at hn;cases hn
    |some n=>
     rw[H]at hn;exact CD m (Rh D) af H (of_decide_eq_true hn) (evR C B hx) (λrv G=>Qg (s:=Instr.fieldAt t (a.eval x) i) rfl G) A
 .next t x i sz y j=>
  cases D:isSlice P t with
  |none=>rw[D]at g;cases g
  |some e=>
   rw[D]at g;simp only[ZSq,decide_eq_true_eq]at g;exact CF m (KJ D) g.1.1 (evR C B g.1.2) (evR C B g.2) (λrv G=>Qg (s:=Instr.indexAt t (a.eval x)<|a.eval i) rfl G) A
 .next t x i sz au y j=>
  cases D:V4 P t with
  |none=>rw[D]at g;cases g
  |some ne=>
   obtain⟨n,e⟩:=ne;rw[D]at g;simp only[ZSq,decide_eq_true_eq]at g;obtain⟨⟨⟨rfl,H⟩,L⟩,J⟩:=g;exact CG m (Rg D) H (evR C B L) (evR C B J) (λrv G=>Qg (s:=Instr.indexAt t (a.eval x)<|a.eval i) rfl G) A
 .next t x i y j=>
  simp only[ZSq]at g;exact CJ m (Gd g.1.1) (evR C B g.1.2) (evR C B g.2) (λrv G=>Qg (s:=Instr.index t (a.eval x)<|a.eval i) rfl G) A
 .next t x i n sz au y j=>
  cases D:V4 P t with
  |none=>rw[D]at g;cases g
  |some ne=>
   obtain⟨k,e⟩:=ne;rw[D]at g;simp only[ZSq,decide_eq_true_eq]at g;obtain⟨⟨⟨⟨rfl,H⟩,hn⟩,L⟩,J⟩:=g;exact CK m (Rg D) hn H (evR C B L) (evR C B J) (λrv G=>Qg (s:=Instr.index t (a.eval x)<|a.eval i) rfl G) A
 .next x i y j=>
  simp only[ZSq,decide_eq_true_eq]at g;obtain⟨rfl,L⟩:=g;exact CM m (evR C B L) (λrv G=>Qg (s:=Instr.extract (a.eval x) i) rfl G) A
 .next fn f cc bj f' c'=>
  simp only[ZSq,decide_eq_true_eq]at g;obtain⟨⟨rfl,L⟩,J⟩:=g;obtain⟨u,M,rfl⟩:=ZY A;cases M;refine Sim.pure m (Qg (s:=Instr.makeFunc fn (f.map a.eval)<|cc.map a.eval) rfl rfl) ⟨f.map a.eval,cc.map a.eval,rfl,?_,?_⟩
  .simpa using VF C B L
  .simpa using VF C B J
 .next t r=>
  simp only[Z8,Option.some.injEq]at A;subst A;cases r with
  |some _=>cases g
  |none=>exact B9 (t:=t) m hX R hT<|λrv w' G=>Qg (s:=Instr.makeMap t none) rfl G
 .next t mm k v ag kk m' k' v'=>
  cases D:isMap P t with
  |none=>rw[D]at g;cases g
  |some kv=>
   obtain⟨kt,vt⟩:=kv;rw[D]at g;simp only[ZSq,decide_eq_true_eq]at g;obtain⟨⟨⟨⟨hk,rfl⟩,L⟩,J⟩,h3⟩:=g;exact ME m (Ge D) hk (evR C B L) (evR C B J) (evR C B h3) (λw' G=>Ri (s:=Instr.mapUpdate t (a.eval mm) (a.eval k)<|a.eval v) rfl G) A
 .next t mm k v ag kk m' k' v'=>
  cases D:isMap P t with
  |none=>rw[D]at g;cases g
  |some kv=>
   obtain⟨kt,vt⟩:=kv;rw[D]at g;simp only[ZSq,decide_eq_true_eq]at g;obtain⟨⟨⟨⟨hk,rfl⟩,L⟩,J⟩,h3⟩:=g;exact ME m (Ge D) hk (evR C B L) (evR C B J) (evR C B h3) (λw' G=>Ri (s:=Instr.mapUpdate t (a.eval mm) (a.eval k)<|a.eval v) rfl G) A
 .next t mm k ok ag kk be z m' k'=>
  cases D:isMap P t with
  |none=>rw[D]at g;cases g
  |some kv=>
   obtain⟨kt,vt⟩:=kv;rw[D]at g;simp only[ZSq,decide_eq_true_eq]at g;obtain⟨⟨⟨⟨⟨hk,rfl⟩,rfl⟩,V⟩,L⟩,J⟩:=g;obtain⟨zv,ac,ak⟩:=Gf V;exact B5 m (Ge D) hk ac ak (evR C B L) (evR C B J) (λrv G=>Qg (s:=Instr.lookup t (a.eval mm) (a.eval k) ok) rfl G) A
 .next t l cc sz z ah l' c'=>
  cases D:isSlice P t with
  |none=>rw[D]at g;cases g
  |some e=>
   rw[D]at g;simp only[ZSq]at g;obtain⟨⟨N,L⟩,J⟩:=g;cases Y:P.info? e with
   |none=>rw[Y]at N;cases N
   |some i=>
    rw[Y]at N;simp only[ZSq,decide_eq_true_eq]at N;obtain⟨⟨H,aj⟩,V⟩:=N;cases W:i.zero with
    |none=>rw[W]at V;cases V
    |some zv=>
     rw[W]at V;exact CO m hX R hT (KJ D) Y H aj W V (evR C B L) (evR C B J) (λrv w' G=>Qg (s:=Instr.makeSlice t (a.eval l)<|a.eval cc) rfl G) A
 .next t x lo N mx sz y bb ax bh=>
  cases D:isSlice P t with
  |none=>rw[D]at g;cases g
  |some e=>
   rw[D]at g;simp only[ZSq,decide_eq_true_eq]at g;obtain⟨⟨⟨⟨H,L⟩,J⟩,h3⟩,h4⟩:=g;exact CH m (KJ D) H (evR C B L) (JW C B J) (JW C B h3) (JW C B h4) (λrv G=>Qg (s:=Instr.sliceAt t (a.eval x) (lo.map a.eval) (N.map a.eval)<|mx.map a.eval) rfl G) A
 .next t x lo N y bb ax=>
  simp only[ZSq]at g;obtain⟨⟨⟨h0,L⟩,J⟩,h3⟩:=g;exact CI m (Gd h0) (evR C B L) (JW C B J) (JW C B h3) (λrv G=>Qg (s:=Instr.sliceAt t (a.eval x) (lo.map a.eval) (N.map a.eval) none) rfl G) A
 .next cl k y=>
  obtain⟨aa,S,F⟩:=cl;simp only at g;split at g
  .rename_i x t e2 e3;simp only[ZSq]at g;have K:S = #[x]:=by apply ZTC;simpa using e2
   have ae:F = #[t]:=by apply ZTC;simpa using e3
   subst K ae;exact Bx (ty:=ty) m g.1 (evR C B g.2) (λrv G=>by simp[execOp,resolve,invoke,builtin,G]) A
  .cases g
 .next cl fz sz ah s x=>
  obtain⟨aa,S,F⟩:=cl;simp only at g;split at g
  .rename_i s' x' t t2 e2 e3;simp only[ZSq,ZSP]at g;obtain⟨⟨⟨⟨N,J⟩,h3⟩,h4⟩,h5⟩:=g;have K:S = #[s',x']:=by apply ZTC;simpa using e2
   have ae:F = #[t,t2]:=by apply ZTC;simpa using e3
   subst K ae;cases D:isSlice P t with
   |none=>rw[D]at N;cases N
   |some e=>
    rw[D]at N;simp only at N;cases Y:P.info? e with
    |none=>rw[Y]at N;cases N
    |some i=>
     rw[Y]at N;simp only[ZSq,decide_eq_true_eq]at N;obtain⟨⟨H,aj⟩,V⟩:=N;cases W:i.zero with
     |none=>rw[W]at V;cases V
     |some zv=>
      rw[W]at V;obtain⟨d,hd⟩:=ZUk.1 J;have aw:∀k,d≠.int k:=by
       rintro k rfl;simp[MF,hd]at h3
      exact B0 (ty:=ty) m hX R hT (KJ D) ⟨d,hd,aw⟩ Y H aj W (of_decide_eq_true V) (evR C B h4) (evR C B h5) (λrv w' G=>by simp[execOp,resolve,invoke,builtin,G]) A
  .cases g
 .next cl sz ah s x=>
  obtain⟨aa,S,F⟩:=cl;simp only at g;split at g
  .rename_i s' x' t t2 e2 e3;simp only[ZSq,ZSP]at g;obtain⟨⟨⟨⟨N,J⟩,h3⟩,h4⟩,h5⟩:=g;have K:S = #[s',x']:=by apply ZTC;simpa using e2
   have ae:F = #[t,t2]:=by apply ZTC;simpa using e3
   subst K ae;cases D:isSlice P t with
   |none=>rw[D]at N;cases N
   |some e=>
    rw[D]at N;simp only at N;cases Y:P.info? e with
    |none=>rw[Y]at N;cases N
    |some i=>
     rw[Y]at N;simp only[ZSq,decide_eq_true_eq]at N;obtain⟨⟨H,aj⟩,V⟩:=N;cases W:i.zero with
     |none=>rw[W]at V;cases V
     |some zv=>
      rw[W]at V;obtain⟨d,hd⟩:=ZUk.1 J;have aw:∀k,d≠.int k:=by
       rintro k rfl;simp[MF,hd]at h3
      simp only[Z8]at A;cases ap:Qt h aid false sz ah (ev E fr s) (ev E fr x)with
      |none=>rw[ap]at A;cases A
      |some r=>
       rw[ap]at A;exact Zze (B0 (ty:=ty) m hX R hT (KJ D) ⟨d,hd,aw⟩ Y H aj W (of_decide_eq_true V) (evR C B h4) (evR C B h5) (λrv w' G=>by simp[execOp,resolve,invoke,builtin,G]) ap) (ZxP R ap) A
  .cases g
 .next cl mx x y=>
  obtain⟨aa,S,F⟩:=cl;simp only at g;split at g
  .rename_i x' y' e3;simp only[ZSq,ZSP]at g;have K:S = #[x',y']:=by apply ZTC;simpa using e3
   subst K;obtain⟨⟨rfl,L⟩,J⟩:=g;exact MW (mx:=false) m (evR C B L) (evR C B J) (λk p j q hx hy=>by simp[execOp,resolve,invoke,builtin,Builtin.min_,Builtin.min2,hx,hy]) A
  .rename_i x' y' e3;simp only[ZSq]at g;have K:S = #[x',y']:=by apply ZTC;simpa using e3
   subst K;obtain⟨⟨rfl,L⟩,J⟩:=g;exact MW (mx:=true) m (evR C B L) (evR C B J) (λk p j q hx hy=>by simp[execOp,resolve,invoke,builtin,Builtin.max_,Builtin.max2,hx,hy]) A
  .cases g
 .next t x y=>
  simp only[ZSq]at g;exact Ba (t:=t) m hX R hT (Gd g.1) (evR C B g.2) (λrv w' G=>Qg (s:=Instr.range t<|a.eval x) rfl G) A
 .next x y=>exact Bb (t:=ty) m (evR C B g) (λrv w' G=>Qg (s:=Instr.next (a.eval x) true ty) rfl G) A
 .next t x t' y=>
  simp only[ZSq,decide_eq_true_eq]at g;obtain⟨⟨rfl,L⟩,J⟩:=g;obtain⟨u,M,rfl⟩:=ZY A;cases M;refine Sim.pure m (Qg (s:=Instr.makeInterface t<|a.eval x) rfl (rv:=.iface t<|a.eval x) ?_) ⟨_,rfl,evR C B L⟩;cases M:P.underlying t with
  |none=>rw[M]at J;cases J
  |some d=>
   rw[M]at J;simp only[Instr.makeInterface,Sem.run_bind,run_underlying M,Result.andThen_ok];cases d<;>first|rfl|cases J
 .cases g
end Go.AM
namespace Go.AM
open Go
variable [Dr]
variable {P:Program} {E:Env} {T:Ty} {X:Xt} {w:World} {h:Hp} {fr:Fr} {a:Act}
def ZFG(m:M T X h w){b sz g C B:Nat}{r:Option Nat}{es:List AV}(s:h[b]?=some (.row sz es))(n:T b=some (.row sz g r C B)):
 Step T w (upd T b<|.row sz (g+1) none 0 0) w/\M (upd T b<|.row sz (g+1) none 0 0) X (setH h b .gone) w/\
  ∀q,(upd T b<|.row sz (g+1) none 0 0).rng q->∃d c',d≠b/\T d=some c'/\c'.real=some q:=by
 have i:b<h.length:=(ZSA.1 s).1;have a:∀q,(upd T b<|.row sz (g+1) none 0 0).rng q->∃d c',d≠b/\T d=some c'/\c'.real=some q:=by
  rintro q ⟨d,c',f,j⟩;by_cases e:d=b
  .subst e;rw[upd_same]at f;cases f;cases j
  .rw[upd_ne _ _ e]at f;exact⟨d,c',e,f,j⟩
 have l:Step T w (upd T b<|.row sz (g+1) none 0 0) w:=by
  refine⟨rfl,rfl,rfl,ZSr _,λy c k=>?_,λ_ _ _=>rfl,λq o=>?_,λ_=>ZSr _⟩
  .by_cases e:y=b
   .subst e;rw[n]at k;cases k;exact⟨_,upd_same _ _ _,rfl,.inr<|by omega⟩
   .exact⟨c,by rw[upd_ne _ _ e];exact k,.refl _⟩
  .obtain⟨d,c',_,f,j⟩:=a q o;exact .inl ⟨d,c',f,j⟩
 exact⟨l,WZ m b .gone _ (ZTx i) l (λ_ _ _ _ _ _=>rfl) (λr p=>by cases p) trivial,a⟩
def ZGy(m:M T X h w){b sz r C B off:Nat}{es:List AV}(F:h[b]?=some (.row sz es))(H:T b=some (.row sz es.length (some r) C B))(R:off<=es.length):
 Step T w (upd (upd T b<|.row sz (es.length+1) none 0 0) h.length<|.row sz (es.length-off) (some r) C<|B+off) w/\
  M (upd (upd T b<|.row sz (es.length+1) none 0 0) h.length<|.row sz (es.length-off) (some r) C<|B+off) X (setH h b .gone++[.row sz<|es.drop off]) w:=by
 obtain⟨r1,C1,B1,v,h0,hC,U⟩:=XV m F;rw[H]at v;cases v;obtain⟨cs,W,Y,V,Z⟩:=U;obtain⟨o,E,D⟩:=ZFG m F H;have k:(setH h b .gone).length=h.length:=by
  have s:b<h.length:=(ZSA.1 F).1;unfold setH;rw[show Nat.blt b h.length=true by simpa using s,cond_true,ZTP]
 have J:upd T b (.row sz (es.length+1) none 0 0) h.length=none:=JR E<|.inl<|by simp[k]
 have g:T.rng r:=⟨b,_,H,rfl⟩;have p:Step T w (upd (upd T b<|.row sz (es.length+1) none 0 0) h.length<|.row sz (es.length-off) (some r) C<|B+off) w:=by
  refine⟨rfl,rfl,rfl,ZSr _,λy c S=>?_,λ_ _ _=>rfl,λq j=>?_,λ_=>ZSr _⟩
  .obtain⟨N,A,L⟩:=o.le y c S;have n:y≠h.length:=λe=>by
    subst e;rw[J]at A;cases A
   exact⟨N,by rw[upd_ne _ _ n];exact A,L⟩
  .obtain⟨f,c',d,a⟩:=j;by_cases e:f=h.length
   .subst e;rw[upd_same]at d;cases d;cases a;exact .inl g
   .rw[upd_ne _ _ e]at d;exact o.rng q ⟨f,c',d,a⟩
 refine⟨p,?_⟩;have u:∀f c',upd T b (.row sz (es.length+1) none 0 0) f=some c'->c'.real≠some r:=by
  intro f c' d a;obtain⟨G,P,n,A,L⟩:=D r ⟨f,c',d,a⟩;exact n<|m.inj G P b _ r A H L rfl
 have z:∀x,(setH h b .gone++[.row sz<|es.drop off])[x]?=if x=h.length then some (.row sz<|es.drop off)else(setH h b .gone)[x]?:=by
  intro x;by_cases e:x=h.length
  .subst e;rw[if_pos rfl,ZTd (by omega),k,Nat.sub_self];rfl
  .rw[if_neg e];by_cases hx:x<h.length
   .rw[ZT2<|by omega]
   .rw[ZTj (by simp;omega),ZTj<|by omega]
 refine⟨?_,?_,?_,?_⟩
 .intro Q N G P q d a i O;by_cases K:Q=h.length<;>by_cases l:G=h.length
  .omega
  .subst K;rw[upd_same]at d;cases d;cases i;rw[upd_ne _ _ l]at a;exact(u _ _ a O).elim
  .subst l;rw[upd_same]at a;cases a;cases O;rw[upd_ne _ _ K]at d;exact(u _ _ d i).elim
  .rw[upd_ne _ _ K]at d;rw[upd_ne _ _ l]at a;exact E.inj Q N G P q d a i O
 .intro q j;rcases p.rng q j with d|d
  .exact m.lt q d
  .obtain⟨f,c',a,i⟩:=j;by_cases e:f=h.length
   .subst e;rw[upd_same]at a;cases a;cases i;exact m.lt _ g
   .rw[upd_ne _ _ e]at a;exact E.lt q ⟨f,c',a,i⟩
 .intro q j;rcases p.rng q j with d|d
  .exact m.notX q d
  .obtain⟨f,c',a,i⟩:=j;by_cases e:f=h.length
   .subst e;rw[upd_same]at a;cases a;cases i;exact m.notX _ g
   .rw[upd_ne _ _ e]at a;exact E.notX q ⟨f,c',a,i⟩
 .intro x;rw[z x];by_cases e:x=h.length
  .subst e;rw[if_pos rfl,upd_same];refine⟨rfl,by simp,h0,by omega,cs,W,Y,V,?_⟩
   rw[ZSY];exact HS p _ _ rfl _ _ (UU off Z)
  .rw[if_neg e,upd_ne _ _ e];by_cases l:x=b
   .subst l;have:=E.obj x;rw[upd_same]at this⊢;rw[Ks h x .gone<|ZTx (ZSA.1 F).1,if_pos rfl]at this⊢;exact this
   .rw[upd_ne _ _ l,Ks h b .gone<|ZTx (ZSA.1 F).1,if_neg l];exact Mg p _ _ (λt q ht j=>rfl)<|m.obj x
set_option maxHeartbeats 400000 in
def ZGz{t U e:TypeId}{sz b off f:Nat}{ty:TypeId}{es ys:List AV}{bd:Option Addr}{r C B cap cap2:Nat}(m:M T X h w)
 (ht:P.underlying t=some (.slice e)) (Q:∃d,P.underlying U=some d/\∀k,d≠.int k) (D:ZR P e=some sz)
 (hb:h[b]?=some (.row sz es)) (q:T b=some (.row sz es.length (some r) C B)) (z:ys.all (fits sz)=true) (Z:0<ys.length) (A:off+f=es.length)
 (R:B+off+cap<=C) (p:f+ys.length<=cap) (O:ys=[]\/∃r o,bd=some ⟨r,o,none⟩/\ZA T X w sz r ys o):
 ∃w',(Builtin.append_ #[t,U] ty #[.slice (some ⟨r,(B+off)*sz,none⟩) f cap,.slice bd ys.length cap2]).run P w=.ok (.slice (some ⟨r,(B+off)*sz,none⟩) (f+ys.length) cap) w'/\
  Step T w (upd T b<|.row sz (es++ys).length (some r) C B) w'/\M (upd T b<|.row sz (es++ys).length (some r) C B) X (setH h b<|.row sz<|es++ys) w':=by
 obtain⟨r1,C1,B1,v,q0,hC,hr⟩:=XV m hb;rw[q]at v;cases v;have W:(es++ys).length=es.length+ys.length:=by simp
 obtain⟨cs,L,F,E,V⟩:=hr;obtain⟨us,c2,c3,c4,c⟩:=run_append_room (P:=P) (ty:=ty) (cap2:=cap2) (o:=(B+off)*sz) ht Q D O (R8 z) F p<|by rw[E,<-ZSY];exact ZTz _ R
 obtain⟨y,os,Y,N,s,J,H⟩:=HZ V F E hC;have i:(B+off)*sz+f*sz=B*sz+es.length*sz:=by rw[<-ZSY,<-ZSY,ZTG,A]
 rw[i]at c;obtain⟨a,g⟩:∃a,a=(cs.toList.take (B*sz+es.length*sz)++us++cs.toList.drop (B*sz+es.length*sz+us.length)):=⟨_,rfl⟩;rw[<-g]at c;have n:a=y++((os++us)++cs.toList.drop (B*sz+es.length*sz+us.length)):=by
  rw[g];have:cs.toList.take (B*sz+es.length*sz)=y++os:=by
   rw[N,<-s,ZUR,ZUr H]
  rw[this];simp[ZSN]
 have l:a.length=cs.size:=by
  rw[g];have aa:B*sz+es.length*sz+us.length<=cs.size:=by
   rw[c3,<-ZSY,<-ZSY,E];exact ZTz _<|by omega
  simp;omega
 have K:(w.setRow r a.toArray).heap[r]?=some (.cells a.toArray L (0,0)):=setRow_heap w r cs a.toArray L (0,0) F;obtain⟨G,hm⟩:=JV (w':=w.setRow r a.toArray) (o:=.row sz<|es++ys) (c':=.row sz (es++ys).length (some r) C B) m q rfl rfl ⟨rfl,.inr<|by omega⟩ (KD hb) rfl rfl rfl (setRow_size _ _ _)
  (λx hx=>setRow_other w r x _ hx)
  (λG=>⟨rfl,rfl,q0,by omega,a.toArray,L,K,by simpa[l]using E,by
   refine Wq (Ms (Kx V).2.2 c4) ?_;rw[KE];refine Xs (Yb G _ _<|QR J c2)<|λj u S=>?_
   rw[Mm F];simp only[ZUg];rw[n,ZTd (by omega),s,show B*sz+j-B*sz=j by omega,ZT2 (ZSA.1 S).1]
   exact S⟩)
 exact⟨_,c,G,hm⟩
set_option maxHeartbeats 400000 in
def ZGA{s:Sem Next}{t t2 e:TypeId}{sz c:Nat}{i:TypeInfo}{zv:Value}{x y:AV}{v u:Value}{ty:TypeId}{res:AV×Hp}(m:M T X h w)(hX:∀r,X r->r<w.heap.size)
 (ht:P.underlying t=some (.slice e)) (K:∃d,P.underlying t2=some d/\∀k,d≠.int k) (hi:P.info? e=some i) (E:i.size=sz) (O:i.bytes=c) (Q:i.zero=some zv) (aa:zv.cells.size=sz)
 (hx:R T X w x v) (hy:R T X w y u)
 (hs:∀rv w',(Builtin.append_ #[t,t2] ty #[v,u]).run P w=.ok rv w'->s.run P w=.ok (.value rv) w')
 (l:ZE9 h sz c x y=some res):∃G w' rv,(s.run P w=.ok (.value rv) w'\/(s.run P w=.ok .skip w'/\rv=undef))/\Step T w G w'/\M G X res.2 w'/\R G X w' res.1 rv:=by
 have ac:T h.length=none:=JR m<|.inl<|by simp
 have H:(Qt h h.length false sz c x y).map (λr=>(r.1,ZH h r.2.2))=some res->∃G w' rv,(s.run P w=.ok (.value rv) w'\/(s.run P w=.ok .skip w'/\rv=undef))/\Step T w G w'/\M G X res.2 w'/\R G X w' res.1 rv:=by
  intro l;simp only[ZSD]at l;obtain⟨r,h1,rfl⟩:=l;exact B0 (ty:=ty) m hX (ZSr _) ac ht K hi E O Q aa hx hy hs h1
 unfold ZE9 at l;split at l
 .rename_i b g off j;split at l
  .rename_i a es ys L al;cases hc:(es.length==g&&a==sz)&&((off+j==g)&&(Qq h sz y&&(ys.all (fits sz)&&(Nat.blt 0 ys.length&&(Nat.blt 0 sz&&(Nat.blt 0 c&&Nat.ble ((j+ys.length)*c) 140737488355328))))))with
   |false=>rw[hc]at l;cases l
   |true=>
    rw[hc,cond_true]at l;cases l;simp only[ZSq,beq_iff_eq,ZTw]at hc;obtain⟨⟨rfl,rfl⟩,hoff,z2,hfit,hpos,h0,hb0,hbd⟩:=hc;have D:=ZT0 hbd;obtain⟨bd,cap2,rfl,ah,af⟩:=G6 m hy al z2;have aq:Q2 h (.sl b es.length off j false)=some (es.drop off):=by
     simp only[Q2,L,beq_self_eq_true,cond_true];rw[ZSR<|by simp;omega]
    obtain⟨ad,cap,rfl,N,am⟩:=G6 (sz:=a) m hx aq<|by simp[Qq,L]
    have q:(es.drop off).length=j:=by simp;omega
    rw[q]at N hx hs;have ag:ZR P e=some a:=by simp[ZR,hi,E]
    have ab:(es++ys).length=es.length+ys.length:=by simp
    obtain⟨r,C,B,V,q0,hC,hr⟩:=XV m L;have ak:=hx;obtain⟨_,ar,g2,r2,C2,B2,ae,q1,q2,q3⟩:=ak;rw[V]at ae;cases ae;obtain⟨S,q4,q5,q6,q7⟩:=q3 rfl;have f:b<h.length:=(ZSA.1 L).1;by_cases o:j+ys.length<=cap
    .obtain⟨F,rfl,Z⟩:∃F,r=some F/\Value.slice ad j cap=.slice (some ⟨F,(B+off)*a,none⟩) j S:=by
      rcases q7 with⟨F,W,Z⟩|⟨q8,p,Z,_⟩
      .exact⟨F,W,Z⟩
      .have:=(V2 Z).2.2;omega
     obtain⟨rfl,_,rfl⟩:=V2 Z;obtain⟨w',n,J,m1⟩:=ZGz (P:=P) (ty:=ty) (cap2:=cap2) m ht K ag L V hfit hpos hoff q5 o af;have A:(setH h b<|.row a<|es++ys)[b]?=some (.row a<|es++ys):=by rw[Ks h b _<|ZTx f,if_pos rfl]
     obtain⟨z,m2⟩:=ZGy (off:=off) m1 A (upd_same _ _ _)<|by omega
     have an:(setH h b<|.row a<|es++ys).length=h.length:=by
      unfold setH;rw[show Nat.blt b h.length=true by simpa using f,cond_true,ZTP]
     have W:setH (setH h b<|.row a<|es++ys) b .gone++[.row a<|(es++ys).drop off]=setH h b .gone++[.row a<|es.drop off++ys]:=by
      rw[(Zzb _ _<|ZTx f).1,ZUT<|by omega]
     rw[W]at m2;refine⟨_,w',_,.inl<|hs _ _ n,J.trans z,m2,⟨_,_,_,rfl⟩,a,(es++ys).length-off,some F,C,B+off,?_,?_,by omega,λ_=>⟨cap,o,by omega,λhh=>by simp at hh,.inl ⟨F,rfl,by rw[ZTc]⟩⟩⟩
     .show upd _ _ _ h.length=_
      rw[an,upd_same]
     .rw[ab];omega
    .obtain⟨T1,w1,rv,n,J,m1,ap⟩:=CY (P:=P) (s:=s) (ty:=ty) (cap:=cap) (cap2:=cap2) (ad:=ad) (bd:=bd) (es:=es.drop off) (ys:=ys) (aid:=h.length) (fz:=false) (rs:=[]) (res:=(.sl h.length (es.drop off++ys).length 0 (es.drop off++ys).length false,[],some (h.length,.row a<|es.drop off++ys))) m hX (ZSr _) ac h0 ht K hi E O Q aa hb0 am af (by rw[q];exact D) (by rw[q];omega) (by rw[q];exact hs) rfl
     have Y:ZH h (some (h.length,AObj.row a<|es.drop off++ys))=h++[.row a<|es.drop off++ys]:=by
      show setH h h.length _=_
      unfold setH;rw[show Nat.blt h.length h.length=false by rw[ZTW];intro hh;simp at hh,cond_false]
     have U:M T1 X (h++[.row a<|es.drop off++ys]) w1:=by rw[<-Y];exact m1
     have A:(h++[AObj.row a<|es.drop off++ys])[b]?=some (.row a es):=by rw[ZT2 f];exact L
     obtain⟨r1,C1,B1,aj,_⟩:=XV U A;obtain⟨z,m2,_⟩:=ZFG U A aj;have W:setH (h++[AObj.row a<|es.drop off++ys]) b .gone=setH h b .gone++[.row a<|es.drop off++ys]:=by
      unfold setH;rw[show Nat.blt b (h++[AObj.row a<|es.drop off++ys]).length=true by simp;omega,show Nat.blt b h.length=true by simpa using f,cond_true,cond_true,List.set_append_left _ _ f]
     rw[W]at m2;refine⟨_,w1,rv,n,J.trans z,m2,?_⟩;have e2:j+ys.length=(es.drop off++ys).length:=by rw[ZSJ,q]
     rw[e2];exact HR z _ _ ap
  .cases l
 .exact H l
def ZGB(c:Ctx E T X h w)(C:FrR T X w fr a.tmps){o:Oper}{sz f:Nat}{s x:Arg}{res:AV×Hp}(p:Gb P o.op (.app false sz f s x)=true)(V:ZE9 h sz f (ev E fr s) (ev E fr x)=some res):
 ∃z w' rv,((execOp a.eval o).run P w=.ok (.value rv) w'\/((execOp a.eval o).run P w=.ok .skip w'/\rv=undef))/\Step T w z w'/\M z X res.2 w'/\R z X w' res.1 rv:=by
 obtain⟨K,H,ty,Y,G,gd⟩:=o;have D:=c.gl;have m:=c.m;have O:=c.hX;cases H<;>try (simp[Gb]at p;done)
 case call cl=>
  obtain⟨u,q,b⟩:=cl;simp only[Gb]at p;split at p
  .rename_i S J t U N W;simp only[ZSq,ZSP]at p;obtain⟨⟨⟨⟨g,Q⟩,h3⟩,h4⟩,h5⟩:=p;have j:q = #[S,J]:=by apply ZTC;simpa using N
   have r:b = #[t,U]:=by apply ZTC;simpa using W
   subst j r;cases B:isSlice P t with
   |none=>rw[B]at g;cases g
   |some e=>
    rw[B]at g;simp only at g;cases l:P.info? e with
    |none=>rw[l]at g;cases g
    |some i=>
     rw[l]at g;simp only[ZSq,decide_eq_true_eq]at g;obtain⟨⟨v,y⟩,hz⟩:=g;cases n:i.zero with
     |none=>rw[n]at hz;cases hz
     |some Z=>
      rw[n]at hz;obtain⟨d,F⟩:=ZUk.1 Q;have A:∀k,d≠.int k:=by
       rintro k rfl;simp[MF,F]at h3
      exact ZGA (ty:=ty) m O (KJ B) ⟨d,F,A⟩ l v y n (of_decide_eq_true hz) (evR D C h4) (evR D C h5) (λrv w' L=>by simp[execOp,resolve,invoke,builtin,L]) V
  .cases p
end Go.AM
namespace Go.AM
open Go
variable [Dr]
variable {P:Program} {E:Env} {T:Ty} {X:Xt} {w:World} {h:Hp} {fr:Fr} {a:Act}
def Gn(m:M T X h w):T h.length=none:=JR m<|.inl<|by simp
theorem L0{c:Call}{q:AOp}:Gb P (.defer c) q=false:=by cases q<;>rfl
def Bz{k:Nat}{q:AOper}{a:Fr}{h':Hp}(d:q.op.isCall=false)(f:ZJ fr q.guard=some true)(b:Q5 E (k+1) q fr h=some (a,h')):
 ∃res,Z8 E fr h h.length q.op=some res/\a=ZB fr q.dst res.1/\h'=ZH h res.2.2:=by
 obtain⟨l,j,g⟩:=q;simp only[Q5,f]at b;cases j<;>first
  |(simp[AOp.isCall]at d;done)
  |(simp only[ZSD,Prod.mk.injEq]at b
    obtain⟨res,c,e,i⟩:=b;exact⟨res,c,e.symm,i.symm⟩)
def BA{k:Nat}(ih:AllOk P E k){q:AOper}{L:Fr}{h':Hp}(D:Q5 E (k+1) q fr h=some (L,h')){N:Nat}{Y:Array Oper}{o:Oper}{H sz:Nat}{ro:Option Nat}{n:Nat}
 (W:X.cr=Chk P) (hN:N<=sz) (hc:X6 P N Y o q=true) (s:St E T X h w fr H sz a) (next:Act->World->Prop) (Q:Exit->Act->World->Prop)
 (hn:∀A a' w',Step T w A w'->St E A X h' w' L H sz a'->next a' w'):
 if Region.wanted o (yielded Y a.tmps)=true then o.wpIn (Qa ro) n P a w next Q else(∀f,o.about P w a.eval=some f->(Qa ro).fn f)/\next (a.put o.dst undef) w:=by
 simp only[X6,ZSq]at hc;obtain⟨⟨hd,hg⟩,j⟩:=hc;have ab:N<=a.tmps.size:=by rw[s.sz];exact hN
 cases K:ZJ fr q.guard with
 |none=>simp[Q5,K]at D
 |some b=>
  rw[MM s.f ab hg K];cases b with
  |false=>
   simp only[Q5,K,Option.some.injEq,Prod.mk.injEq]at D;obtain⟨rfl,rfl⟩:=D;rw[if_neg<|by simp]
   exact⟨λ_ _=>VK _ _,hn T _ w (.refl _ _)<|Gi s hN hd (.refl _ _) s.c.m ⟨#[],rfl,rfl⟩⟩
  |true=>
   rw[if_pos rfl];refine⟨λ_ _=>VK _ _,?_⟩
   have r:∀{v:AV}{rv:Value}{A:Ty}{w':World}{B:Hp},L=ZB fr q.dst v->h'=B->Step T w A w'->M A X B w'->R A X w' v rv->next (a.put o.dst rv) w':=by
    rintro v rv A w' B rfl rfl z m C;exact hn A _ w' z<|Gi s hN hd z m C
   cases u:q.op.isCall with
   |false=>
    have j:Gb P o.op q.op=true:=by
     obtain⟨aa,Z,gd⟩:=q;cases Z<;>first|exact j|cases u
    obtain⟨res,J,B,F⟩:=Bz u K D;have S:∀c,o.op≠.defer c:=λc e=>by rw[e,L0]at j;cases j
    rw[Oper.semAt_eq _ _ _ S];obtain⟨A,w',rv,i,z,G,C⟩:=MZ s.c s.f (ZSr _) (Gn s.c.m) j J;rcases i with i|⟨i,rfl⟩
    .rw[i];exact r B F z G C
    .rw[i];exact r B F z G C
   |true=>
    obtain⟨aa,Z,gd⟩:=q;cases Z<;>try (simp[AOp.isCall]at u;done)
    case apa sz1 bytes x1 x2=>
     simp only[Q5,K,ZSD,Prod.mk.injEq]at D;obtain⟨⟨v,B⟩,J,F,h4⟩:=D;have j:Gb P o.op (.app false sz1 bytes x1 x2)=true:=j;have S:∀c,o.op≠.defer c:=λc e=>by rw[e,L0]at j;cases j
     rw[Oper.semAt_eq _ _ _ S];obtain⟨A,w',rv,i,z,G,C⟩:=ZGB s.c s.f j J;rcases i with i|⟨i,rfl⟩
     .rw[i];exact r F.symm h4.symm z G C
     .rw[i];exact r F.symm h4.symm z G C
    case call p f args=>
     have j:Wx o.op (.call p f args)=true:=j;simp only[Q5,K,ZSD,Prod.mk.injEq]at D;obtain⟨⟨v,B⟩,J,F,h4⟩:=D;cases O:o.op<;>rw[O]at j<;>try (simp[Wx]at j;done)
     next c=>
     simp only[Wx,ZSq]at j;obtain⟨l,t⟩:=j;rw[Oper.semAt_eq _ _ _<|λc e=>by rw[O]at e;cases e]
     have V:c.callee=.value (.func f):=by
      split at l
      .next g U=>rw[U];simp at l;rw[l]
      .cases l
     have i:(execOp a.eval o).run P w=(callFunc f<|(#[]++c.args.map a.eval)++#[]).run P w:=by
      simp only[execOp,O,resolve,V,Act.eval,Deferred.ofValue,Sem.run_bind,Sem.run_pure,Result.andThen_ok,invoke]
     rw[i];have hr:=VF (a:=a) s.c.gl s.f t;have:=ih.call p f _ h v B J T X w ((#[]++c.args.map a.eval)++#[]) W s.c<|by simpa using hr
     refine this.upon ?_;rintro rv w' ⟨A,z,G,C⟩;exact r F.symm h4.symm z G C
    case callv p x args=>
     have j:Wx o.op (.callv p x args)=true:=j;simp only[Q5,K,ZSD,Prod.mk.injEq]at D;obtain⟨⟨v,B⟩,J,F,h4⟩:=D;cases O:o.op<;>rw[O]at j<;>try (simp[Wx]at j;done)
     next c=>
     simp only[Wx,ZSq]at j;obtain⟨l,t⟩:=j;rw[Oper.semAt_eq _ _ _<|λc e=>by rw[O]at e;cases e]
     split at l
     .next y U=>
      have i:(execOp a.eval o).run P w=(do let d <-Deferred.ofValue (a.eval y) (c.args.map a.eval);invoke d.target d.args:Sem Next).run P w:=by
       simp only[execOp,O,resolve,U]
      rw[i];have hr:=VF (a:=a) s.c.gl s.f t;have:=ih.callv p _ _ h v B J T X w (a.eval y) (c.args.map a.eval) W s.c (evR s.c.gl s.f l)<|by simpa using hr
      refine this.upon ?_;rintro rv w' ⟨A,z,G,C⟩;exact r F.symm h4.symm z G C
     .cases l
def St.withFr{d:Fr}{b sz:Nat}(s:St E T X h w fr b sz a)(e:FrR T X w d a.tmps):St E T X h w d b sz a:=⟨s.c,e,s.sz,s.marks,s.base⟩
def BB{k:Nat}(u:AllOk P E k){i:List AOper}{d:Fr}{h':Hp}(e:ZS E (k+1) i fr h=some (d,h')){N:Nat}{c:Array Oper}{f:List Oper}{b sz:Nat}{ro:Option Nat}{n:Nat}
 (g:X.cr=Chk P) (v:N<=sz) (j:X7 P N c f i=true) (s:St E T X h w fr b sz a) (Q:Exit->Act->World->Prop)
 (z:∀x y w',Step T w x w'->St E x X h' w' d b sz y->Q .normal y w'):wpListIn (Qa ro) n P c Q f a w:=by
 cases i with
 |nil=>
  cases f with
  |cons _ _=>simp[X7]at j
  |nil=>
   simp only[ZS,Option.some.injEq,Prod.mk.injEq]at e;obtain⟨rfl,rfl⟩:=e;exact z T a w (.refl _ _) s
 |cons q i=>
  cases f with
  |nil=>simp[X7]at j
  |cons o f=>
   simp only[X7,ZSq]at j;simp only[ZS]at e;split at e
   .next l t p=>
    refine wpListIn_step λK A=>?_
    refine u.op q fr h l t p T X w a N c o b sz ro n g v j.1 s K Q ?_;intro B G J m C;refine A _ _<|u.ops i l t d h' e B X J G N c f b sz ro n g v j.2 C Q ?_;intro D F H r L;exact z D F H (m.trans r) L
   .cases e
end Go.AM
namespace Go.AM
open Go
variable [Dr]
variable {P:Program} {E:Env} {T:Ty} {X:Xt} {w:World} {h:Hp} {fr:Fr} {a:Act}
def L3(live:List Nat)(fr:Fr)(t:Nat):get (Z2 live fr) t=if t∈live then get fr t else .bot:=by
 unfold Z2;induction live with
 |nil=>rfl
 |cons d r a=>
  simp only[ZSx,get];by_cases e:d=t
  .subst e;simp
  .have c:(d==t)=false:=by simpa using e
   rw[c,cond_false,a];have:t≠d:=λb=>e b.symm
   simp[this]
def L4{live:List Nat}{a:Array Value}(b:FrR T X w fr a):FrR T X w (Z2 live fr) a:=by
 intro t;rw[L3];split
 .exact b t
 .trivial
def L5{k:Nat}(B:AllOk P E k){live:List Nat}{q:ACode}{e:AExit}{g:Fr}{h':Hp}(i:Ze E (k+1) (.loop live q) fr h=some (e,g,h')){N:Nat}{c:Code}{b sz:Nat}{o:Bool}{ro:Option Nat}{n:Nat}
 (j:X.cr=Chk P) (C:N<=sz) (D:QZ P N o c q=true) (l:o=false->ro=none) (s:St E T X h w fr b sz a) (Q:Exit->Act->World->Prop)
 (x:∀G H w',Step T w G w'->St E G X h' w' g b sz H->Q (exR e) H w'):Code.roundsIn (Qa ro) n P c Q (k+1) a w:=by
 simp only[Ze]at i;rw[roundsIn_succ];cases z:Ze E k q (Z2 live fr) h with
 |none=>rw[z]at i;cases i
 |some r=>
  obtain⟨F,m,A⟩:=r;rw[z]at i;refine B.code q (Z2 live fr) h F m A z T X w a N c b sz o ro n j C D l (s.withFr<|L4 s.f) _ ?_;intro p u v d t;cases F with
  |normal=>exact B.rounds live q m A e g h' i p X v u N c b sz o ro n j C D l t Q<|λJ K L y M=>x J K L (d.trans y) M
  |exit O=>cases i;exact x p u v d t
  |ret=>cases i;exact x p u v d t
def Ro{T:Ty}{b:Nat}{c:TC}(a:T b=some c):upd T b c=T:=by
 funext x
 by_cases e:x=b
 .subst e;rw[upd_same,a]
 .rw[upd_ne _ _ e]
def KQ(m:M T X h w){b l:Nat}{t lst':LoopState}{a pend':AExit}{ps:List Nat}{as bd:ACode}(J:h[b]?=some (.loop t a fr ps as bd))(i:T b=some (.loop l)):
 ∃L:Loop,w.heap[l]?=some (.loop L)/\L.state=t/\L.pending=XU a/\L.params.toList=ps/\FrR T X w fr L.tmps/\X.cr L.tmps.size L.assign as/\X.cr L.tmps.size L.body bd/\(∀p∈ps,p<L.tmps.size)/\
  Step T w T (w.putObj l<|.loop {L with state:=lst',pending:=XU pend'})/\M T X (setH h b<|.loop lst' pend' fr ps as bd) (w.putObj l<|.loop {L with state:=lst',pending:=XU pend'}):=by
 obtain⟨O,n,L,F,N,K,H,E,G,B,C⟩:=Cf m J;rw[i]at n;cases n;have q:l<w.heap.size:=(ZTi.1 F).1;have f:∀x o,x≠l->(w.putObj l o).heap[x]?=w.heap[x]?:=λx o k=>World.putObj_heap_other k
 have g:∀o,(w.putObj l o).heap[l]?=some o:=λo=>by simp[World.putObj,q]
 have d:T.rng l:=⟨b,_,i,rfl⟩;have v:∀o,Step T w T (w.putObj l o):=λo=>
  ⟨rfl,rfl,rfl,by simp[World.putObj],λx c k=>⟨c,k,.refl c⟩,λx _ y=>f x o<|λe=>y<|e▸d,λx k=>.inl k,λ_=>ZSr _⟩
 refine⟨L,F,N,K,H,E,G,B,C,v _,?_⟩;have s:b<h.length:=(ZSA.1 J).1;have:=WZ m b (.loop lst' pend' fr ps as bd) (.loop l) (ZTx s) (w':=w.putObj l<|.loop {L with state:=lst',pending:=XU pend'}) (by rw[Ro i];exact v _)
  (λz c' D j u A=>f D _<|λe=>j<|m.inj z c' b _ D u i A<|by rw[e];rfl)
  (λr y=>by
   cases y;exact⟨by simpa[World.putObj]using q,m.notX _ d,λz c' j u A=>j<|m.inj z c' b _ _ u i A rfl⟩)
  ⟨_,g _,rfl,rfl,H,by rw[Ro i];exact Kr (v _) E,G,B,C⟩
 rw[Ro i]at this;exact this
def BC:∀{ps:List Nat}{a:List AV}{fr d:Fr}{c:Array Value}{b:List Value},WY ps a fr=some d->FrR T X w fr c->Rs T X w a b->(∀p∈ps,p<c.size)->
 FrR T X w d ((ps.zip b).foldl (λt x=>t.setIfInBounds x.1 x.2) c)/\((ps.zip b).foldl (λt x=>t.setIfInBounds x.1 x.2) c).size=c.size/\ps.length=a.length:=by
 intro ps;induction ps with
 |nil=>
  intro a fr d c b e f h g;cases a with
  |cons _ _=>simp[WY]at e
  |nil=>
   simp only[WY,Option.some.injEq]at e;subst e;exact⟨f,rfl,rfl⟩
 |cons p ps j=>
  intro a fr d c b e f h g;cases a with
  |nil=>simp[WY]at e
  |cons v vs=>
   simp only[WY]at e;obtain⟨u,q,rfl,i,n⟩:=h;obtain⟨o,m,l⟩:=j e (ML f i<|g p<|by simp) n<|λx k=>by rw[ZUX];exact g x<|by simp[k]
   refine⟨o,?_,by simp[l]⟩
   rw[List.zip_cons_cons,ZTe,m,ZUX]
def Rp{a:Ty}{w':World}(f:Step T w a w'){b l:Nat}(d:T b=some (.loop l)):a b=some (.loop l):=by
 obtain⟨c',e,c⟩:=f.le b _ d;cases c' with
 |loop r=>rw[e];cases c;rfl
 |_=>exact c.elim
def BD{k:Nat}(ih:AllOk P E k){b:Nat}{y:List AV}{v:AV}{h':Hp}(i:YG E (k+1) b y h=some (v,h'))(d:Array Value)(l:Nat)(s:X.cr=Chk P)(c:Ctx E T X h w)(hr:Rs T X w y d.toList)(hT:T b=some (.loop l)):
 YI P ((Instr.yield l d).run P w) w (Yq T X w h' v):=by
 simp only[YG]at i;split at i
 .next fr ps assign body hb=>
  split at i
  .next R af=>
   split at i
   .next J h1 B=>
    split at i
    .next ap am q G an=>
     split at i
     .next e ag h2 D=>
      split at i
      .next ar aa aw ax au ay C=>
       obtain⟨L,hL,av,ae,U,aq,ak,al,ah,_,_⟩:=KQ (lst':=.ready) (pend':=.normal) c.m hb hT;obtain⟨q1,q2,q3⟩:=BC af aq hr ah;have ac:d.size=L.params.size:=by
        have e1:=Qr hr;have e2:L.params.size=ps.length:=by rw[<-U];simp
        have e3:d.size=d.toList.length:=by simp
        omega
       refine .inr<|.inr ⟨l,_,_,_,_,run_yield hL ac,λn ro=>?_⟩
       have aj:(L.params.zip d).foldl (λz x=>match x with|(t,a)=>z.setIfInBounds t a) L.tmps=(ps.zip d.toList).foldl (λt x=>t.setIfInBounds x.1 x.2) L.tmps:=by
        rw[<-Array.foldl_toList,Array.toList_zip,U]
       rw[aj];have O:Chk P L.tmps.size L.assign assign:=by rw[<-s];exact ak
       have S:Chk P L.tmps.size L.body body:=by rw[<-s];exact al
       obtain⟨N,hN,V⟩:=O;obtain⟨N2,ab,F⟩:=S;refine roundIn_of_wpIn (VK _ _) ?_;rw[Bg];have s0:St E T X h w R w.heap.size L.tmps.size {tmps:=(ps.zip d.toList).foldl (λt x=>t.setIfInBounds x.1 x.2) L.tmps,defers:=[]}:=
        ⟨c,q1,q2,⟨[],rfl,ZUa,by simp⟩,ZSr _⟩
       refine ih.code assign R h .normal J h1 B T X w _ N L.assign w.heap.size L.tmps.size true (some l) n s hN V (λZ=>by cases Z) s0 _ ?_
       intro T1 a1 w1 p K;obtain⟨L1,ad,M,u,_,_,_,_,_,g,mb⟩:=KQ (lst':=.busy) (pend':=.normal) K.c.m an<|Rp p hT;refine⟨_,run_beginRound ad M,?_⟩;have Y:({L1 with state:=.busy}:Loop)={L1 with state:=.busy,pending:=XU .normal}:=by rw[<-u]
       rw[Y];have s2:St E T1 X (setH h1 b<|.loop .busy .normal ap am q G) (w1.putObj l<|.loop {L1 with state:=.busy,pending:=XU .normal}) J w.heap.size L.tmps.size a1:=
        ⟨K.c.step g mb,Kr g K.f,K.sz,K.marks.step g,ZTa K.base g.size⟩
       refine ih.code body J _ e ag h2 D T1 X _ a1 N2 L.body w.heap.size L.tmps.size true (some l) n s ab F (λZ=>by cases Z) s2 _ ?_
       intro W a2 w2 j A;have H:W b=some (.loop l):=Rp (p.trans<|g.trans j) hT;cases e with
       |normal=>
        cases i;obtain⟨L2,o,_,_,_,_,_,_,_,r,Q⟩:=KQ (lst':=.ready) (pend':=.normal) A.c.m C H;exact⟨_,_,run_endRound none o,_,rfl,W,p.trans<|g.trans<|j.trans r,Q,rfl⟩
       |exit id=>
        cases i;obtain⟨L2,o,_,_,_,_,_,_,_,r,Q⟩:=KQ (lst':=.done) (pend':=.exit id) A.c.m C H;exact⟨_,_,run_endRound (some<|.exit id) o,_,rfl,W,p.trans<|g.trans<|j.trans r,Q,rfl⟩
       |ret=>
        cases i;obtain⟨L2,o,_,_,_,_,_,_,_,r,Q⟩:=KQ (lst':=.done) (pend':=.ret) A.c.m C H;exact⟨_,_,run_endRound (some .ret) o,_,rfl,W,p.trans<|g.trans<|j.trans r,Q,rfl⟩
      .cases i
     .cases i
    .cases i
   .cases i
  .cases i
 .cases i
end Go.AM
namespace Go.AM
open Go
variable [Dr]
variable {P:Program} {E:Env} {T:Ty} {X:Xt} {w:World} {h:Hp} {fr:Fr} {a:Act}
mutual
def Rq(n:Nat):(v:AV)->Zy v=true->bel n v=true
 | .bot,_=>rfl
 | .bool _,_=>rfl
 | .int _ _,_=>rfl
 | .str _,_=>rfl
 | .nilp,_=>rfl
 | .nilsl,_=>rfl
 | .nilmap,_=>rfl
 | .nilfn,_=>rfl
 | .nilif,_=>rfl
 | .agg cs,h=>by simp only[bel];exact Wz n cs h
 | .tup cs,h=>by simp only[bel];exact Wz n cs h
 | .iptr _ _,_=>rfl
 | .isl _ _ _ _,_=>rfl
 | .imap _ _ _,_=>rfl
 | .ifc _ v,h=>by simp only[bel];exact Rq n v h
 | .clo _ f c,h=>by
  simp only[Zy,ZSq]at h;simp only[bel,Wz n f h.1,Wz n c h.2,ZTl]
 | .ptr _ _ _ _,h=>by simp[Zy]at h
 | .sl _ _ _ _ _,h=>by simp[Zy]at h
 | .mp _,h=>by simp[Zy]at h
 | .it _,h=>by simp[Zy]at h
 | .yld _,h=>by simp[Zy]at h
def Wz(n:Nat):(vs:List AV)->Zi vs=true->Zd n vs=true
 |[],_=>rfl
 |v::r,h=>by
  simp only[Zi,ZSq]at h;simp only[Zd,Rq n v h.1,Wz n r h.2,ZTl]
end
structure Cut(n:Nat)(T T2:Ty):Prop where
 lo:∀b,b<n->T2 b=T b
 hi:∀b,n<=b->T2 b=none
def Cut.rng{n:Nat}{T d:Ty}(k:Cut n T d){r:Nat}(e:d.rng r):T.rng r:=by
 obtain⟨b,c,a,f⟩:=e;rcases ZTI b n with hb|hb
 .exact⟨b,c,by rw[<-k.lo b hb];exact a,f⟩
 .rw[k.hi b hb]at a;cases a
mutual
def KR{n:Nat}{T z:Ty}(k:Cut n T z):(v:AV)->(rv:Value)->bel n v=true->R T X w v rv->R z X w v rv
 | .bot,_,_,_=>trivial
 | .bool _,_,_,h=>h
 | .int _ _,_,_,h=>h
 | .str _,_,_,h=>h
 | .nilp,_,_,h=>h
 | .nilsl,_,_,h=>h
 | .nilmap,_,_,h=>h
 | .nilfn,_,_,h=>h
 | .nilif,_,_,h=>h
 | .agg cs,v,hn,h=>by
  obtain⟨vs,rfl,h⟩:=h;exact⟨vs,rfl,WA k cs _ (by simpa only[bel]using hn) h⟩
 | .tup cs,v,hn,h=>by
  obtain⟨vs,rfl,h⟩:=h;exact⟨vs,rfl,WA k cs _ (by simpa only[bel]using hn) h⟩
 | .iptr bw cs,v,hn,h=>by
  obtain⟨r,o,rfl,i,g,a,j,d⟩:=h;exact⟨r,o,rfl,λm=>i<|k.rng m,g,a,j,Rr k r cs o (Wz n cs<|V6 a) d⟩
 | .isl bw ex sz es,v,hn,h=>by
  obtain⟨ad,q,cap,rfl,i,g,a,j,d⟩:=h;refine⟨ad,q,cap,rfl,i,g,a,j,?_⟩;rcases d with d|⟨r,o,s,p,y,q9,q10⟩
  .exact .inl d
  .exact .inr ⟨r,o,s,λm=>p<|k.rng m,y,q9,Gp k sz r es o (Wz n es<|V6 j) q10⟩
 | .imap bw ks vs,v,hn,h=>by
  obtain⟨r,es,e,l,rfl,i,g,a,j,d,s,p,y⟩:=h;exact⟨r,es,e,l,rfl,λm=>i<|k.rng m,g,a,j,d,s,WA k ks _ (Wz n ks<|V6 a.1) p,WA k vs _ (Wz n vs<|V6 a.2) y⟩
 | .ifc t x,v,hn,h=>by
  obtain⟨u,rfl,h⟩:=h;exact⟨u,rfl,KR k x u (by simpa only[bel]using hn) h⟩
 | .clo fn first cap,v,hn,h=>by
  obtain⟨f,c,rfl,i,g⟩:=h;simp only[bel,ZSq]at hn;exact⟨f,c,rfl,WA k first _ hn.1 i,WA k cap _ hn.2 g⟩
 | .ptr b _ _ _,_,hn,h=>by
  simp only[bel,ZTw]at hn;simp only[R,k.lo b hn];exact h
 | .sl b _ _ _ _,_,hn,h=>by
  simp only[bel,ZTw]at hn;simp only[R,k.lo b hn];exact h
 | .mp b,_,hn,h=>by
  simp only[bel,ZTw]at hn;simp only[R,k.lo b hn];exact h
 | .it b,_,hn,h=>by
  simp only[bel,ZTw]at hn;simp only[R,k.lo b hn];exact h
 | .yld b,_,hn,h=>by
  simp only[bel,ZTw]at hn;simp only[R,k.lo b hn];exact h
def WA{n:Nat}{T b:Ty}(k:Cut n T b):(vs:List AV)->(rs:List Value)->Zd n vs=true->Rs T X w vs rs->Rs b X w vs rs
 |[],_,_,h=>h
 |a::as,vs,hn,h=>by
  obtain⟨v,c,rfl,d,e⟩:=h;simp only[Zd,ZSq]at hn;exact⟨v,c,rfl,KR k a v hn.1 d,WA k as c hn.2 e⟩
def Rr{n:Nat}{T b:Ty}(k:Cut n T b)(r:Nat):(cs:List AV)->(o:Nat)->Zd n cs=true->ZV T X w r cs o->ZV b X w r cs o
 |[],_,_,_=>trivial
 |a::as,o,hn,h=>by
  obtain⟨⟨v,c,d⟩,q3⟩:=h;simp only[Zd,ZSq]at hn;exact⟨⟨v,c,KR k a v hn.1 d⟩,Rr k r as (o+1) hn.2 q3⟩
def Gp{n:Nat}{T e:Ty}(k:Cut n T e)(sz r:Nat):(cs:List AV)->(o:Nat)->Zd n cs=true->ZA T X w sz r cs o->ZA e X w sz r cs o
 |[],_,_,_=>trivial
 |a::as,o,hn,h=>by
  simp only[Zd,ZSq]at hn;cases a with
  |agg cs=>
   obtain⟨b,d,c⟩:=h;exact⟨b,Rr k r cs o (by simpa only[bel]using hn.1) d,Gp k sz r as (o+sz) hn.2 c⟩
  |_=>
   obtain⟨b,⟨v,d,c⟩,q4⟩:=h;exact⟨b,⟨v,d,KR k _ v hn.1 c⟩,Gp k sz r as (o+sz) hn.2 q4⟩
end
def BE{n:Nat}:∀{vs:List AV},Zd n vs=true->∀v∈vs,bel n v=true:=by
 intro vs;induction vs with
 |nil=>intro _ v b;cases b
 |cons a r d=>
  intro c v b;simp only[Zd,ZSq]at c;rcases ZST.1 b with rfl|b
  .exact c.1
  .exact d c.2 v b
def get_mem:∀{fr:Fr}{t:Nat},get fr t=.bot\/get fr t∈fr.map (·.2):=by
 intro fr;induction fr with
 |nil=>intro t;exact .inl rfl
 |cons p r a=>
  intro t;obtain⟨d,v⟩:=p;simp only[get];cases b:(d==t)with
  |true=>right;simp
  |false=>
   rcases a (t:=t)with h1|h1
   .exact .inl h1
   .exact .inr<|by simp only[cond_false,ZSx,ZST];exact .inr h1
def L6{n:Nat}{b:Ty}(k:Cut n T b){a:Array Value}(d:Zd n (fr.map (·.2))=true)(c:FrR T X w fr a):FrR b X w fr a:=by
 intro t;refine KR k _ _ ?_<|c t;rcases get_mem (fr:=fr) (t:=t)with h1|h1
 .rw[h1];rfl
 .exact BE d _ h1
def BF{n:Nat}:∀{c:List AObj},X4 n c=true->∀(b:Nat)(o:AObj),c[b]?=some o->Zj n o=true:=by
 intro c;induction c with
 |nil=>intro _ b o a;simp at a
 |cons f r e=>
  intro a b o d;simp only[X4,ZSq]at a;cases b with
  |zero=>simp at d;subst d;exact a.1
  |succ b=>exact e a.2 b o<|by simpa using d
def BG{n:Nat}{q:Ty}(k:Cut n T q){o:Option AObj}{c:Option TC}(d:∀x,o=some x->Zj n x=true)(a:YR T X w o c):YR q X w o c:=by
 cases o with
 |none=>cases c<;>exact a
 |some o=>
  have d:=d o rfl;cases o with
  |dead=>cases c<;>exact a
  |gone=>
   cases c with
   |none=>exact a
   |some c=>
    cases c with
    |row _ _ r _ _=>cases r<;>exact a
    |map _=>exact a
    |iter _=>exact a
    |loop _=>exact a
  |iter s p=>cases c with
   |none=>exact a
   |some c=>cases c<;>exact a
  |row sz es=>
   cases c with
   |none=>exact a
   |some c=>
    cases c with
    |row D g r C B=>
     obtain⟨rfl,u,y,z,t⟩:=a;refine⟨rfl,u,y,z,?_⟩;cases r with
     |none=>exact t
     |some r=>
      obtain⟨cs,v,h,f,e⟩:=t;exact⟨cs,v,h,f,Gp k _ _ _ _ (by simpa only[Zj]using d) e⟩
    |map _=>exact a
    |iter _=>exact a
    |loop _=>exact a
  |map F vs=>
   cases c with
   |none=>exact a
   |some c=>
    cases c with
    |map r=>
     obtain⟨es,b,l,h,f,e,j,i⟩:=a;simp only[Zj,ZSq]at d;exact⟨es,b,l,h,f,e,WA k _ _ d.1 j,WA k _ _ d.2 i⟩
    |row _ _ _ _ _=>exact a
    |iter _=>exact a
    |loop _=>exact a
  |loop E m fr ps as bd=>
   cases c with
   |none=>exact a
   |some c=>
    cases c with
    |loop r=>
     obtain⟨L,h,f,e,j,i,A⟩:=a;exact⟨L,h,f,e,j,L6 k (by simpa only[Zj]using d) i,A⟩
    |row _ _ _ _ _=>exact a
    |iter _=>exact a
    |map _=>exact a
def BH{n:Nat}{d:Ty}(k:Cut n T d)(m:M T X h w)(a:X4 n (h.take n)=true):M d X (h.take n) w where
 inj b c b' c' r h1 h2 h3 h4:=by
  rcases ZTI b n with a|a
  .rcases ZTI b' n with hb'|hb'
   .exact m.inj b c b' c' r (by rw[<-k.lo b a];exact h1) (by rw[<-k.lo b' hb'];exact h2) h3 h4
   .rw[k.hi b' hb']at h2;cases h2
  .rw[k.hi b a]at h1;cases h1
 lt r hr:=m.lt r<|k.rng hr
 notX r hr:=m.notX r<|k.rng hr
 obj b:=by
  rcases ZTI b n with hlt|hge
  .rw[ZTK hlt,k.lo b hlt];refine BG k ?_<|m.obj b;intro x e;exact BF a b x<|by rw[ZTK hlt];exact e
  .rw[k.hi b hge,ZTj<|by simp;omega]
   trivial
def Gq(n:Nat)(T:Ty):Ty:=λb=>if b<n then T b else none
def BI(n:Nat)(T:Ty):Cut n T (Gq n T):=⟨λb a=>by simp[Gq,a],λb a=>by simp[Gq];omega⟩
def Step.cut{n:Nat}{f e:Ty}{w':World}(a:Step T w f w')(k:Cut n f e)(g:∀b c,T b=some c->b<n):Step T w e w':=
 ⟨a.os,a.tape,a.output,a.size,λb c d=>by
  obtain⟨c',h,i⟩:=a.le b c d;exact⟨c',by rw[k.lo b<|g b c d];exact h,i⟩,a.keep,λb d=>a.rng b<|k.rng d,a.drawn⟩
def BJ{n:Nat}{b:Ty}(k:Cut n T b){D:Nat}(a:Wn T w D):Wn b w D:=⟨a.1,λc=>a.2.1<|k.rng c,a.2.2⟩
def BK{i:Ty}{j:World}{l:Hp}{a:Fr}{u:Act}{d sz:Nat}(m:M T X h w)(y:∀g,clean (E.gl g)=true)(p:Step T w i j)(s:St E i X l j a d sz u):
 ∃o,Step T w o j/\St E o X (Xq h.length a l) j a d sz u:=by
 unfold Xq;cases n:(Zd h.length (a.map (·.2))&&X4 h.length (l.take h.length))with
 |false=>exact⟨i,p,s⟩
 |true=>
  simp only[ZSq]at n;have k:=BI h.length i;refine⟨Gq h.length i,p.cut k ?_,⟨BH k s.c.m n.2,λg=>⟨KR k _ _ (Rq _ _<|KK _<|y g) (s.c.gl g).1,(s.c.gl g).2⟩,s.c.hX⟩,L6 k n.1 s.f,s.sz,?_,s.base⟩
  .intro b c e;rcases ZTI b h.length with hx|hx
   .exact hx
   .rw[JR m<|.inl<|ZTj hx]at e;cases e
  .obtain⟨rs,x,v,q⟩:=s.marks;exact⟨rs,x,v,λr t=>⟨(q r t).1,BJ k (q r t).2⟩⟩
end Go.AM
namespace Go.AM
open Go
variable [Dr]
variable {P:Program} {E:Env} {T:Ty} {X:Xt} {w:World} {h:Hp} {fr:Fr} {a:Act}
def BL(c:Ctx E T X h w)(v:FrR T X w fr a.tmps)(fn:FuncId){params:Array Tmp}{assign body:Code}{ps:List Nat}{as bd:ACode}(q:params.toList=ps)(n:∀p∈ps,p<a.tmps.size)
 (o:X.cr a.tmps.size assign as) (j:X.cr a.tmps.size body bd):
 let i:=(w.alloc<|.deferred<|some []).alloc (.loop {state:=.ready,pending:=none,fn,tmps:=a.tmps,params,assign,body,defers:=w.heap.size})
 Step T w (upd T h.length<|.loop<|w.heap.size+1) i/\M (upd T h.length<|.loop<|w.heap.size+1) X (h++[.loop .ready .normal fr ps as bd]) i/\Wn (upd T h.length<|.loop<|w.heap.size+1) i w.heap.size:=by
 intro i;have s:T h.length=none:=Gn c.m;have b:=UT T w<|.deferred<|some [];have z:M T X h (w.alloc<|.deferred<|some []):=Xr c.m b<|λr d=>alloc_old w _<|c.m.lt r d
 have x:(w.alloc<|.deferred<|some []).heap.size=w.heap.size+1:=World.size_alloc _ _;have l:∀r,X r->r<(w.alloc<|.deferred<|some []).heap.size:=λr d=>by have:=c.hX r d;omega
 have g:=VD T (w.alloc<|.deferred<|some []) (.loop {state:=.ready,pending:=none,fn,tmps:=a.tmps,params,assign,body,defers:=w.heap.size}) h.length (.loop<|w.heap.size+1) s
  (λr d=>by cases d;omega)
 have f:i.heap[w.heap.size+1]?=some (.loop {state:=.ready,pending:=none,fn,tmps:=a.tmps,params,assign,body,defers:=w.heap.size}):=by
  grind [Wo]
 refine⟨b.trans g,?_,?_⟩
 .have:=JQ z l h.length (.loop .ready .normal fr ps as bd) (.loop<|w.heap.size+1) (.loop {state:=.ready,pending:=none,fn,tmps:=a.tmps,params,assign,body,defers:=w.heap.size}) (ZSr _) s
   (λr d=>by cases d;omega) ⟨_,f,rfl,rfl,q,Kr (b.trans g) v,o,j,n⟩
  have e:setH h h.length (.loop .ready .normal fr ps as bd)=h++[.loop .ready .normal fr ps as bd]:=by
   unfold setH;have:Nat.blt h.length h.length=false:=by simp_all[ZTW]
   rw[this,cond_false]
  grind
 .refine⟨?_,?_,?_⟩
  .grind
  .rintro⟨u,c',t,y⟩;by_cases e:u=h.length
   .grind [upd_same,TC.real]
   .rw[upd_ne _ _ e]at t;have:=c.m.lt _ ⟨u,c',t,y⟩;omega
  .have:=alloc_old (w.alloc<|.deferred<|some []) (.loop {state:=.ready,pending:=none,fn,tmps:=a.tmps,params,assign,body,defers:=w.heap.size}) (k:=w.heap.size) (by omega)
   grind [Wo]
def Marks.add{a D:Nat}{f:List Deferred}(j:Marks T w a f)(m:a<=D)(n:Wn T w D)(d:∀r,(∃t:Ty,∃w0:World,w0.heap.size<=D/\Wn t w0 r)->r<D)(b:∃t:Ty,∃w0:World,w0.heap.size<=D/\Marks t w0 a f):
 Marks T w a ([{target:=.collected D,args:=#[]}]++f):=by
 obtain⟨rs,l,i,p⟩:=j;obtain⟨t,w0,g,c,q,o,h⟩:=b;refine⟨D::rs,by grind,ZT8.2 ⟨?_,i⟩,?_⟩
 .intro k;have e:rs=c:=by
   grind [List.map_inj_right]
  subst e;have:=d D ⟨t,w0,g,(h D k).2⟩;omega
 grind
theorem BM{k:Nat}(ih:AllOk P E k){f:Arg}{R:List Nat}{x y:ACode}{e:AExit}{m:Fr}{h':Hp}(he:Ze E (k+1) (.rangeFunc f R x y) fr h=some (e,m,h')){N:Nat}
 {g:Operand} {ps:Array Tmp} {as bd:Code} {d sz:Nat} {n:Nat}
 (B:X.cr=Chk P) (hN:N<=sz) (hg:Zr g f=true) (U:ps.toList=R) (Z:∀p∈R,p<N) (ac:QZ P N true as x=true) (V:QZ P N true bd y=true) (s:St E T X h w fr d sz a) (Q:Exit->Act->World->Prop)
 (hq:∀T' a' w',Step T w T' w'->St E T' X h' w' m d sz a'->Q (exR e) a' w'):(Code.rangeFunc g ps as bd).wpIn (Qa none) n P Q a w:=by
 simp only[Ze]at he;split at he
 .next g' first cap aa=>
  split at he
  .next v S H=>
   have D:N<=a.tmps.size:=by rw[s.sz];omega
   refine wpIn_rangeFunc λfn af=>?_
   have O:=evR s.c.gl s.f hg;rw[aa]at O;obtain⟨f1,c1,aj,ah,ae⟩:=O;obtain⟨M,m1,hD⟩:=BL (fr:=fr) (ps:=R) (as:=x) (bd:=y) s.c s.f fn (params:=ps) (assign:=as) (body:=bd) U (λp hp=>ZTy (Z p hp) D)
    (by rw[B];exact⟨N,D,ac⟩) (by rw[B];exact⟨N,D,V⟩)
   let l:=w.heap.size+1
   let G:=(w.alloc<|.deferred<|some []).alloc (.loop {state:=.ready,pending:=none,fn,tmps:=a.tmps,params:=ps,assign:=as,body:=bd,defers:=w.heap.size})
   have ab:Ctx E _ X _ G:=s.c.step M m1;have C:Rs (upd T h.length<|.loop l) X G (first++[.yld h.length]++cap) ((f1++#[Value.func (.yield l) #[] #[]])++c1).toList:=by
    have q1:Rs (upd T h.length<|.loop l) X G [AV.yld h.length] [Value.func (.yield l) #[] #[]]:=⟨_,[],rfl,⟨l,upd_same _ _ _,rfl⟩,rfl⟩
    grind [QR,Yb]
   obtain⟨ad,q⟩:=ih.body g' _ _ v S H _ X G _ B ab C;refine⟨l,_,G,{target:=.fn (.func g') c1,args:=f1++#[Value.func (.yield l) #[] #[]]},G,g',_,G,run_enterLoop_outer _ _ _ _ _,?_,λ_ _=>VK _ _,?_,Rl _ _,Rm.2<|q.mono ?_⟩
   .simp_all[resolve,Deferred.ofValue,Act.eval]
   .grind [invoke]
   .rintro e' w2 ⟨rv,rfl,T2,st2,m2,hv⟩;have ak:∀J b z u A o,S[h.length]?=some (.loop J b z u A o)->J≠.busy->e=b->m=fr->h'=setH S h.length (.loop .exhausted b z u A o)->
     rangePost (Qa none) n P l Q {a with defers:=[{target:=.collected w.heap.size,args:=#[]}]++a.defers} (.returned rv) w2:=by
     rintro J b z u A o hb2 hnb rfl rfl rfl;obtain⟨L,hL,ag,K,_,_,_,_,_,F,me⟩:=KQ (lst':=.exhausted) (pend':=e) m2 hb2<|Rp st2<|upd_same T h.length<|.loop l;have W:({L with state:=.exhausted,pending:=XU e}:Loop)={L with state:=.exhausted}:=by rw[<-K]
     rw[W]at F me;refine⟨L.pending,_,run_endLoop hL (by grind),?_⟩
     have i:=M.trans<|st2.trans F;have s':St E T2 X (setH S h.length<|.loop .exhausted e z u A o) (w2.putObj l<|.loop {L with state:=.exhausted}) m d sz {a with defers:=[{target:=.collected w.heap.size,args:=#[]}]++a.defers}:=by
      refine⟨s.c.step i me,Kr i s.f,s.sz,?_,ZTa s.base i.size⟩;refine Marks.add (s.marks.step i) s.base (Md (st2.trans F) hD) (λr⟨t,w0,hs,hd⟩=>by have:=hd.1;omega) ⟨T,w,ZSr _,s.marks⟩
     have hQ:=hq T2 _ _ i s';have Y:∀(j:Option Code),j=XU e->(match j with
      |none=>Q .normal {a with defers:=[{target:=.collected w.heap.size,args:=#[]}]++a.defers}<|w2.putObj l<|.loop {L with state:=.exhausted}
      |some c=>c.wpIn (Qa none) n P Q {a with defers:=[{target:=.collected w.heap.size,args:=#[]}]++a.defers}<|w2.putObj l<|.loop {L with state:=.exhausted}):=by
      rintro j rfl;cases e with
      |normal=>exact hQ
      |exit id=>exact wpIn_exit hQ
      |ret=>exact wpIn_ret hQ
     grind
    grind
  grind
 grind
theorem ZwB{v:Value}{bw a:Bool}{z:Nat}(h:Q3 v (.isl bw a z [])=true):v=.slice none 0 0:=by
 unfold Q3 at h;split at h<;>first|rfl|grind|(done)
theorem ZxR:∀{vs:List Value}{cs:List AV}{o:Nat}{bw a:Bool}{z:Nat},Wr vs cs=true->cs[o]?=some (.isl bw a z [])->vs[o]?=some (.slice none 0 0)
 |[],[],o,_,_,_,_,h=>by grind
 |[],_::_,_,_,_,_,hc,_=>by grind [Wr]
 |_::_,[],_,_,_,_,hc,_=>by grind
 |v::vs,c::cs,0,bw,a,z,hc,h=>by
  simp[Option.some.injEq]at h;simp[Wr]at hc
  grind [ZwB]
 |v::vs,c::cs,o+1,_,_,_,hc,h=>by
  simp[Wr]at hc;simp[ZTp]at h⊢;exact ZxR hc.2 h
def ZxS:∀{cs:List AV}{vs:List Value}{o:Nat}{x:AV}{v:Value},Rs T X w cs vs->vs[o]?=some v->R T X w x v->Rs T X w (cs.set o x) vs
 |[],vs,o,x,v,h,_,_=>h
 |c::cs,vs,0,x,v,h,hv,hx=>by
  obtain⟨u,us,rfl,b,a⟩:=h;simp[Option.some.injEq]at hv;subst hv;exact⟨_,_,rfl,hx,a⟩
 |c::cs,vs,o+1,x,v,h,hv,hx=>by
  obtain⟨u,us,rfl,b,a⟩:=h;exact⟨_,_,rfl,b,ZxS a (by grind) hx⟩
def ZwC{b s:Nat}(a:T b=some (.row s 0 none 0 0)):R T X w (.sl b 0 0 0 false) (.slice none 0 0):=
 ⟨⟨_,_,_,rfl⟩,s,0,none,0,0,a,ZSr _,ZSr _,λ_=>⟨0,ZSr _,ZSr _,(λc=>by rfl),.inr ⟨rfl,none,rfl,λ_=>rfl⟩⟩⟩
def ZxT:∀{ps:List (Nat×Nat)}{b:Nat}{cs:List AV}{vs:List Value},Rs T X w cs vs->(∀p∈ps,vs[p.1]?=some (.slice none 0 0))->(∀i p,ps[i]?=some p->T (b+i)=some (.row p.2 0 none 0 0))->Rs T X w (Zw7 b cs ps) vs
 |[],_,_,_,h,_,_=>h
 |p::r,b,cs,vs,h,hn,hT=>by
  have c:T b=some (.row p.2 0 none 0 0):=hT 0 p rfl;refine ZxT (ps:=r) (ZxS h (hn p<|ZSV ..)<|ZwC c) (λq a=>hn q<|ZT4 _ a)<|λi q a=>?_
  have:=hT (i+1) q<|by simpa using a
  rw[show b+1+i=b+(i+1)by omega]
  exact this
def Zzg{z:AV}{v:Value}{ps:List (Nat×Nat)}{b:Nat}(e:Q3 v z=true)(c:ZvV z ps=true)(d:∀i p,ps[i]?=some p->T (b+i)=some (.row p.2 0 none 0 0)):R T X w (Zvr b ps z) v:=by
 have g:R T X w z v:=Ws v z e;unfold ZvV at c;split at c
 .rename_i cs;obtain⟨vs,rfl,a⟩:=g;have j:Wr vs.toList cs=true:=by grind [Q3]
  refine⟨vs,rfl,ZxT a (λp h=>?_) d⟩
  have:=(ZSw.1 c) p h
  grind [ZxR]
 .have f:v=.slice none 0 0:=by
   exact ZwB e
  subst f;exact ZwC<|d 0 _ rfl
 grind
def Zzh{z:AV}{ps:List (Nat×Nat)}(a:ZvV z ps=true):∀p∈ps,0<p.2:=by
 unfold ZvV at a
 grind
def ZwD{d sz:Nat}:∀{ps:List (Nat×Nat)}{T:Ty}{h:Hp},(∀p∈ps,0<p.2)->St E T X h w fr d sz a->∃g,Step T w g w/\St E g X (h++Zvo ps) w fr d sz a/\(∀b,b<h.length->g b=T b)/\∀i p,ps[i]?=some p->g (h.length+i)=some (.row p.2 0 none 0 0)
 |[],T,h,_,s=>⟨T,.refl _ _,by grind [Zvo],λ_ _=>rfl,λi p n=>by grind⟩
 |p::r,T,h,n,s=>by
  have G:T h.length=none:=Gn s.c.m;have j:Step T w (upd T h.length<|.row p.2 0 none 0 0) w:=by
   refine⟨rfl,rfl,rfl,ZSr _,λx c t=>⟨c,by rw[upd_ne _ _<|by grind];omega,.refl _⟩,λ_ _ _=>rfl,λx t=>?_,λ_=>ZSr _⟩
   obtain⟨u,c',k,v⟩:=t;by_cases e:u=h.length
   .subst e;rw[upd_same]at k;cases k;cases v
   .rw[upd_ne _ _ e]at k;exact .inl ⟨u,c',k,v⟩
  have D:M (upd T h.length<|.row p.2 0 none 0 0) X (h++[.row p.2 []]) w:=by
   have:=WZ s.c.m h.length (.row p.2 []) (.row p.2 0 none 0 0) (ZSr _) j (λ_ _ _ _ _ _=>rfl) (λr z=>by cases z) ⟨rfl,rfl,n p<|ZSV ..,ZSr _,rfl⟩
   have e:setH h h.length (.row p.2 [])=h++[.row p.2 []]:=by
    unfold setH;have:Nat.blt h.length h.length=false:=by simp_all[ZTW]
    rw[this,cond_false]
   rwa[e]at this
  have A:St E (upd T h.length<|.row p.2 0 none 0 0) X (h++[.row p.2 []]) w fr d sz a:=⟨s.c.step j D,Kr j s.f,s.sz,s.marks.step j,s.base⟩;obtain⟨g,B,F,o,y⟩:=ZwD (ps:=r) (λq l=>n q<|ZT4 _ l) A
  have C:(h++[AObj.row p.2 []]).length=h.length+1:=by simp
  rw[C]at o y;refine⟨g,j.trans B,?_,λb H=>?_,λi q l=>?_⟩
  .grind [Zvo]
  .rw[o b (by omega),upd_ne _ _<|by omega]
  .cases i with
   |zero=>
    simp[Option.some.injEq]at l;subst l;rw[ZTc,o _<|Nat.lt_succ_self _,upd_same]
   |succ i=>
    grind
def Zzi{N d p:Nat}{z:AV}{ps:List (Nat×Nat)}{i:Array Oper}{Z k sz:Nat}{ro:Option Nat}{n:Nat}(Y:N<=sz)(F:X7 P N i i.toList [⟨some d,.box p<|.c z,none⟩]=true)(j:i.toList.all (λo=>match o.op with| .alloc _=>true|_=>false)=true)(S:ZvV z ps=true)(U:fits p (Zvr h.length ps z)=true)
 (s:St E T X h w fr k sz a) (Q:Exit->Act->World->Prop)
 (hq:∀A O w',Step T w A w'->St E A X (h++Zvo ps++[.row p [Zvr h.length ps z]]) w' (put fr d<|.ptr (h.length+ps.length) 0 0 1) k sz O->Q .normal O w'):(Code.region Z i false).wpIn (Qa ro) n P Q a w:=by
 refine wpIn_region_list ?_;cases R:i.toList with
 |nil=>grind [X7]
 |cons o os=>
  rw[R]at F;simp[X7]at F;obtain⟨q,aa⟩:=F;have G:os=[]:=by
   grind [X7]
  subst G;simp[X6]at q;obtain⟨⟨hd,hg⟩,hop⟩:=q;have C:N<=a.tmps.size:=by rw[s.sz];omega
  refine wpListIn_step λK V=>?_
  rw[MM s.f C hg (b:=true) rfl,if_pos rfl];refine⟨λ_ _=>VK _ _,?_⟩
  have r:Gb P o.op (.box p<|.c z)=true:=hop;have H:∀c,o.op≠.defer c:=λc e=>by grind
  rw[Oper.semAt_eq _ _ _ H];obtain⟨W,B,y,_,l⟩:=ZwD (Zzh S) s;rw[R]at j;simp[ZSW]at j;obtain⟨t,ho,J,h0⟩:∃t,o.op=.alloc t/\KI P t z=true/\0<p:=by
   cases he:o.op<;>rw[he]at j r<;>try (cases j;done)
   simp_all[Gb]
  obtain⟨v,hv,D⟩:=Gf J;have u:(h++Zvo ps).length=h.length+ps.length:=by simp[Zvo]
  obtain⟨A,w',rv,g,M,m',L⟩:=UZ (P:=P) (e:=t) (rs:=[]) (s:=(execOp a.eval o)) y.c.m y.c.hX (ZSr _) (Gn y.c.m) h0 U (Zzg (T:=W) (X:=X) (w:=w) D S l)
   (Qg (a:=a) (s:=Instr.alloc t true<|.tuple #[]) (by grind [execOp])<|by simp[Instr.alloc,Xu w hv,KB])
  have x:K (a.put o.dst rv) w':=by
   refine V _ _<|hq A _ w' (B.trans M) ?_;have:=Gi y Y hd M m' L;have e:ZH (h++Zvo ps) (some ((h++Zvo ps).length,.row p [Zvr h.length ps z]))=h++Zvo ps++[.row p [Zvr h.length ps z]]:=by
    show setH _ _ _=_
    unfold setH;have:Nat.blt (h++Zvo ps).length (h++Zvo ps).length=false:=by simp_all[ZTW]
    rw[this,cond_false]
   rw[e,u]at this;exact this
  rcases g with g|⟨g,rfl⟩<;>rw[g]<;>exact x
theorem Zzj{N k d off:Nat}{p:Arg}{l:Array Oper}{id j sz:Nat}{ro:Option Nat}{n:Nat}(hN:N<=sz)(hc:X7 P N l l.toList [⟨some d,.fadr off p,none⟩,⟨none,.store 1 (.t d)<|.c<|.isl false false k [],none⟩]=true)(h0:0<k)
 {e:AExit} {F:Fr} {h':Hp} (J:ZvU E k d off p fr h=some (e,F,h'))
 (s:St E T X h w fr j sz a) (Q:Exit->Act->World->Prop)
 (hq:∀Z a' w',Step T w Z w'->St E Z X h' w' F j sz a'->Q (exR e) a' w'):(Code.region id l false).wpIn (Qa ro) n P Q a w:=by
 refine wpIn_region_list ?_;unfold ZvU at J;cases H:Z8 E fr h h.length (.fadr off p)with
 |none=>grind
 |some r1=>
 obtain⟨v,ap,aa⟩:=r1;rw[H]at J;cases aa with
 |some _=>grind
 |none=>
 dsimp only at J;cases U:Z8 E (put fr d v) (h++[.row k []]) (h.length+1) (.store 1 (.t d)<|.c<|.sl h.length 0 0 0 false)with
 |none=>grind
 |some r2=>
 rw[U]at J;obtain⟨rfl,rfl,rfl⟩:=J;cases hl:l.toList with
 |nil=>grind [X7]
 |cons D os=>
 rw[hl]at hc;cases os with
 |nil=>grind [X7]
 |cons A os=>
 simp[X7]at hc;obtain⟨C,M,an⟩:=hc;have ag:os=[]:=by
  grind [X7]
 subst ag;simp[X6]at C M;obtain⟨⟨ak,ae⟩,hop1⟩:=C;obtain⟨⟨ah,aj⟩,hop2⟩:=M;have ac:N<=a.tmps.size:=by rw[s.sz];omega
 refine wpListIn_step λK hK=>?_
 rw[MM s.f ac ae (b:=true) rfl,if_pos rfl];refine⟨λ_ _=>VK _ _,?_⟩
 have q:Gb P D.op (.fadr off p)=true:=hop1;have i:Gb P A.op (.store 1 (.t d)<|.c<|.isl false false k [])=true:=hop2;have W:∀c,D.op≠.defer c:=λc e=>by grind [L0]
 have S:∀c,A.op≠.defer c:=λc e=>by grind [L0]
 rw[Oper.semAt_eq _ _ _ W];obtain⟨T1,w1,u,z,B,m1,am⟩:=MZ s.c s.f (ZSr _) (Gn s.c.m) q H;have Y:St E T1 X h w1 (put fr d v) j sz (a.put D.dst u):=Gi s hN ak B m1 am;have V:K (a.put D.dst u) w1:=by
  refine hK _ _ ?_;generalize a.put D.dst u=a1 at Y;have O:N<=a1.tmps.size:=by rw[Y.sz];omega
  refine wpListIn_step λK2 ad=>?_
  rw[MM Y.f O aj (b:=true) rfl,if_pos rfl];refine⟨λ_ _=>VK _ _,?_⟩
  rw[Oper.semAt_eq _ _ _ S];obtain⟨T2,al,L,_,r⟩:=ZwD (ps:=[(0,k)]) (by grind) Y
  have hz:h++Zvo [(0,k)]=h++[.row k []]:=rfl;rw[hz]at L;obtain⟨t,x,y,ho,hn,hx,hy⟩:∃t x y,A.op=.store t x y/\ZR P t=some 1/\Zr x (.t d)=true/\Zr y (.c<|.isl false false k [])=true:=by
   cases hh:A.op<;>rw[hh]at i<;>simp only[Gb]at i<;>try (cases i;done)
   grind
  have ab:a1.eval y=.slice none 0 0:=by
   cases y<;>simp only[Zr]at hy<;>try (cases hy;done)
   exact ZwB hy
  have hR:R T2 X w1 (.sl h.length 0 0 0 false) (a1.eval y):=by
   rw[ab];exact ZwC<|r 0 (0,k) rfl
  have o:=U;simp only[Z8]at o;obtain⟨Z,w',rv,g,st,m',af⟩:=Cx (P:=P) (s:=execOp a1.eval A) L.c.m hn (evR L.c.gl L.f hx) hR (λw' hr=>Ri (s:=Instr.storeAt t (a1.eval x)<|a1.eval y) (by grind [execOp]) hr) o
  have G:K2 (a1.put A.dst rv) w':=by
   refine ad _ _<|hq Z _ w' ((B.trans al).trans st) ?_;exact Gi L hN ah st m' af
  rcases g with g|⟨g,rfl⟩<;>rw[g]<;>exact G
 rcases z with g|⟨g,rfl⟩<;>rw[g]<;>exact V
def ZPQ{r:Nat}{x y:AV}(a:∀v,R T X w x v->R T X w y v):∀{cs:List AV}{off o:Nat},cs[off]?=some x->ZV T X w r cs o->ZV T X w r (cs.set off y) o
 |[],_,_,hx,_=>by grind
 |c::cs,0,o,hx,hr=>by
  simp[Option.some.injEq]at hx;subst hx;obtain⟨⟨v,b,d⟩,h3⟩:=hr;exact⟨⟨v,b,a v d⟩,h3⟩
 |c::cs,off+1,o,hx,hr=>⟨hr.1,ZPQ a (by grind) hr.2⟩
def ZQA(m:M T X h w){b sz off:Nat}{cs:List AV}{x y:AV}(f:h[b]?=some (.row sz [.agg cs]))(o:cs[off]?=some x)(a:∀v,R T X w x v->R T X w y v):M T X (setH h b<|.row sz [.agg<|cs.set off y]) w where
 inj:=m.inj
 lt:=m.lt
 notX:=m.notX
 obj b':=by
  rw[Ks h b _<|ZTx (ZSA.1 f).1];by_cases e:b'=b
  .subst e;rw[if_pos rfl];have:=m.obj b';rw[f]at this;cases d:T b' with
   |none=>rw[d]at this;exact this.elim
   |some c=>
    rw[d]at this;cases c with
    |map _=>exact this.elim
    |iter _=>exact this.elim
    |loop _=>exact this.elim
    |row u g r C B=>
     obtain⟨rfl,k,s,t,q⟩:=this;refine⟨rfl,k,s,t,?_⟩;cases r with
     |none=>omega
     |some r=>
      obtain⟨z,l,n,j,A,p,i⟩:=q;exact⟨z,l,n,j,by grind,ZPQ a o p,i⟩
  .rw[if_neg e];exact m.obj b'
def ZQB{d off e:Nat}{r:Hp}{g sz:Nat}(k:ghW d off e fr h=some r)(s:St E T X h w fr g sz a):∃n,Step T w n w/\St E n X r w fr g sz a:=by
 unfold ghW at k;split at k
 .rename_i b G;split at k
  .rename_i j cs D;split at k
   .rename_i x;cases C:Nat.blt 0 e with
    |false=>grind
    |true=>
     rw[C,cond_true,Option.some.injEq]at k;subst k;obtain⟨n,u,i,_,z⟩:=ZwD (ps:=[(0,e)]) (λp F=>by
      simp_all) s
     have o:=z 0 (0,e) rfl;have l:b<h.length:=(ZSA.1 D).1;have q:(h++Zvo [(0,e)])[b]?=some (.row j [.agg cs]):=by grind
     have t:=ZQA (y:=.sl h.length 0 0 0 false) i.c.m q x (λv B=>by
      subst B;exact⟨⟨_,_,_,rfl⟩,e,0,none,0,0,o,ZSr _,ZSr _,λ_=>⟨0,ZSr _,ZSr _,λ_=>rfl,.inr ⟨rfl,none,rfl,λ_=>rfl⟩⟩⟩)
     have A:setH (h++Zvo [(0,e)]) b (.row j [.agg<|cs.set off<|.sl h.length 0 0 0 false])=setH h b (.row j [.agg<|cs.set off<|.sl h.length 0 0 0 false])++[.row e []]:=by
      unfold setH;rw[show Nat.blt b (h++Zvo [(0,e)]).length=true by simp[Zvo];omega,show Nat.blt b h.length=true by simp_all,cond_true,cond_true,List.set_append_left _ _ l]
      rfl
     rw[A]at t;exact⟨n,u,⟨⟨t,i.c.gl,i.c.hX⟩,i.f,i.sz,i.marks,i.base⟩⟩
   grind
  grind
 grind
def L7(P:Program)(E:Env)(k:Nat):Prop:=∀j e f fr h d h',Ze E (k+1) (.draw j e f) fr h=some (.normal,d,h')->∀(T:Ty)(X:Xt)(w:World)(a:Act)(N:Nat)(l:Nat)(c:Array Oper)(b sz:Nat)(ro:Option Nat)(n:Nat),
 X.cr=Chk P->N<=sz->Gj P N c j e f=true->St E T X h w fr b sz a->∀(Q:Exit->Act->World->Prop),
 (∀g i w',Step T w g w'->St E g X h' w' d b sz i->Q .normal i w')->(Code.region l c true).wpIn (Qa ro) n P Q a w
def BN(gl:∀g,clean (E.gl g)=true){k:Nat}(W:L7 P E k)(M:AllOk P E k){q:ACode}{e:AExit}{C:Fr}{h':Hp}(b:Ze E (k+1) q fr h=some (e,C,h')){N:Nat}{c:Code}{l sz:Nat}{O:Bool}{ro:Option Nat}{n:Nat}
 (u:X.cr=Chk P) (G:N<=sz) (t:QZ P N O c q=true) (B:O=false->ro=none) (s:St E T X h w fr l sz a) (Q:Exit->Act->World->Prop)
 (A:∀T' a' w',Step T w T' w'->St E T' X h' w' C l sz a'->Q (exR e) a' w'):c.wpIn (Qa ro) n P Q a w:=by
 unfold QZ at t;split at t
 .obtain⟨rfl,rfl,rfl⟩:=b;exact wpIn_skip<|A T a w (.refl _ _) s
 .obtain⟨rfl,rfl,rfl⟩:=b;exact wpIn_label<|A T a w (.refl _ _) s
 .next U F qs=>
  simp only[Ze,ZSD]at b;obtain⟨⟨v,L⟩,b,rfl,rfl,rfl⟩:=b;exact wpIn_region_list<|M.ops qs fr h _ _ b T X w a N F F.toList l sz ro n u G t s Q A
 .next U F d z0 z ps=>
  simp only[ZSq]at t;simp only[Ze]at b;cases hf:fits z0 (Zvr h.length ps z)with
  |false=>grind
  |true=>
   rw[hf]at b;obtain⟨rfl,rfl,rfl⟩:=b;exact Zzi G t.1 t.2.1 t.2.2 hf s Q A
 .next U F s0 d off p=>
  grind [Ze,Zzj]
 .next U F un p1 p2=>
  have ab:e=.normal:=by
   simp[Ze]at b;split at b
   .simp[Prod.mk.injEq]at b
    grind
   grind
  subst ab;exact W un p1 p2 fr h C h' b T X w a N U F l sz ro n u G t s Q A
 .next Z c2 x y=>
  simp[ZSq]at t;simp[Ze]at b;refine wpIn_seq ?_;cases S:Ze E k x fr h with
  |none=>grind
  |some r=>
   obtain⟨V,v,L⟩:=r;rw[S]at b;refine M.code x fr h V v L S T X w a N Z l sz O ro n u G t.1 B s _ ?_;intro K H J o D;cases V with
   |normal=>exact M.code y v L e C h' b K X J H N c2 l sz O ro n u G t.2 B D Q<|λT2 a2 w2 R s2=>A T2 a2 w2 (o.trans R) s2
   |exit U=>cases b;exact A K H J o D
   |ret=>cases b;exact A K H J o D
 .next c0 Z c2 d x y=>
  simp[ZSq]at t;simp only[Ze]at b;have hd:=evR s.c.gl s.f t.1.1;split at b
  .next Y=>
   rw[Y]at hd;exact wpIn_cond_true hd<|M.code x fr h e C h' b T X w a N Z l sz O ro n u G t.1.2 B s Q A
  .next Y=>
   rw[Y]at hd;exact wpIn_cond_false hd<|M.code y fr h e C h' b T X w a N c2 l sz O ro n u G t.2 B s Q A
  grind
 .next i Z j x=>
  simp only[ZSq,beq_iff_eq]at t;obtain⟨rfl,t⟩:=t;simp only[Ze]at b;refine wpIn_block ?_;cases S:Ze E k x fr h with
  |none=>grind
  |some r=>
   obtain⟨V,v,L⟩:=r;rw[S]at b;refine M.code x fr h V v L S T X w a N Z l sz O ro n u G t B s _ ?_;intro K H J o D;cases V with
   |normal=>cases b;exact A K H J o D
   |exit U=>
    simp only[exR,Exit.inBlock];by_cases aa:U=i
    .subst aa;simp only[beq_self_eq_true,cond_true,Option.some.injEq,Prod.mk.injEq]at b;obtain⟨rfl,rfl,rfl⟩:=b;rw[if_pos rfl];exact A K H J o D
    .have:(U==i)=false:=by grind
     simp only[this,cond_false,Option.some.injEq,Prod.mk.injEq]at b;obtain⟨rfl,rfl,rfl⟩:=b;rw[if_neg aa];exact A K H J o D
   |ret=>cases b;exact A K H J o D
 .next Z live x=>
  exact wpIn_loop_rounds (k+1)<|L5 M b u G t B s Q A
 .next g ps as bd f qs x y=>
  simp only[ZSq,ZSP,decide_eq_true_eq,ZSw,ZTw]at t
  grind [BM]
 .next i j=>
  simp only[beq_iff_eq]at t;subst t;simp only[Ze,Option.some.injEq,Prod.mk.injEq]at b;obtain⟨rfl,rfl,rfl⟩:=b;exact wpIn_exit<|A T a w (.refl _ _) s
 .simp only[Ze,Option.some.injEq,Prod.mk.injEq]at b;obtain⟨rfl,rfl,rfl⟩:=b;exact wpIn_ret<|A T a w (.refl _ _) s
 .next live x=>
  simp only[Ze]at b;split at b
  .next V v L S=>
   simp only[Option.some.injEq,Prod.mk.injEq]at b;obtain⟨rfl,rfl,rfl⟩:=b;refine M.code x fr h V v L S T X w a N c l sz O ro n u G t B s Q ?_;intro K H J o D;obtain⟨T2,R,s2⟩:=BK s.c.m gl o<|D.withFr<|L4 (live:=live) D.f
   grind
  grind
 .next d off s0 x=>
  simp only[Ze]at b;split at b
  .next v L S=>
   simp only[ZSD,Prod.mk.injEq]at b;obtain⟨h2,hg,rfl,rfl,rfl⟩:=b;refine M.code x fr h .normal v L S T X w a N c l sz O ro n u G t B s Q ?_;intro K H J o D;obtain⟨T2,R,s2⟩:=ZQB hg D;exact A T2 H J (o.trans R) s2
  grind
 grind
end Go.AM
namespace Go.AM
open Go
variable [Dr]
structure Rc where
 dst:Option Nat
 v:AV
 wr:Option<|Nat×AObj
 d:DRec
def LW{a:Type}(S:Nat->Bool)(f:Rc->Option a):Nat->List Rc->a->a
 |_,[],d=>d
 |i,r::rs,d=>LW S f (i+1) rs (if S i then(f r).getD d else d)
def Gs{b:Type}{S a:Nat->Bool}{f:Rc->Option b}:∀(rs:List Rc)(i:Nat)(d:b),(∀k r,rs[k]?=some r->(f r).isSome=true->S (i+k)=a (i+k))->LW S f i rs d=LW a f i rs d:=by
 intro rs;induction rs with
 |nil=>intro i d _;rfl
 |cons r rs l=>
  intro i d g;simp only[LW];have c:=g 0 r rfl;have e:(if S i then(f r).getD d else d)=if a i then(f r).getD d else d:=by
   cases h:f r with
   |none=>simp
   |some x=>rw[h]at c;have:=c rfl;simp only[ZTc]at this;rw[this]
  rw[e];exact l (i+1) _ (λk n m j=>by have:=g (k+1) n (by simpa using m) j;rw[show i+1+k=i+(k+1)by omega];exact this)
def Rt{a:Type}{S:Nat->Bool}{f:Rc->Option a}:∀(rs:List Rc)(i:Nat)(d:a),(∀k r,rs[k]?=some r->(f r).isSome=true->S (i+k)=false)->LW S f i rs d=d:=by
 intro rs;induction rs with
 |nil=>intro i d _;rfl
 |cons r rs j=>
  intro i d c;simp only[LW];have b:=c 0 r rfl;have e:(if S i then(f r).getD d else d)=d:=by
   cases g:f r with
   |none=>simp
   |some x=>rw[g]at b;have:=b rfl;simp only[ZTc]at this;rw[this];simp
  rw[e];exact j (i+1) _ (λk m l h=>by have:=c (k+1) m (by simpa using l) h;rw[show i+1+k=i+(k+1)by omega];exact this)
def Ru{a:Type}{S:Nat->Bool}{f:Rc->Option a}:∀(rs us:List Rc)(i:Nat)(d:a),LW S f i (rs++us) d=LW S f (i+rs.length) us (LW S f i rs d):=by
 intro rs;induction rs with
 |nil=>intro us i d;rfl
 |cons r rs b=>
  intro us i d;simp only[ZSv,LW,b,ZSG];rw[show i+1+rs.length=i+(rs.length+1)by omega]
def BO{l:Type}{S:Nat->Bool}{f:Rc->Option l}{rs:List Rc}{i k:Nat}{d x:l}{r:Rc}(h:rs[k]?=some r)(m:f r=some x)(o:S (i+k)=true)
 (s:∀g e,k<g->rs[g]?=some e->(f e).isSome=true->S (i+g)=false):LW S f i rs d=x:=by
 have c:k<rs.length:=(ZSA.1 h).1;have p:rs.drop k=r::rs.drop (k+1):=by
  rw[ZTD c];rw[ZSu c]at h;cases h;rfl
 have n:rs=rs.take k++(r::rs.drop (k+1)):=by rw[<-p,ZTt]
 rw[n,Ru];have b:(rs.take k).length=k:=by simp;omega
 rw[b];simp only[LW,o,if_true,m,ZUv];refine Rt _ _ _<|λj e q a=>?_
 have:rs[k+1+j]?=some e:=by rw[<-ZU9];exact q
 have:=s (k+1+j) e (by omega) this a
 rw[show i+k+1+j=i+(k+1+j)by omega]
 exact this
def fD(t:Nat)(r:Rc):Option AV:=if r.dst=some t then some r.v else none
def Y0:Nat->Bool:=λ_=>true
def below(m:Nat):Nat->Bool:=λk=>decide (k<m)
def KT(k v:AV):Option AObj->Option AObj
 |some (.map ks vs)=>some<|.map (ks++[k])<|vs++[v]
 |d=>d
def gW(b:Nat)(r:Rc)(d:Option AObj):Option AObj:=
 match r.wr with
 |some (b',o)=>if b'=b then(match r.d.ik with|some (k,v)=>KT k v d|none=>some o)else d
 |none=>d
def YT(b:Nat)(r:Rc):Prop:=∃o,r.wr=some (b,o)
def V7{b:Nat}{r:Rc}(h:¬YT b r)(d:Option AObj):gW b r d=d:=by
 unfold gW;split
 .next c o a=>
  split
  .next e=>subst e;exact(h ⟨o,a⟩).elim
  .rfl
 .rfl
def VL{b:Nat}{r:Rc}{o:AObj}(a:r.wr=some (b,o))(c:r.d.ik=none)(d:Option AObj):gW b r d=some o:=by
 unfold gW;rw[a];simp[c]
def VM{b:Nat}{r:Rc}{o:AObj}{k v:AV}(a:r.wr=some (b,o))(c:r.d.ik=some (k,v))(d:Option AObj):gW b r d=KT k v d:=by
 unfold gW;rw[a];simp[c]
def LF(S:Nat->Bool)(b:Nat):Nat->List Rc->Option AObj->Option AObj
 |_,[],d=>d
 |i,r::rs,d=>LF S b (i+1) rs (if S i then gW b r d else d)
def VN{S a:Nat->Bool}{b:Nat}:∀(rs:List Rc)(i:Nat)(d:Option AObj),(∀k r,rs[k]?=some r->YT b r->S (i+k)=a (i+k))->LF S b i rs d=LF a b i rs d:=by
 intro rs;induction rs with
 |nil=>intro i d _;rfl
 |cons r rs h=>
  intro i d f;simp only[LF];have j:=f 0 r rfl;have e:(if S i then gW b r d else d)=if a i then gW b r d else d:=by
   by_cases c:YT b r
   .have:=j c;simp only[ZTc]at this;rw[this]
   .rw[V7 c];simp
  rw[e];exact h (i+1) _ (λk m l g=>by have:=f (k+1) m (by simpa using l) g;rw[show i+1+k=i+(k+1)by omega];exact this)
def U0{S:Nat->Bool}{b:Nat}:∀(rs:List Rc)(i:Nat)(d:Option AObj),(∀k r,rs[k]?=some r->YT b r->S (i+k)=false)->LF S b i rs d=d:=by
 intro rs;induction rs with
 |nil=>intro i d _;rfl
 |cons r rs g=>
  intro i d c;simp only[LF];have h:=c 0 r rfl;have e:(if S i then gW b r d else d)=d:=by
   by_cases a:YT b r
   .have:=h a;simp only[ZTc]at this;rw[this];simp
   .rw[V7 a];simp
  rw[e];exact g (i+1) _ (λk l j f=>by have:=c (k+1) l (by simpa using j) f;rw[show i+1+k=i+(k+1)by omega];exact this)
def VO{S:Nat->Bool}{b:Nat}:∀(rs us:List Rc)(i:Nat)(d:Option AObj),LF S b i (rs++us) d=LF S b (i+rs.length) us (LF S b i rs d):=by
 intro rs;induction rs with
 |nil=>intro us i d;rfl
 |cons r rs a=>
  intro us i d;simp only[ZSv,LF,a,ZSG];rw[show i+1+rs.length=i+(rs.length+1)by omega]
def Rv{rs:List Rc}{k:Nat}{r:Rc}(b:rs[k]?=some r):rs=rs.take k++(r::rs.drop (k+1))/\(rs.take k).length=k:=by
 have a:k<rs.length:=(ZSA.1 b).1;have c:rs.drop k=r::rs.drop (k+1):=by
  rw[ZTD a];rw[ZSu a]at b;cases b;rfl
 exact⟨by rw[<-c,ZTt],by simp;omega⟩
def BP{S:Nat->Bool}{b:Nat}{rs:List Rc}{i k:Nat}{d:Option AObj}{o:AObj}{r:Rc}(n:rs[k]?=some r)(m:r.wr=some (b,o))(f:r.d.ik=none)(h:S (i+k)=true)
 (p:∀e c,k<e->rs[e]?=some c->YT b c->S (i+e)=false):LF S b i rs d=some o:=by
 obtain⟨g,a⟩:=Rv n;rw[g,VO,a];simp only[LF,h,if_true,VL m f];refine U0 _ _ _<|λj c q l=>?_
 have:rs[k+1+j]?=some c:=by rw[<-ZU9];exact q
 have:=p (k+1+j) c (by omega) this l
 rw[show i+k+1+j=i+(k+1+j)by omega]
 exact this
def L8(fr:Fr)(d:Option Nat)(v:AV)(t:Nat):get (ZB fr d v) t=if d=some t then v else get fr t:=by
 cases d with
 |none=>simp[ZB]
 |some d=>
  simp only[ZB,put,get,Option.some.injEq];by_cases e:d=t
  .subst e;simp
  .have:(d==t)=false:=by simpa using e
   rw[this,cond_false,if_neg e]
def BQ(h:Hp)(a:Option<|Nat×AObj)(d:Ya h a=true)(b:Nat):(ZH h a)[b]?=match a with|some (c,o)=>if b=c then some o else h[b]? |none=>h[b]?:=by
 cases a with
 |none=>rfl
 |some p=>
  obtain⟨c,o⟩:=p;simp only[Ya,Nat.ble_eq]at d;exact Ks h c o d b
def BR{b:Nat}(rs:List Rc)(r:Rc)(d:Option AObj):LF Y0 b 0 (rs++[r]) d=gW b r (LF Y0 b 0 rs d):=by
 rw[VO];rfl
def L9{b:Nat}(rs us:List Rc)(d:Option AObj):LF (below rs.length) b 0 (rs++us) d=LF Y0 b 0 rs d:=by
 rw[VO,U0 us]
 .exact VN _ _ _ (λk r a _=>by
  have:=(ZSA.1 a).1;simp only[below,Y0,ZSE,decide_eq_true_eq];omega)
 .intro k r _ _;simp only[below,ZSE,decide_eq_false_iff_not];omega
def U1(d:DRec)(c:Option<|Nat×AObj)(h:Hp):Prop:=∀k v,d.ik=some (k,v)->∃b a vs,c=some (b,.map (a++[k])<|vs++[v])/\h[b]?=some (.map a vs)
def BS{a:Type}{f:Rc->Option a}(rs:List Rc)(r:Rc)(d:a):LW Y0 f 0 (rs++[r]) d=(f r).getD (LW Y0 f 0 rs d):=by
 rw[Ru];rfl
def BT{a:Type}{f:Rc->Option a}(rs us:List Rc)(d:a):LW (below rs.length) f 0 (rs++us) d=LW Y0 f 0 rs d:=by
 rw[Ru,Rt us]
 .exact Gs _ _ _ (λk r b _=>by
  have:=(ZSA.1 b).1;simp only[below,Y0,ZSE,decide_eq_true_eq];omega)
 .intro k r _ _;simp only[below,ZSE,decide_eq_false_iff_not];omega
structure Run(ex:AOper->Fr->Hp->Option (AV×DRec×Option (Nat×AObj)))(fr0:Fr)(h0:Hp)(qs:List AOper)(us:List<|List Nat)(rc:List Rc)(fr':Fr)(h':Hp):Prop where
 len:rc.length=qs.length
 op:∀i q,qs[i]?=some q->∃fr h r u,rc[i]?=some r/\us[i]?=some u/\ex q fr h=some (r.v,r.d,r.wr)/\r.dst=q.dst/\Ya h r.wr=true/\h.length<=(ZH h r.wr).length/\(ZH h r.wr).length<=h'.length/\
  (∀t,get fr t=LW (below i) (fD t) 0 rc (get fr0 t))/\(∀b,h[b]?=LF (below i) b 0 rc (h0[b]?))/\h0.length<=h.length/\U1 r.d r.wr h/\
  (∀j∈u,∃y,rc[j]?=some y/\j<i/\Qy r.d y.d=true)
 fr:∀t,get fr' t=LW Y0 (fD t) 0 rc (get fr0 t)
 hp:∀b,h'[b]?=LF Y0 b 0 rc (h0[b]?)
 grow:h0.length<=h'.length
def BU(h:Hp)(b:Nat)(o:AObj):h.length<=(setH h b o).length:=by
 unfold setH;cases Nat.blt b h.length<;>simp
def Rw(h:Hp)(a:Option<|Nat×AObj):h.length<=(ZH h a).length:=by
 cases a with
 |none=>exact ZSr _
 |some p=>exact BU h p.1 p.2
def BV{x:DRec}{a:List DRec}:∀{u:List Nat},Zv x a u=true->∀j∈u,∃y,a[j]?=some y/\Qy x y=true:=by
 intro u;induction u with
 |nil=>intro _ j c;cases c
 |cons i u e=>
  intro b j c;simp only[Zv,ZSq]at b;rcases ZST.1 c with rfl|c
  .cases d:a[j]? with
   |none=>rw[d]at b;cases b.1
   |some y=>rw[d]at b;exact⟨y,rfl,b.1⟩
  .exact e b.2 j c
def BW(N:AOper->Fr->Hp->Option (AV×DRec×Option (Nat×AObj)))(F:∀q fr h v d g,N q fr h=some (v,d,g)->U1 d g h)(C:Fr)(G:Hp):∀(E:List AOper)(us:List<|List Nat)(done:List Rc)(fr:Fr)(h:Hp)(l:Fr)(h':Hp),
 QH N E us fr h (done.map (·.d))=some (l,h')->(∀t,get fr t=LW Y0 (fD t) 0 done (get C t))->(∀b,h[b]?=LF Y0 b 0 done (G[b]?))->G.length<=h.length->
 ∃a:List Rc,a.length=E.length/\h.length<=h'.length/\
  (∀i q,E[i]?=some q->∃fr h r u,(done++a)[done.length+i]?=some r/\us[i]?=some u/\N q fr h=some (r.v,r.d,r.wr)/\r.dst=q.dst/\Ya h r.wr=true/\h.length<=(ZH h r.wr).length/\(ZH h r.wr).length<=h'.length/\
   (∀t,get fr t=LW (below<|done.length+i) (fD t) 0 (done++a) (get C t))/\(∀b,h[b]?=LF (below<|done.length+i) b 0 (done++a) (G[b]?))/\G.length<=h.length/\U1 r.d r.wr h/\
   (∀j∈u,∃y,(done++a)[j]?=some y/\j<done.length+i/\Qy r.d y.d=true))/\
  (∀t,get l t=LW Y0 (fD t) 0 (done++a) (get C t))/\(∀b,h'[b]?=LF Y0 b 0 (done++a) (G[b]?)):=by
 intro E;induction E with
 |nil=>
  intro us done fr h l h' c J K m;simp only[QH,Option.some.injEq,Prod.mk.injEq]at c;obtain⟨rfl,rfl⟩:=c;exact⟨[],rfl,ZSr _,λi q hq=>by simp at hq,by simpa using J,by simpa using K⟩
 |cons q E T=>
  intro us done fr h l h' c J K m;cases us with
  |nil=>simp[QH]at c
  |cons u us=>
   simp only[QH]at c;split at c
   .next v d g n=>
    cases f:(Zv d (done.map (·.d)) u&&Ya h g)with
    |false=>rw[f]at c;cases c
    |true=>
     rw[f]at c;simp only[cond_true]at c;simp only[ZSq]at f;obtain⟨Y,O⟩:=f
     let r:Rc:=⟨q.dst,v,g,d⟩
     have H:done.map (·.d)++[d]=(done++[r]).map (·.d):=by simp[r]
     rw[H]at c;obtain⟨a,S,L,P,R,Q⟩:=T us (done++[r]) (ZB fr q.dst v) (ZH h g) l h' c
      (λt=>by
       rw[BS,L8,J t];simp only[fD,r];by_cases e:q.dst=some t
       .rw[if_pos e,if_pos e];rfl
       .rw[if_neg e,if_neg e];rfl)
      (λb=>by
       rw[BR,BQ h g O,<-K b];cases g with
       |none=>rfl
       |some p=>
        obtain⟨W,o⟩:=p;dsimp only;by_cases e:b=W
        .subst e;rw[if_pos rfl];cases B:d.ik with
         |none=>exact(VL (r:=r) rfl B _).symm
         |some U=>
          obtain⟨k,x⟩:=U;obtain⟨b2,ks,vs,Z,X⟩:=F _ _ _ _ _ _ n k x B;cases Z;rw[VM (r:=r) rfl B,X];rfl
        .rw[if_neg e];exact(V7 (r:=r) (λ⟨o2,L⟩=>e<|by cases L;rfl) _).symm)
      (ZTa m<|Rw h g)
     have w:done++[r]++a=done++(r::a):=by simp
     rw[w]at P R Q;refine⟨r::a,by simp[S],ZTa (Rw h g) L,?_,R,Q⟩
     intro i q' s;cases i with
     |zero=>
      simp only[ZT6,Option.some.injEq]at s;subst s;refine⟨fr,h,r,u,by simp,rfl,n,rfl,O,Rw h g,L,λt=>?_,λb=>?_,m,F _ _ _ _ _ _ n,?_⟩
      .rw[ZTc,BT];exact J t
      .rw[ZTc,L9];exact K b
      .intro j V;obtain⟨y,D,f⟩:=BV Y j V;rw[ZT7]at D;cases A:done[j]? with
       |none=>rw[A]at D;cases D
       |some z=>
        rw[A]at D;simp only[ZT3,Option.some.injEq]at D;subst D;have M:=(ZSA.1 A).1;exact⟨z,by rw[ZT2 M];exact A,by omega,f⟩
     |succ i=>
      simp only[ZTp]at s⊢;have:=P i q' s;have hl:(done++[r]).length+i=done.length+(i+1):=by simp;omega
      rw[hl]at this;exact this
   .cases c
def BX{f:AOper->Fr->Hp->Option (AV×DRec×Option (Nat×AObj))}(j:∀q fr h v d l,f q fr h=some (v,d,l)->U1 d l h){a:Fr}{g:Hp}{k:List AOper}{us:List (List Nat)}{c:Fr}{h':Hp}(w:QH f k us a g []=some (c,h')):
 ∃s,Run f a g k us s c h':=by
 obtain⟨e,n,r,u,p,o⟩:=BW f j a g k us [] a g c h' w (λt=>rfl) (λb=>rfl)<|ZSr _
 refine⟨e,n,?_,by simpa using p,by simpa using o,r⟩
 intro i q m;have:=u i q m;simpa using this
variable {P:Program} {E:Env} {T:Ty} {X:Xt} {w:World} {h:Hp} {fr:Fr} {a:Act}
def BY{c:List Nat}{j:Nat}:∀(es:List Edge)(m:Nat),
 (es.foldl (λm e=>bif Region.binds .any e then(m ||| (1 <<< e.on)) ||| (c.getD e.on 0)else m) m).testBit j=true->
 m.testBit j=true\/∃e∈es,Region.binds .any e=true/\(j=e.on\/(c.getD e.on 0).testBit j=true):=by
 intro es;induction es with
 |nil=>intro m b;exact .inl b
 |cons e es d=>
  intro m b;simp only[ZTe]at b;rcases d _ b with h1|⟨e',h1,h2,h3⟩
  .cases a:Region.binds .any e with
   |false=>rw[a,cond_false]at h1;exact .inl h1
   |true=>
    rw[a,cond_true]at h1;simp only[Nat.testBit_or,ZTL]at h1;rcases h1 with(h1|h1)|h1
    .exact .inl h1
    .refine .inr ⟨e,by simp,a,.inl ?_⟩
     rw[Nat.one_shiftLeft,Nat.testBit_two_pow]at h1;exact(of_decide_eq_true h1).symm
    .exact .inr ⟨e,by simp,a,.inr h1⟩
  .exact .inr ⟨e',by simp[h1],h2,h3⟩
def BZ:∀(b:List Oper)(a:List Nat),∃r,YS b a=a++r/\r.length=b.length:=by
 intro b;induction b with
 |nil=>intro a;exact⟨[],by simp[YS],rfl⟩
 |cons o b d=>
  intro a;obtain⟨r,c,e⟩:=d<|a++[KM a o];exact⟨KM a o::r,by simp[YS,c],by simp[e]⟩
def Ta:∀(d:List Oper)(b:List Nat)(k:Nat)(o:Oper),d[k]?=some o->∃a r,(YS d b)=a++KM a o::r/\a.length=b.length+k:=by
 intro d;induction d with
 |nil=>intro b k o c;simp at c
 |cons f d h=>
  intro b k o c;cases k with
  |zero=>
   simp only[ZT6,Option.some.injEq]at c;subst c;obtain⟨r,e,g⟩:=BZ d<|b++[KM b f];exact⟨b,r,by simp[YS,e],rfl⟩
  |succ k=>
   simp only[ZTp]at c;obtain⟨a,r,e,g⟩:=h (b++[KM b f]) k o c;exact⟨a,r,by simp[YS,e],by simp at g;omega⟩
def Closed(a:Array Oper)(S:Nat->Bool):Prop:=∀i o,a[i]?=some o->S i=true->∀e∈o.after,Region.binds .any e=true->S e.on=true
def Gu{a:Array Oper}{S:Nat->Bool}(q:Closed a S):∀(i:Nat)(o:Oper),a[i]?=some o->(∀e∈o.after,Region.binds .any e=true->S e.on=true)->∀j,((YS a.toList []).getD i 0).testBit j=true->S j=true:=by
 intro i;induction i using Nat.strongRecOn with
 |_ i m=>
  intro o k p j f;obtain⟨n,r,g,h⟩:=Ta a.toList [] i o<|by simpa using k
  simp only[ZT1,ZSE]at h;rw[g,ZUG,ZTd (by omega),h,Nat.sub_self]at f
  simp only[ZT6,ZUv]at f;rcases BY _ _ f with h3|⟨e,h3,h4,h5⟩
  .simp at h3
  .have c:=p e (by simpa using h3) h4
   rcases h5 with rfl|h5
   .exact c
   .by_cases d:e.on<i
    .cases b:a[e.on]? with
     |none=>
      have s:a.size<=e.on:=by
       rcases ZTI e.on a.size with hx|hx
       .rw[ZTh hx]at b;cases b
       .exact hx
      have t:=(ZTi.1 k).1;omega
     |some l=>
      refine m e.on d l b (q e.on l b c) j ?_;rw[g,ZUG,ZT2 (by omega),<-ZUG]
      exact h5
    .rw[ZUG,ZTj<|by omega]at h5
     simp at h5
def La{fr a:Fr}{x:Arg}(b:∀t∈x.slots,get fr t=get a t):ev E fr x=ev E a x:=by
 cases x<;>first|rfl|exact b _<|by simp[Arg.slots]
def Lb{fr a:Fr}:∀{xs:List Arg},(∀t∈Xp xs,get fr t=get a t)->xs.map (ev E fr)=xs.map (ev E a):=by
 intro xs;induction xs with
 |nil=>intro _;rfl
 |cons x xs d=>
  intro c;simp only[ZSx];rw[La (x:=x)<|λt b=>c t<|by simp[Xp,b],d<|λt b=>c t<|by simp[Xp,b]]
def Tb{aid a sz:Nat}{fz:Bool}{b:List AV}{rs:List Nat}{r:Zt}(c:Yp aid fz sz b rs=some r)(d:r.2.2.map (·.1)≠some aid):Yp a fz sz b rs=some r:=by
 unfold Yp at c⊢;cases fz
 .simp only[cond_false,Option.some.injEq]at c;subst c;simp at d
 .exact c
def Tc{aid c sz b:Nat}{fz:Bool}{s x:AV}{r:Zt}(a:Qt h aid fz sz b s x=some r)(g:r.2.2.map (·.1)≠some aid):Qt h c fz sz b s x=some r:=by
 unfold Qt at a⊢;cases d:Q2 h s with
 |none=>rw[d]at a;cases a
 |some es=>
  cases e:Q2 h x with
  |none=>rw[d,e]at a;cases a
  |some ys=>
   rw[d,e]at a;dsimp only at a⊢;split at a
   .next i=>
    rw[if_pos i];cases f:ys.isEmpty with
    |true=>rw[f]at a;exact a
    |false=>
     rw[f]at a;rw[cond_false]at a⊢;split at a<;>first|exact Tb a g|exact a|cases a
   .cases a
def Td{aid f:Nat}{j:AOp}{r:Zt}(a:Z8 E fr h aid j=some r)(c:r.2.2.map (·.1)≠some aid):Z8 E fr h f j=some r:=by
 cases j<;>try exact a
 case own sz=>simp only[Z8,Option.some.injEq]at a;subst a;simp at c
 case mkm=>simp only[Z8,Option.some.injEq]at a;subst a;simp at c
 case box sz x=>
  simp only[Z8]at a;cases e:fits sz (ev E fr x)<;>rw[e]at a
  .cases a
  .simp only[cond_true,Option.some.injEq]at a;subst a;simp at c
 case ibox sz x=>
  simp only[Z8]at a⊢;cases e:fits sz (ev E fr x)<;>rw[e]at a
  .cases a
  .cases g:Z4 (ev E fr x).cells<;>cases l:Zi (ev E fr x).cells<;>rw[g,l]at a
   .simp only[cond_true,cond_false,Option.some.injEq]at a;subst a;simp at c
   .exact a
   .exact a
   .exact a
 case bsl fz ex sz z len ps=>
  simp only[Z8]at a⊢;split at a
  .next es q=>
   cases e:fits sz z<;>rw[e]at a
   .cases a
   .cases fz
    .simp only[cond_true,cond_false,Option.some.injEq]at a;subst a;simp at c
    .exact a
  .cases a
 case mks sz z bytes len cap=>
  simp only[Z8]at a;split at a
  .split at a
   .simp only[Option.some.injEq]at a;subst a;simp at c
   .cases a
  .cases a
 case rng x=>
  simp only[Z8]at a;split at a
  .simp only[Option.some.injEq]at a;subst a;simp at c
  .cases a
 case app fz sz bytes s x=>exact Tc a c
 case apr sz bytes s x=>
  simp only[Z8]at a⊢;cases d:Qt h aid false sz bytes (ev E fr s) (ev E fr x)with
  |none=>rw[d]at a;cases a
  |some k=>
   rw[d]at a;have m:k.2.2.map (·.1)≠some aid:=by
    obtain⟨v,rs,n⟩:=k;intro i;cases n with
    |none=>cases i
    |some p=>
     obtain⟨t,o⟩:=p;simp only[ZT3,Option.some.injEq]at i;subst i;unfold ZvE at a;dsimp only at a;split at a
     .next b=>
      simp only[Prod.mk.injEq,Option.some.injEq]at b;obtain⟨rfl,rfl,rfl,rfl⟩:=b;simp only[cond]at a;split at a
      .rename_i g;cases a;simp only[ZSq,beq_iff_eq]at g;exact c<|by rw[g.1];rfl
      .cases a
     .next b=>simp at b
     .next b=>simp at b
     .cases a
   rw[Tc d m];exact a
def Te{h':Hp}{n:Nat}{a as:List AV}(c:Zi a=true\/Le h h')(b:(bif Z4 a then some a else ZC true h n a)=some as):(bif Z4 a then some a else ZC true h' n a)=some as:=by
 cases d:Z4 a with
 |true=>rw[d]at b;exact b
 |false=>
  rw[d]at b;rw[cond_false]at b⊢;rcases c with c|c
  .rw[KP (h:=h') (h':=h) n a c];exact b
  .exact Wy c n a as b
def Tf{h':Hp}{a as:List AV}(c:Zi a=true\/Le h h')(b:Ql h a=some as):Ql h' a=some as:=Te (n:=40) c b
def ZPR{bw:Bool}{h h':Hp}(n:Nat)(v:AV)(f:so1 h v=true)(k:∀b∈sh1 v,∀o,h[b]?=some o->h'[b]?=some o):freeze bw h n v=freeze bw h' n v:=by
 cases v with
 |sl b g off e m=>
  cases n with
  |zero=>simp[freeze]
  |succ n=>
   have a:shr h b=true:=f;unfold shr at a;cases d:h[b]? with
   |none=>rw[d]at a;cases a
   |some o=>
    have j:=k b (by simp[sh1]) o d
    rw[d]at a;cases o with
    |row sz es=>
     have i:Zi ((es.drop off).take e)=true:=KF.2 λc l=>KF.1 (XW es a) c<|ZUh<|ZTQ l
     simp only[freeze,d,j,KP (h:=h) (h':=h') n _ i]
    |_=>cases a
 |_=>exact MU n _ f
def ZPS{bw:Bool}{h h':Hp}:∀(n:Nat)(l:List AV),ZOJ h l=true->(∀b∈ZOI l,∀o,h[b]?=some o->h'[b]?=some o)->ZC bw h n l=ZC bw h' n l
 |0,l,_,_=>by cases l<;>simp[ZC]
 |n+1,[],_,_=>by simp[ZC]
 |n+1,v::r,hs,hb=>by
  simp only[ZOJ,ZSq]at hs;simp only[ZOI,ZSQ]at hb;simp only[ZC,ZPR n v hs.1<|λb a=>hb b<|.inl a,ZPS n r hs.2<|λb a=>hb b<|.inr a]
def ZQC{bw:Bool}{h h':Hp}(n:Nat)(v:AV)(a:so2 h v=true)(c:∀b∈sh2 v,∀o,h[b]?=some o->h'[b]?=some o):freeze bw h n v=freeze bw h' n v:=by
 cases v with
 |agg cs=>
  cases n with
  |zero=>simp[freeze]
  |succ n=>simp only[freeze,ZPS n cs a c]
 |_=>exact ZPR n _ a c
def ZPT{bw:Bool}{h h':Hp}:∀(n:Nat)(l:List AV),ZOj h l=true->(∀b∈ZOA l,∀o,h[b]?=some o->h'[b]?=some o)->ZC bw h n l=ZC bw h' n l
 |0,l,_,_=>by cases l<;>simp[ZC]
 |n+1,[],_,_=>by simp[ZC]
 |n+1,v::r,hs,hb=>by
  simp only[ZOj,ZSq]at hs;simp only[ZOA,ZSQ]at hb;simp only[ZC,ZQC n v hs.1<|λb a=>hb b<|.inl a,ZPT n r hs.2<|λb a=>hb b<|.inr a]
def ZQD{h h':Hp}{a as:List AV}(d:ZOj h a=true)(e:∀b∈ZOA a,∀o,h[b]?=some o->h'[b]?=some o)(c:Ql h a=some as):Ql h' a=some as:=by
 unfold Ql at c⊢;rw[<-ZPT 40 a d e];exact c
def ZQE(h:Hp)(a:List AV):(ZO9 h a).ik=none:=by
 unfold ZO9 cRc;cases Zi a with
 |true=>rfl
 |false=>cases ZOj h a<;>rfl
def ZQF(h:Hp)(a:List AV):(ZO9 h a).wr=none:=by
 unfold ZO9 cRc;cases Zi a with
 |true=>rfl
 |false=>cases ZOj h a<;>rfl
def Lc{k f:Nat}{a:List AV}{g h':Hp}{v:AV}(j:∀as,Ql h a=some as->Ql h' a=some as)(b:Qm E k true f a h=some (v,g)):g=h/\Qm E k true f a h'=some (v,h'):=by
 cases k with
 |zero=>simp[Qm]at b
 |succ k=>
  simp only[Qm]at b⊢;cases c:Ql h a with
  |none=>rw[c]at b;cases b
  |some as=>
   rw[c]at b;rw[j _ c];dsimp only at b⊢;cases e:Qz E k f as []with
   |none=>rw[e]at b;cases b
   |some p=>
    obtain⟨u,i⟩:=p;rw[e]at b;dsimp only at b⊢;cases d:YE i u with
    |none=>rw[d]at b;cases b
    |some x=>
     rw[d]at b;cases b;exact⟨rfl,rfl⟩
end Go.AM
namespace Go.AM
open Go
variable [Dr]
variable {P:Program} {E:Env} {T:Ty} {X:Xt} {w:World} {h:Hp} {fr:Fr} {a:Act}
def Gv{k:Nat}{q:AOper}{v:AV}{d:DRec}{b:Option (Nat×AObj)}(e:q.op.isCall=false)(f:ZJ fr q.guard=some true)(a:Zk E (k+1) q fr h=some (v,d,b)):
 Z8 E (Z2 q.op.slots fr) h h.length q.op=some (v,(Z8 E (Z2 q.op.slots fr) h h.length q.op).get!.2.1,b)/\d=QG E (Z2 q.op.slots fr) h q.op b:=by
 obtain⟨j,i,g⟩:=q;simp only[Zk,f]at a;cases i<;>first
  |(simp[AOp.isCall]at e;done)
  |(simp only[ZSD]at a
    obtain⟨⟨v',rs,c⟩,h1,h2⟩:=a;simp only[Prod.mk.injEq]at h2;obtain⟨rfl,rfl,rfl⟩:=h2;exact⟨by rw[h1];rfl,rfl⟩)
def ZGC{s:List AV->Nat->List AV->Option (List AV)}{f:Hp}{a:List AV}{r:AV×Option (Nat×AObj)}(c:ZE8 s h a=some r)(d:∀b∈ZEZ a,∀o,h[b]?=some o->f[b]?=some o):ZE8 s f a=some r:=by
 unfold ZE8 at c⊢;split at c
 .rename_i b g off m n l;cases e:h[b]? with
  |none=>rw[e]at c;cases c
  |some o=>
   rw[e]at c;rw[d b (by simp[ZEZ]) o e]
   exact c
 .exact c
 .rename_i b l;split at c
  .rename_i i j k;rw[d b (by simp[ZEZ]) _ i,d (b+1) (by simp[ZEZ]) _ j,d (b-1) (by simp[ZEZ]) _ k]
   exact c
  .cases c
 .cases c
def Lf{k:Nat}(ih:AllOk P E k){q:AOper}{v:AV}{d:DRec}{wr:Option (Nat×AObj)}(r:Zk E (k+1) q fr h=some (v,d,wr)){C:Fr}{K:Hp}
 (W:∀t∈q.reads,get C t=get fr t) (H:q.op.isCall=true->∀(b:Nat)(o:AObj),h[b]?=some o->(d.all=true\/b∈d.rs)->K[b]?=some o) {wrS:Option (Nat×AObj)}
 (au:q.op.isCall=false->ZJ fr q.guard=some true->∃rs aid,aid<=K.length/\T aid=none/\Z8 E (Z2 q.op.slots fr) K aid q.op=some (v,rs,wrS))
 (ag:(q.op.isCall=true\/ZJ fr q.guard=some false)->wrS=wr)
 {N:Nat} {al:Array Oper} {o:Oper} {aa sz:Nat} {ro:Option Nat} {n:Nat} (ab:X.cr=Chk P) (hN:N<=sz) (hc:X6 P N al o q=true) (s:St E T X K w C aa sz a) (next:Act->World->Prop) (Q:Exit->Act->World->Prop)
 (hn:∀L a' w',Step T w L w'->St E L X (ZH K wrS) w' (ZB C q.dst v) aa sz a'->next a' w'):
 if Region.wanted o (yielded al a.tmps)=true then o.wpIn (Qa ro) n P a w next Q else(∀f,o.about P w a.eval=some f->(Qa ro).fn f)/\next (a.put o.dst undef) w:=by
 simp only[X6,ZSq]at hc;obtain⟨⟨hd,hg⟩,i⟩:=hc;have aq:N<=a.tmps.size:=by rw[s.sz];exact hN
 have ah:ZJ C q.guard=ZJ fr q.guard:=by
  unfold ZJ;cases av:q.guard with
  |none=>rfl
  |some p=>
   obtain⟨t,b⟩:=p;dsimp only;rw[W t<|by simp[AOper.reads,av,MN]]
 have B:∀t∈q.op.slots,get C t=get fr t:=λt ht=>W t<|by simp[AOper.reads,ht]
 cases Z:ZJ fr q.guard with
 |none=>simp[Zk,Z]at r
 |some b=>
  rw[Z]at ah;rw[MM s.f aq hg ah];cases b with
  |false=>
   simp only[Zk,Z,Option.some.injEq,Prod.mk.injEq]at r;obtain⟨rfl,rfl,rfl⟩:=r;cases ag (.inr Z);rw[if_neg<|by simp]
   exact⟨λ_ _=>VK _ _,hn T _ w (.refl _ _)<|Gi s hN hd (.refl _ _) s.c.m ⟨#[],rfl,rfl⟩⟩
  |true=>
   rw[if_pos rfl];refine⟨λ_ _=>VK _ _,?_⟩
   have D:∀{rv:Value}{L:Ty}{w':World},Step T w L w'->M L X (ZH K wrS) w'->R L X w' v rv->next (a.put o.dst rv) w':=by
    intro rv L w' O m Y;exact hn L _ w' O<|Gi s hN hd O m Y
   cases A:q.op.isCall with
   |false=>
    have i:Gb P o.op q.op=true:=by
     obtain⟨ap,op,gd⟩:=q;cases op<;>first|exact i|cases A
    have ax:∀c,o.op≠.defer c:=λc e=>by rw[e,L0]at i;cases i
    rw[Oper.semAt_eq _ _ _ ax];have an:FrR T X w (Z2 q.op.slots fr) a.tmps:=by
     intro t;rw[L3];split
     .next ht=>rw[<-B t ht];exact s.f t
     .trivial
    obtain⟨rs,aid,k1,k2,k3⟩:=au A Z;obtain⟨L,w',rv,l,O,m',Y⟩:=MZ s.c an k1 k2 i k3;rcases l with l|⟨l,rfl⟩
    .rw[l];exact D O m' Y
    .rw[l];exact D O m' Y
   |true=>
    cases ag (.inl A);have u:=H A;obtain⟨ap,op,gd⟩:=q;cases op<;>try (simp[AOp.isCall]at A;done)
    case apa sz1 bytes x1 x2=>simp[Zk,Z,Z8]at r
    case call p f args=>
     have i:Wx o.op (.call p f args)=true:=i;simp only[Zk,Z]at r;cases p with
     |false=>
      rw[cond_false]at r;cases af:E.rs f with
      |none=>rw[af]at r;cases r
      |some sf=>
       rw[af]at r;simp only[ZEn,ZSD,Prod.mk.injEq]at r;obtain⟨⟨v',aj⟩,hr,rfl,rfl,rfl⟩:=r;have z:args.map (ev E C)=args.map (ev E fr):=Lb B;have G:ZE8 sf K (args.map<|ev E C)=some (v',aj):=by
        rw[z];refine ZGC hr λb hb o F=>u b o F<|.inr hb
       cases F:o.op<;>rw[F]at i<;>try (simp[Wx]at i;done)
       next c=>
       simp only[Wx,ZSq]at i;obtain⟨j,V⟩:=i;rw[Oper.semAt_eq _ _ _<|λc e=>by rw[F]at e;cases e]
       have J:c.callee=.value (.func f):=by
        split at j
        .next g H=>rw[H];simp at j;rw[j]
        .cases j
       have l:(execOp a.eval o).run P w=(callFunc f<|(#[]++c.args.map a.eval)++#[]).run P w:=by
        simp only[execOp,F,resolve,J,Act.eval,Deferred.ofValue,Sem.run_bind,Sem.run_pure,Result.andThen_ok,invoke]
       rw[l];have U:=VF (a:=a) s.c.gl s.f V;have:=ih.rsum f sf af _ K v' aj G T X w ((#[]++c.args.map a.eval)++#[]) ab s.c<|by simpa using U
       refine this.upon ?_;rintro rv w' ⟨L,O,m',Y⟩;exact D O m' Y
     |true=>
      rw[cond_true]at r;split at r
      .next v' h2 hr=>
       simp only[Option.some.injEq,Prod.mk.injEq]at r;obtain⟨rfl,rfl,rfl⟩:=r;have ae:∀as,Ql h (args.map<|ev E fr)=some as->Ql K (args.map<|ev E fr)=some as:=by
        cases S:Zi (args.map<|ev E fr)with
        |true=>exact λas=>Tf<|.inl S
        |false=>
         cases ac:ZOj h (args.map<|ev E fr)with
         |true=>exact λas=>ZQD ac<|λb hb ob F=>u b ob F<|.inr<|by unfold ZO9 cRc;rw[S];dsimp only;rw[ac];exact hb
         |false=>exact λas=>Tf<|.inr λb ob hb=>u b ob hb<|.inl<|by unfold ZO9 cRc;rw[S];dsimp only;rw[ac];rfl
       obtain⟨_,G⟩:=Lc ae hr;have z:args.map (ev E C)=args.map (ev E fr):=Lb B;rw[<-z]at G;cases F:o.op<;>rw[F]at i<;>try (simp[Wx]at i;done)
       next c=>
       simp only[Wx,ZSq]at i;obtain⟨j,V⟩:=i;rw[Oper.semAt_eq _ _ _<|λc e=>by rw[F]at e;cases e]
       have J:c.callee=.value (.func f):=by
        split at j
        .next g H=>rw[H];simp at j;rw[j]
        .cases j
       have l:(execOp a.eval o).run P w=(callFunc f<|(#[]++c.args.map a.eval)++#[]).run P w:=by
        simp only[execOp,F,resolve,J,Act.eval,Deferred.ofValue,Sem.run_bind,Sem.run_pure,Result.andThen_ok,invoke]
       rw[l];have U:=VF (a:=a) s.c.gl s.f V;have:=ih.call true f _ K v' K G T X w ((#[]++c.args.map a.eval)++#[]) ab s.c<|by simpa using U
       refine this.upon ?_;rintro rv w' ⟨L,O,m',Y⟩;exact D O m' Y
      .cases r
    case callv p x args=>
     have i:Wx o.op (.callv p x args)=true:=i;simp only[Zk,Z]at r;cases p with
     |false=>cases r
     |true=>
      rw[cond_true]at r;split at r
      .next g first cap hx=>
       split at r
       .next v' h2 hr=>
        simp only[Option.some.injEq,Prod.mk.injEq]at r;obtain⟨rfl,rfl,rfl⟩:=r;have ae:Zi (first++args.map (ev E fr)++cap)=true\/Le h K:=by
         cases S:Zi (first++args.map (ev E fr)++cap)with
         |true=>exact .inl rfl
         |false=>exact .inr λb ob hb=>u b ob hb<|.inl<|by rw[S];rfl
        obtain⟨_,G⟩:=Lc (λas=>Tf ae) hr
        have z:args.map (ev E C)=args.map (ev E fr):=Lb<|λt ht=>B t<|by simp[AOp.slots,ht]
        have ar:ev E C x=ev E fr x:=La<|λt ht=>B t<|by simp[AOp.slots,ht]
        rw[<-z]at G;cases F:o.op<;>rw[F]at i<;>try (simp[Wx]at i;done)
        next c=>
        simp only[Wx,ZSq]at i;obtain⟨j,V⟩:=i;rw[Oper.semAt_eq _ _ _<|λc e=>by rw[F]at e;cases e]
        split at j
        .next y H=>
         have l:(execOp a.eval o).run P w=(do let d <-Deferred.ofValue (a.eval y) (c.args.map a.eval);invoke d.target d.args:Sem Next).run P w:=by
          simp only[execOp,F,resolve,H]
         have ak:=evR s.c.gl s.f j;rw[ar,hx]at ak;obtain⟨f1,c1,aw,q1,q2⟩:=ak;have ad:(do let d <-Deferred.ofValue (.func (.func g) f1 c1) (c.args.map a.eval);invoke d.target d.args:Sem Next).run P w=(callFunc g<|(f1++c.args.map a.eval)++c1).run P w:=by
          simp only[Deferred.ofValue,Sem.run_bind,Sem.run_pure,Result.andThen_ok,invoke]
         rw[l,aw,ad];have U:=VF (a:=a) s.c.gl s.f V;have am:=QR (QR q1 U) q2;have:=ih.call true g _ K v' K G T X w ((f1++c.args.map a.eval)++c1) ab s.c<|by simpa using am
         refine this.upon ?_;rintro rv w' ⟨L,O,m',Y⟩;exact D O m' Y
        .cases j
       .cases r
      .cases r
def Tg{f:AOp}{p:AV×AV}(a:Wm E fr h f=some p):∃d c m k v b e vs,f=.ins d c m k v/\ev E fr m=.mp b/\h[b]?=some (.map e vs)/\ZW d c (ev E fr k) e 0=some none/\p=(ev E fr k,ev E fr v):=by
 cases f<;>simp only[Wm,reduceCtorEq]at a
 case ins d c m k v=>
  split at a
  .next b j=>
   split at a
   .next e vs l=>
    split at a
    .next i=>
     cases g:YF (ev E fr k) (ev E fr k)with
     |true=>rw[g]at a;cases a
     |false=>
      rw[g]at a;simp only[cond_false,Option.some.injEq]at a;exact⟨d,c,m,k,v,b,e,vs,rfl,j,l,i,a.symm⟩
    .cases a
   .cases a
  .cases a
def Th{a:AOp}{b:Option (Nat×AObj)}(d:(QG E fr h a b).ik=none):QG E fr h a b=⟨false,opT E fr a,b.map (·.1),none⟩:=by
 cases c:Wm E fr h a with
 |none=>simp only[QG,c]
 |some p=>simp[QG,c]at d
def Ti{a:AOp}{c:Option (Nat×AObj)}{p:AV×AV}(b:(QG E fr h a c).ik=some p):Wm E fr h a=some p/\QG E fr h a c=⟨false,[],c.map (·.1),some p⟩:=by
 cases d:Wm E fr h a with
 |none=>simp[QG,d]at b
 |some q=>
  simp only[QG,d,Option.some.injEq]at b;subst b;exact⟨rfl,by simp only[QG,d]⟩
def Tj{d:Bool}{c:List Nat}{b:Nat}{f vs:List AV}{k v:AV}{r:Zt}(h:ZW d c k f 0=some none)(a:Yo d c b f vs k v=some r):
 (∃e,Zz d c k k=some e)/\r=(.bot,[b],some (b,.map (f++[k])<|vs++[v])):=by
 unfold Yo at a;rw[h]at a;cases g:Zz d c k k with
 |none=>rw[g]at a;cases a
 |some e=>rw[g]at a;cases a;exact⟨⟨e,rfl⟩,rfl⟩
def Lg{k:Nat}{q:AOper}{v:AV}{d:DRec}{F:Option (Nat×AObj)}(a:Zk E k q fr h=some (v,d,F)){l y:AV}(c:d.ik=some (l,y)):
 ∃o r m A w b u vs e,q.op=.ins o r m A w/\ZJ fr q.guard=some true/\ev E (Z2 q.op.slots fr) m=.mp b/\l=ev E (Z2 q.op.slots fr) A/\y=ev E (Z2 q.op.slots fr) w/\h[b]?=some (.map u vs)/\ZW o r l u 0=some none/\
  Zz o r l l=some e/\v=.bot/\F=some (b,.map (u++[l])<|vs++[y])/\d=⟨false,[],some b,some (l,y)⟩:=by
 cases k with
 |zero=>simp[Zk]at a
 |succ k=>
  cases n:ZJ fr q.guard with
  |none=>simp[Zk,n]at a
  |some L=>
   cases L with
   |false=>
    simp only[Zk,n,Option.some.injEq,Prod.mk.injEq]at a;obtain⟨_,rfl,_⟩:=a;cases c
   |true=>
    cases G:q.op.isCall with
    |true=>
     exfalso;obtain⟨J,H,g⟩:=q;cases H<;>try (simp[AOp.isCall]at G;done)
     case apa sz1 bytes x1 x2=>simp[Zk,n,Z8]at a
     case call p f args=>
      simp only[Zk,n]at a;cases p with
      |false=>
       rw[cond_false]at a;cases s:E.rs f with
       |none=>rw[s]at a;cases a
       |some P=>
        rw[s]at a;simp only[ZEn,ZSD,Prod.mk.injEq]at a;obtain⟨_,_,_,rfl,_⟩:=a;cases c
      |true=>
       rw[cond_true]at a;split at a
       .cases a;rw[ZQE]at c;cases c
       .cases a
     case callv p x args=>
      simp only[Zk,n]at a;cases p with
      |false=>cases a
      |true=>
       rw[cond_true]at a;split at a
       .split at a
        .cases a;cases c
        .cases a
       .cases a
    |false=>
     obtain⟨C,N⟩:=Gv G n a;subst N;obtain⟨O,K⟩:=Ti c;obtain⟨o,r,m,A,w,b,u,vs,i,z,D,t,M⟩:=Tg O;cases M;generalize(Z8 E (Z2 q.op.slots fr) h h.length q.op).get!.2.1=rs at C;have j:=C;rw[i]at j;rw[i]at z t;simp only[Z8,z,D]at j;obtain⟨⟨e,B⟩,q7⟩:=Tj t j;simp only[Prod.mk.injEq]at q7;obtain⟨rfl,rfl,rfl⟩:=q7;rw[<-i]at z t B;exact⟨o,r,m,A,w,b,u,vs,e,i,rfl,z,by rw[i],by rw[i],D,by rw[i]at t⊢;exact t,by rw[i]at B⊢;exact B,rfl,by rw[i],by rw[K,i];rfl⟩
def Tk{k:Nat}(q:AOper)(fr:Fr)(h:Hp)(v:AV)(d:DRec)(c:Option<|Nat×AObj)(f:Zk E k q fr h=some (v,d,c)):U1 d c h:=by
 intro l j a;obtain⟨_,_,_,_,_,b,g,vs,_,_,_,_,_,_,i,_,_,_,e,_⟩:=Lg f a;exact⟨b,g,vs,e,i⟩
def Tl{k:Nat}(S:AllOk P E k){q:AOper}{v:AV}{d:DRec}{x:Option (Nat×AObj)}(R:Zk E (k+1) q fr h=some (v,d,x))(H:d.ik=none){u:Fr}{i:Hp}
 (r:∀t∈q.reads,get u t=get fr t) (e:∀(b:Nat)(o:AObj),h[b]?=some o->(d.all=true\/b∈d.rs)->i[b]?=some o) (B:h.length<=i.length)
 (K:∀o,x=some (h.length,o)->i[h.length]?=none\/i[h.length]?=some .dead)
 {N:Nat} {C:Array Oper} {o:Oper} {j sz:Nat} {ro:Option Nat} {n:Nat} (G:X.cr=Chk P) (W:N<=sz) (Y:X6 P N C o q=true) (s:St E T X i w u j sz a) (next:Act->World->Prop) (Q:Exit->Act->World->Prop)
 (U:∀L O w',Step T w L w'->St E L X (ZH i x) w' (ZB u q.dst v) j sz O->next O w'):
 if Region.wanted o (yielded C a.tmps)=true then o.wpIn (Qa ro) n P a w next Q else(∀f,o.about P w a.eval=some f->(Qa ro).fn f)/\next (a.put o.dst undef) w:=by
 refine Lf S R r (λ_ b o F D=>e b o F D) (wrS:=x) ?_ (λ_=>rfl) G W Y s next Q U
 .intro l V;obtain⟨y,M⟩:=Gv l V R;have A:=M;rw[Th<|by rw[<-M];exact H]at A
  have Z:Z8 E (Z2 q.op.slots fr) i h.length q.op=Z8 E (Z2 q.op.slots fr) h h.length q.op:=by
   refine Bv λb F=>?_
   obtain⟨J,z⟩:=Bw y b F;rw[z];exact e b J z<|.inr<|by rw[A];exact F
  generalize(Z8 E (Z2 q.op.slots fr) h h.length q.op).get!.2.1=rs at y;rw[<-Z]at y;by_cases g:x.map (·.1)=some h.length
  .cases x with
   |none=>cases g
   |some p=>
    obtain⟨b,J⟩:=p;simp only[ZT3,Option.some.injEq]at g;subst g;exact⟨rs,h.length,B,JR s.c.m<|K J rfl,y⟩
  .exact⟨rs,i.length,ZSr _,Gn s.c.m,Td y g⟩
def Tm{k:Nat}(ih:AllOk P E k){q:AOper}{v:AV}{d:DRec}{O:Option (Nat×AObj)}(Y:Zk E (k+1) q fr h=some (v,d,O)){r B:AV}(J:d.ik=some (r,B)){A:Fr}{p:Hp}
 (z:∀t∈q.reads,get A t=get fr t) {b:Nat} {o:AObj} (K:O=some (b,o)) {i l:List AV} (hb:p[b]?=some (.map i l))
 (hf:∀u x e,Zz u x r r=some e->(∃G vs,h[b]?=some (.map G vs)/\ZW u x r G 0=some none)->ZW u x r i 0=some none)
 {N:Nat} {F:Array Oper} {C:Oper} {y sz:Nat} {ro:Option Nat} {n:Nat} (H:X.cr=Chk P) (hN:N<=sz) (hc:X6 P N F C q=true) (s:St E T X p w A y sz a) (next:Act->World->Prop) (Q:Exit->Act->World->Prop)
 (hn:∀U W w',Step T w U w'->St E U X (setH p b<|.map (i++[r])<|l++[B]) w' (ZB A q.dst v) y sz W->next W w'):
 if Region.wanted C (yielded F a.tmps)=true then C.wpIn (Qa ro) n P a w next Q else(∀f,C.about P w a.eval=some f->(Qa ro).fn f)/\next (a.put C.dst undef) w:=by
 obtain⟨u,x,m,Z,M,b',G,vs,e,V,S,q3,q4,q5,q6,q7,R,q9,D,aa⟩:=Lg Y J;rw[K]at D;cases D;have j:q.op.isCall=false:=by rw[V];rfl
 refine Lf ih Y z (λg=>by rw[j]at g;cases g) (wrS:=some (b,.map (i++[r])<|l++[B])) ?_ ?_ H hN hc s next Q hn
 .intro _ _;refine⟨[b],p.length,ZSr _,Gn s.c.m,?_⟩;have L:=hf u x e R ⟨G,vs,q6,q7⟩;have e1:Z8 E (Z2 q.op.slots fr) p p.length (.ins u x m Z M)=Yo u x b i l r B:=by
   simp only[Z8,q3,hb,<-q4,<-q5]
  have e2:Yo u x b i l r B=some (.bot,[b],some (b,.map (i++[r])<|l++[B])):=by
   unfold Yo;rw[R,L]
  have e3:Z8 E (Z2 q.op.slots fr) p p.length q.op=Z8 E (Z2 q.op.slots fr) p p.length (.ins u x m Z M):=by rw[V]
  rw[e3,e1,e2,q9]
 .rintro(g|hw)
  .rw[j]at g;cases g
  .rw[hw]at S;cases S
end Go.AM
