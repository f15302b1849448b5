/- The code of the abstract machine for the functions that the statement ClaimsMatchesReference reaches. No condition. -/
import Derived.Test.YtbnmnkpkjmoehaaGreatDoorQ3
import Derived.Test.YtbnmnkpkjmoehaaGreatDoorProg
set_option linter.unusedVariables false
set_option linter.defProp false
set_option linter.unusedSimpArgs false
set_option linter.unusedSectionVars false
namespace Go.AM
open Go
inductive CoTy where
 |b|i (k:IntKind)|s|sl (e by':Nat)|st (fs:List Nat)|ar (n e:Nat)|mp (k v:Nat)|p|f|j|o
structure CoCx where
 T:Nat->CoTy
 e:ByteArray
 S:List<|Nat×ByteArray
 H:List<|Nat×Nat
 N:Nat->ACode
def ZvB{α:Type}(d:α):List α->Nat->α
 |[],_=>d
 |x::r,n=>bif n==0 then x else ZvB d r<|n-1
def Zwo(T:Nat->CoTy):Nat->Nat->Nat
 |0,_=>1
 |n+1,t=>match T t with
  | .st fs=>fs.foldr (λf s=>Zwo T n f+s) 0
  | .ar k e=>k*Zwo T n e
  |_=>1
def Zw0(T:Nat->CoTy)(e:ByteArray):Nat->Nat->List AV
 |0,_=>[]
 |n+1,t=>match T t with
  | .b=>[.bool false]
  | .i k=>[.int k 0]
  | .s=>[.str e]
  | .sl x _=>[.isl false false (Zwo T n x) []]
  | .st fs=>fs.foldr (λf s=>Zw0 T e n f++s) []
  | .ar k x=>(List.replicate k<|Zw0 T e n x).flatten
  | .mp _ _=>[.nilmap]
  | .p=>[.nilp]
  | .f=>[.nilfn]
  | .j=>[.nilif]
  | .o=>[.bot]
def ZvR(T:Nat->CoTy):Nat->Nat->List Nat
 |0,_=>[]
 |n+1,t=>match T t with
  | .b=>[0]
  | .i _=>[1]
  | .s=>[2]
  | .st fs=>fs.foldr (λf s=>ZvR T n f++s) []
  | .ar k x=>(List.replicate k<|ZvR T n x).flatten
  |_=>[]
def Zw1:CoTy->Bool
 | .st _| .ar _ _=>true
 |_=>false
def ZwJ(b:Bool):AV->AV
 | .isl w _ n l=>.isl w b n l
 |v=>v
def ZvK(X:CoCx)(top:Bool)(t:Nat):AV:=match X.T t with
 | .st _| .ar _ _=>.agg<|Zw0 X.T X.e 9 t
 |_=>ZwJ top<|ZvB .bot (Zw0 X.T X.e 9 t) 0
def ZxZ:AV->AV
 | .agg cs=>.agg<|cs.map<|ZwJ true
 |v=>ZwJ true v
def Zvk(X:CoCx)(t:Nat):Nat:=Zwo X.T 9 t
def ZwK(X:CoCx)(t:Nat):Option Nat:=bif Zw1 (X.T t)then some (Zvk X t)else none
def ZvC(X:CoCx)(t:Nat):Nat:=match X.T t with
 | .sl e _=>e
 | .ar _ e=>e
 |_=>0
def ZwL(X:CoCx)(t:Nat):Nat:=match X.T t with
 | .sl _ y=>y
 |_=>0
def Zwp(X:CoCx)(t:Nat):List Nat:=match X.T t with
 | .st fs=>fs
 |_=>[]
def ZwM(X:CoCx)(t i:Nat):Nat:=((Zwp X t).take i).foldr (λf s=>Zvk X f+s) 0
def ZFJ(e:ByteArray)(k:Nat):List (Nat×ByteArray)->ByteArray
 |[]=>e
 |p::r=>bif p.1==k then p.2 else ZFJ e k r
def Zzy(X:CoCx)(h:Nat)(ex:Bool)(t:Nat):Value->AV
 | .bool b=>.bool b
 | .int k n=>.int k n
 | .string s=>.str (match s.data.toList with|[]=>X.e|l=>ZFJ X.e (l.foldl (λn b=>256*n+b.toNat) 1) X.S)
 | .pointer _=>.nilp
 | .slice _ _ _=>.isl false ex (Zvk X<|ZvC X t) []
 | .map _=>.nilmap
 | .nilFunc=>.nilfn
 | .nilIface=>.nilif
 | .agg _=>ZvK X false t
 |_=>.bot
def Zr1(X:CoCx)(h:Nat)(ex:Bool)(t:Nat):Operand->Arg
 | .tmp t=>.t t
 | .const v=>.c<|Zzy X h ex t v
 | .func f=>.f f
 | .global g=>.g g
def Zw2(X:CoCx)(h:Nat)(ex:Bool):List Operand->List Nat->List Arg
 |x::r,t::ts=>Zr1 X h ex t x::Zw2 X h ex r ts
 |x::r,[]=>Zr1 X h ex 0 x::Zw2 X h ex r []
 |[],_=>[]
def Zzz(X:CoCx)(h:Nat)(c:Call):AOp:=
 let ts:=c.argTypes.toList
 let t:=ZvB 0 ts 0
 match c.callee,c.args.toList with
 | .builtin .len,[x]=>.len (match X.T t with| .s=>0| .sl _ _=>1|_=>2)<|Zr1 X h false t x
 | .builtin .min,[x,y]=>.mm false (Zr1 X h false t x)<|Zr1 X h false t y
 | .builtin .max,[x,y]=>.mm true (Zr1 X h false t x)<|Zr1 X h false t y
 | .builtin .append,[x,y]=>
  bif h%16==3 then .apa (Zvk X<|ZvC X t) (ZwL X t) (Zr1 X h true t x) (Zr1 X h false t y)else bif h%16==2 then .apr (Zvk X<|ZvC X t) (ZwL X t) (Zr1 X h true t x) (Zr1 X h false t y)else .app (h%16==1) (Zvk X<|ZvC X t) (ZwL X t) (Zr1 X h true t x)<|Zr1 X h false t y
 | .value (.func f),l=>.call (h%2==0) f<|Zw2 X h (h/2%2==1) l ts
 | .value x,l=>.callv (h%2==0) (Zr1 X h false 0 x)<|Zw2 X h false l ts
 |_,_=>.bad
def ZzA(X:CoCx)(h:Nat)(ty:Nat):Op->AOp
 | .move x| .assign x=>bif h%16==1 then .own (Zvk X<|ZvC X ty)else bif h%16==2 then .rel (Zr1 X h false ty x)else .mv<|Zr1 X h false ty x
 | .pick a b c=>.pick (Zr1 X h false 0 a) (Zr1 X h false ty b)<|Zr1 X h false ty c
 | .alloc t=>bif h%2==0 then .ibox (Zvk X t) (.c<|bif h/2%2==1 then ZxZ (ZvK X true t)else ZvK X true t)else .box (Zvk X t)<|.c<|bif h/2%2==1 then ZxZ (ZvK X true t)else ZvK X true t
 | .box t x=>bif h%2==0 then .ibox (Zvk X t) (Zr1 X h false t x)else .box (Zvk X t)<|Zr1 X h false t x
 | .build t ps=>match X.T t with
  | .ar _ e=>.build (Zw0 X.T X.e 9 t)<|ps.toList.map λp=>(p.1*Zvk X e,Zvk X e,Zr1 X h false e p.2)
  |_=>.build (bif h==1 then(Zw0 X.T X.e 9 t).map (ZwJ true)else bif Nat.blt 1 h then(Zw0 X.T X.e 9 t).set (h-2) .nilsl else Zw0 X.T X.e 9 t)<|ps.toList.map λp=>(ZwM X t p.1,Zvk X<|ZvB 0 (Zwp X t) p.1,Zr1 X h false (ZvB 0 (Zwp X t) p.1) p.2)
 | .buildSlice t n ps=>.bsl (h%2==0) (h/2%2==1) (Zvk X<|ZvC X t) (ZvK X false<|ZvC X t) n<|ps.toList.map λp=>(p.1,Zr1 X h false (ZvC X t) p.2)
 | .load t x=>bif h==0 then .load (ZwK X t) (Zr1 X h false 0 x)else .ldr (Zvk X t) h<|Zr1 X 0 false 0 x
 | .store t a x=>.store (Zvk X t) (Zr1 X h false 0 a)<|Zr1 X h false t x
 | .nilCheck x=>.nilck<|Zr1 X h false 0 x
 | .binOp op t x y _=>match op,X.T t with
  | .eql,.i _| .neq,.i _| .eql,.s| .neq,.s=>.bin op (Zr1 X h false t x)<|Zr1 X h false t y
  | .eql,.p=>.isn false<|Zr1 X h false t x
  | .neq,.p=>.isn true<|Zr1 X h false t x
  | .eql,k=>.eqv false (Zw1 k) (ZvR X.T 9 t) (Zr1 X h false t x)<|Zr1 X h false t y
  | .neq,k=>.eqv true (Zw1 k) (ZvR X.T 9 t) (Zr1 X h false t x)<|Zr1 X h false t y
  |_,_=>.bin op (Zr1 X h false t x)<|Zr1 X h false t y
 | .unOp op t x=>.un op<|Zr1 X h false t x
 | .convert _ d x=>.conv (match X.T d with| .i k=>some k|_=>none)<|Zr1 X h false d x
 | .field t x i=>.fld (ZwK X<|ZvB 0 (Zwp X t) i) (ZwM X t i)<|Zr1 X h false t x
 | .fieldAddr t x i=>.fadr (ZwM X t i)<|Zr1 X h false t x
 | .indexAddr t x i=>match X.T t with
  | .ar n e=>.aadr (Zvk X e) n (Zr1 X h false 0 x)<|Zr1 X h false 0 i
  |_=>.iadr (Zvk X<|ZvC X t) (Zr1 X h false t x)<|Zr1 X h false 0 i
 | .index t x i=>match X.T t with
  | .ar n e=>.aidx (ZwK X e) (Zvk X e) n (Zr1 X h false t x)<|Zr1 X h false 0 i
  |_=>.sidx (Zr1 X h false 0 x)<|Zr1 X h false 0 i
 | .extract x i=>.ext (Zr1 X h false 0 x) i
 | .makeFunc fn a b=>.mkf fn (Zw2 X h false a.toList [])<|Zw2 X h false b.toList []
 | .makeMap _ _=>.mkm
 | .insert t m k v=>match X.T t with
  | .mp a b=>.ins (Zw1<|X.T a) (ZvR X.T 9 a) (Zr1 X h false 0 m) (Zr1 X h false a k)<|Zr1 X h false b v
  |_=>.bad
 | .mapUpdate t m k v=>match X.T t with
  | .mp a b=>.mupd (Zw1<|X.T a) (ZvR X.T 9 a) (Zr1 X h false 0 m) (Zr1 X h false a k)<|Zr1 X h false b v
  |_=>.bad
 | .lookup t m k ok=>match X.T t with
  | .mp a b=>.lkp (Zw1<|X.T a) (ZvR X.T 9 a) ok (ZvK X (h==1) b) (Zr1 X h false 0 m)<|Zr1 X h false a k
  |_=>.bad
 | .makeSlice t l c=>.mks (Zvk X<|ZvC X t) (ZvK X false<|ZvC X t) (ZwL X t) (Zr1 X h false 0 l)<|Zr1 X h false 0 c
 | .slice t x a b c=>match X.T t with
  | .s=>.ssl (Zr1 X h false t x) (a.map<|Zr1 X h false 0)<|b.map<|Zr1 X h false 0
  |_=>.slc (Zvk X<|ZvC X t) (Zr1 X h false t x) (a.map<|Zr1 X h false 0) (b.map<|Zr1 X h false 0)<|c.map<|Zr1 X h false 0
 | .range _ x=>.rng<|Zr1 X h false 0 x
 | .next x _=>.nxt<|Zr1 X h false 0 x
 | .makeInterface t x=>.mkif t<|Zr1 X h false t x
 | .call c=>Zzz X h c
 |_=>.bad
def Zwq:Operand->Nat
 | .tmp t=>1 <<< t
 |_=>0
def ZwN(l:List Operand):Nat:=l.foldr (λx m=>Zwq x ||| m) 0
def ZzB:Op->List Operand
 | .call c=>(match c.callee with| .value f=>[f]|_=>[])++c.args.toList
 | .build _ ps| .buildSlice _ _ ps=>ps.toList.map (·.2)
 | .makeFunc _ a b=>a.toList++b.toList
 | .slice _ x a b c=>x::(a.toList++(b.toList++c.toList))
 | .makeMap _ r=>r.toList
 | .move x| .assign x| .box _ x| .load _ x| .nilCheck x| .unOp _ _ x| .convert _ _ x| .makeInterface _ x| .fieldAddr _ x _| .field _ x _| .range _ x| .next x _| .extract x _=>[x]
 | .pick c a b=>[c,a,b]
 | .store _ a v| .binOp _ _ a v _| .makeSlice _ a v| .indexAddr _ a v| .index _ a v| .lookup _ a v _=>[a,v]
 | .mapUpdate _ m k v| .insert _ m k v=>[m,k,v]
 |_=>[]
def ZwO(l:List Oper)(j:Nat):Option Nat:=match l with
 |[]=>none
 |o::r=>bif j==0 then o.dst else ZwO r<|j-1
def ZzC(ops:List Oper):Option (Nat×Bool)->Nat
 |some (j,_)=>(match ZwO ops j with|some d=>1 <<< d|none=>0)
 |none=>0
def Zy0(ops:List Oper)(o:Oper)(m:Nat):Nat:=
 (match o.dst with|some d=>(m ||| (1 <<< d)) ^^^ (1 <<< d)|none=>m) ||| (ZwN (ZzB o.op) ||| ZzC ops o.guard)
def ZvO:List (Nat×Nat)->Nat->Nat
 |[],_=>0
 |p::r,i=>bif p.1==i then p.2 else ZvO r i
def Zy1(f:Nat->Nat):Nat->Nat->Nat
 |0,l=>l
 |n+1,l=>(λm=>bif m==l then l else Zy1 f n m) (l ||| f l)
def ZzD(x:List<|Nat×Nat):Nat:=x.foldr (λp m=>p.2 ||| m) 0
def ZvD:List (Nat×Nat)->Nat->Code->Nat->Nat
 |_,_,.region _ ops _,out=>ops.toList.foldr (Zy0 ops.toList) out
 |x,rt,.seq a b,out=>ZvD x rt a<|ZvD x rt b out
 |x,rt,.cond c a b,out=>Zwq c ||| (ZvD x rt a out ||| ZvD x rt b out)
 |x,rt,.block id b,out=>ZvD ((id,out)::x) rt b out
 |x,rt,.loop b,_=>Zy1 (λl=>ZvD x rt b l) 8 0
 |x,rt,.rangeFunc f ps a b,out=>(λm=>Zwq f ||| (((m ||| ZwN (ps.toList.map .tmp)) ^^^ ZwN (ps.toList.map .tmp)) ||| (out ||| (ZzD x ||| rt)))) (ZvD [] 0 a<|ZvD [] 0 b 0)
 |x,_,.exit id,_=>ZvO x id
 |_,rt,.ret,_=>rt
 |_,_,_,out=>out
def Zw3:List (Nat×Nat)->Nat->Code->Nat
 |x,_,.exit i=>ZvO x i
 |_,rt,.ret=>rt
 |x,rt,.seq a b|x,rt,.cond _ a b|x,rt,.rangeFunc _ _ a b=>Zw3 x rt a ||| Zw3 x rt b
 |x,rt,.block id b=>Zw3 ((id,0)::x) rt b
 |x,rt,.loop b=>Zw3 x rt b
 |_,_,_=>0
def Zvs:Code->Nat
 | .seq a b| .cond _ a b=>Zvs a+Zvs b
 | .block _ b=>Zvs b
 | .loop b=>Zvs b+1
 | .rangeFunc _ _ a b=>Zvs a+Zvs b+1
 |_=>0
def ZwP:List Nat->Nat->Nat->List Nat->List Nat
 |[],o,m,acc=>bif m==0 then acc else o::acc
 |k::r,o,m,acc=>bif m==0 then acc else ZwP r o (m ^^^ ((m >>> k) <<< k))<|ZwP r (o+k) (m >>> k) acc
def Zw9(m:Nat):List Nat:=ZwP [256,128,64,32,16,8,4,2,1] 0 m []
def ZzE(ops:List Oper):Option (Nat×Bool)->Option (Nat×Bool)
 |some (j,b)=>(match ZwO ops j with|some d=>some (d,b)|none=>none)
 |none=>none
def ZwQ(X:CoCx)(ops:List Oper)(r:Nat):List Oper->Nat->List AOper
 |[],_=>[]
 |o::l,i=>⟨o.dst,ZzA X (ZvO X.H<|100*r+i) o.type o.op,ZzE ops o.guard⟩::ZwQ X ops r l (i+1)
def Zy2(ms:List Nat):Nat->Nat
 |0=>0
 |i+1=>bif ZvB 0 ms i%2 ^ i==2 ^ i-1 then Zy2 ms i else i+1
def ZwR(m:Nat)(q:AOp):List AOper->Nat->List Nat
 |[],_=>[]
 |p::l,j=>bif m%2==1||X3 q&&X3 p.op then ZwR (m/2) q l (j+1)else j::ZwR (m/2) q l (j+1)
def Zy3(ms:List Nat)(p1:List AOper):List AOper->Nat->List (List Nat)
 |[],_=>[]
 |q::l,i=>ZwR (ZvB 0 ms i) q.op (p1.take i) 0::Zy3 ms p1 l (i+1)
def ZzF(ms:List Nat)(qs:List AOper):ACode:=(λk=>.draw (Zy3 ms (qs.take k) (qs.take k) 0) (qs.take k)<|qs.drop k) (Zy2 ms qs.length)
def ZFK(n:Nat)(l:List<|Nat×Nat):List (Nat×Nat):=bif n==0 then l else(n/100-1,n%100)::l
def ZzG(X:CoCx)(r:Nat)(ops:List Oper)(out:Nat)(qs:List AOper):ACode:=
 bif ZvO X.H (100*r+99)==0 then(bif Nat.blt 2 qs.length then .keep (Zw9 out) (.region qs)else .region qs)else
 match qs,ops with
 |[⟨some d,.fadr off p,_⟩,⟨_,.store _ _<|.c<|.isl _ _ s _,_⟩],_=>.nils s d off p
 |[⟨some d,_,_⟩],[o]=>match o.op with
  | .alloc t=>.zbox d (Zvk X t) (ZvK X true t)<|ZFK (ZvO X.H<|100*r+99)<|ZFK (ZvO X.H<|100*r+98) []
  |_=>.bad
 |_,_=>.bad
def ZSx(g:Nat)(c:ACode):ACode:=bif g==0 then c else .ghost (g/10000) (g/100%100) (g%100) c
def ZvL(X:CoCx):List (Nat×Nat)->Nat->Nat->Code->Nat->ACode×Nat×List ACode
 |_,_,_,.skip,out=>(.skip,out,[])
 |_,_,_,.label _,out=>(.skip,out,[])
 |_,_,_,.region r ops d,out=>
  (bif d then .keep (Zw9 out) (ZzF (YS ops.toList [])<|ZwQ X ops.toList r ops.toList 0)else ZSx (ZvO X.H<|100*r+90)<|ZzG X r ops.toList out<|ZwQ X ops.toList r ops.toList 0,ops.toList.foldr (Zy0 ops.toList) out,[])
 |x,rt,k,.seq a b,out=>
  match ZvL X x rt (k+Zvs a) b out with
  |(cb,lb,db)=>match ZvL X x rt k a lb with
   |(ca,la,da)=>(.seq ca cb,la,da++db)
 |x,rt,k,.cond c a b,out=>
  match ZvL X x rt k a out,ZvL X x rt (k+Zvs a) b out with
  |(ca,la,da),(cb,lb,db)=>(.cond (Zr1 X 0 false 0 c) ca cb,Zwq c ||| (la ||| lb),da++db)
 |x,rt,k,.block id b,out=>
  match ZvL X ((id,out)::x) rt k b out with
  |(cb,lb,db)=>(.keep (Zw9<|out ||| Zw3 x rt (.block id b))<|.block id cb,lb,db)
 |x,rt,k,.loop b,_=>
  (λl=>match ZvL X x rt k b l with
   |(cb,_,db)=>(X.N<|2*(k+Zvs b)+1,l,db++[.keep (Zw9<|l ||| Zw3 x rt b) cb,.loop (Zw9 l)<|X.N<|2*(k+Zvs b)])) (ZvD x rt (.loop b) 0)
 |x,rt,k,.rangeFunc f ps a b,out=>
  match ZvL X [] 0 k a (ZvD [] 0 b 0),ZvL X [] 0 (k+Zvs a) b 0 with
  |(ca,_,da),(cb,_,db)=>(.rangeFunc (Zr1 X 0 false 0 f) ps.toList (X.N<|2*(k+Zvs a+Zvs b))<|X.N<|2*(k+Zvs a+Zvs b)+1,ZvD x rt (.rangeFunc f ps a b) out,da++(db++[ca,cb]))
 |x,_,_,.exit id,_=>(.exit id,ZvO x id,[])
 |_,rt,_,.ret,_=>(.ret,rt,[])
 |_,_,_,_,out=>(.bad,out,[])
def Zy4(f:Func):Nat:=f.results.toList.foldr (λr m=>(match r with| .tmp t=>1 <<< t| .cell t _=>1 <<< t) ||| m) 0
def ZzH(X:CoCx)(f:Func):List ACode:=
 match f.body with
 |some c=>match ZvL X [] (Zy4 f) 0 c (Zy4 f)with
  |(q,_,ds)=>ds++[q]
 |none=>[]
abbrev CoV{α:Type}(a:α):={c:α // a=c}
def coY(X:(Nat->ACode)->List ACode)(l:List ACode)(n:Nat):ACode:=ZvB .bad (X<|ZvB .bad l) n
def Zr2:ACode->List Nat->ACode
 |c,[]=>c
 | .seq a b,i::r=>bif i==0 then Zr2 a r else Zr2 b r
 | .cond _ a b,i::r=>bif i==0 then Zr2 a r else Zr2 b r
 | .block _ a,_::r=>Zr2 a r
 | .keep _ a,_::r=>Zr2 a r
 | .loop _ a,_::r=>Zr2 a r
 |c,_=>c
def Zvt(t:Nat):List (Nat×CoTy)->CoTy
 |[]=>.i .i64
 |p::r=>bif p.1==t then p.2 else Zvt t r
end Go.AM
set_option maxRecDepth 100000
namespace Go.AM
open Go Go.Proofs.Tryz
def coT(t:Nat):CoTy:=bif Nat.blt t 26 then Zvt t [(4,.b),(5,.i .u8),(9,.s),(21,.i .i32),(22,.sl 77 88),(23,.sl 79 80),(24,.sl 83 56),(25,.sl 85 184)]else bif Nat.blt t 37 then Zvt t [(26,.sl 87 72),(27,.sl 53 16),(29,.st [22,23,24,25,26,27,27]),(31,.st [3,3]),(32,.sl 9 16),(33,.sl 125 40),(35,.st [3,9,3,3]),(36,.sl 31 16)]else bif Nat.blt t 59 then Zvt t [(37,.sl 89 72),(39,.st [3,3,3,3,3,9,9,9,32,33,35,31,36,37]),(42,.sl 3 8),(44,.o),(53,.ar 2 3),(55,.f),(56,.p),(57,.o)]else bif Nat.blt t 83 then Zvt t [(59,.f),(62,.f),(65,.p),(67,.st [56,39,3,3]),(68,.f),(69,.sl 68 8),(77,.st [9,3,3,36,33,3]),(79,.st [9,3,36,33,3])]else bif Nat.blt t 98 then Zvt t [(83,.st [9,3,36,3]),(85,.st [9,9,9,3,35,31,3,3,32,3,3,9]),(87,.st [9,9,9,3,3,3]),(89,.st [9,35,31]),(90,.mp 3 3),(92,.st [29,90]),(93,.mp 3 4),(94,.f)]else bif Nat.blt t 128 then Zvt t [(98,.f),(101,.f),(103,.o),(105,.f),(109,.ar 16 55),(115,.f),(121,.ar 5 32),(125,.st [9,3,9])]else bif Nat.blt t 165 then Zvt t [(128,.sl 31 16),(131,.f),(132,.f),(150,.mp 152 4),(152,.st [9,35]),(153,.sl 27 24),(161,.sl 165 40),(162,.o)]else bif Nat.blt t 199 then Zvt t [(165,.st [3,3,3,9]),(169,.f),(171,.sl 35 40),(174,.f),(178,.f),(180,.f),(183,.f),(186,.f)]else bif Nat.blt t 222 then Zvt t [(199,.ar 256 3),(202,.st [9,199]),(203,.o),(206,.mp 125 4),(207,.mp 9 4),(210,.st [3,3]),(211,.ar 28 210),(214,.mp 35 4)]else bif Nat.blt t 244 then Zvt t [(222,.f),(224,.st [31,31]),(226,.st [3,3]),(228,.st [224,226]),(230,.f),(238,.f),(239,.p),(243,.j)]else Zvt t [(244,.o)]
@[reducible] def cV{α:Type}(a:α)(h:CoV a:=by exact⟨_,by cbv⟩):α:=h.1
attribute [go_sem ↓] cV
abbrev CoX(e:ByteArray)(S:List<|Nat×ByteArray)(H:List<|Nat×Nat)(f:Func)(N:Nat->ACode):List ACode:=ZzH ⟨coT,e,S,H,N⟩ f
abbrev CoW(H:List<|Nat×Nat)(f:Func)(e:ByteArray):ACode:=coY (CoX e [] H f) [] 0
abbrev CoU(X:ByteArray->(Nat->ACode)->List ACode)(e:ByteArray)(l:List ACode)(n:Nat):ACode:=coY (X e) l n
def c3:=(λe=>cV<|CoW [] f3 e) emp
def c4:=(λe s0 s1 s2=>cV<|coY (CoX e [(371,s0),(360,s1),(376,s2)] [(101,1),(201,1),(301,1),(1212,2)] f4) [] 0) emp (B [115]) (B [104]) (B [120])
def c5:=(λe=>cV<|CoW [] f5 e) emp
def c6:=(λe=>cV<|CoW [] f6 e) emp
def c7:=(λe=>cV<|CoW [] f7 e) emp
def c8:=(λe=>cV<|CoW [] f8 e) emp
def c9:=(λe=>cV<|CoW [] f9 e) emp
def X10(e)(N):=cV<|CoX e [] [] f10 N
def c10L0b:=(λe=>cV<|CoU X10 e [] 0) emp
def c10L0:=(λe a=>cV<|CoU X10 e [a] 1) emp c10L0b
def c10:=(λe a b=>cV<|CoU X10 e [a,b] 2) emp c10L0b c10L0
def c11:=(λe=>cV<|CoW [] f11 e) emp
def c12:=(λe=>cV<|CoW [] f12 e) emp
def X13(e)(N):=cV<|CoX e [] [] f13 N
def c13L0b:=(λe=>cV<|CoU X13 e [] 0) emp
def c13L0:=(λe a=>cV<|CoU X13 e [a] 1) emp c13L0b
def c13:=(λe a b=>cV<|CoU X13 e [a,b] 2) emp c13L0b c13L0
def X14(e)(N):=cV<|CoX e [] [] f14 N
def c14L0b:=(λe=>cV<|CoU X14 e [] 0) emp
def c14L0:=(λe a=>cV<|CoU X14 e [a] 1) emp c14L0b
def c14L1b:=(λe a b=>cV<|CoU X14 e [a,b] 2) emp c14L0b c14L0
def c14L1:=(λe a b c=>cV<|CoU X14 e [a,b,c] 3) emp c14L0b c14L0 c14L1b
def c14L2b:=(λe a b c d=>cV<|CoU X14 e [a,b,c,d] 4) emp c14L0b c14L0 c14L1b c14L1
def c14L2:=(λe a b c d g=>cV<|CoU X14 e [a,b,c,d,g] 5) emp c14L0b c14L0 c14L1b c14L1 c14L2b
def c14:=(λe a b c d g h=>cV<|CoU X14 e [a,b,c,d,g,h] 6) emp c14L0b c14L0 c14L1b c14L1 c14L2b c14L2
def c15:=(λe s0 s1 s2=>cV<|coY (CoX e [(353,s0),(354,s1),(371,s2)] [(0,1),(106,1)] f15) [] 0) emp (B [97]) (B [98]) (B [115])
def c16:=(λe s0=>cV<|coY (CoX e [(1548058194789,s0)] [(0,1)] f16) [] 0) emp (B [104,111,117,115,101])
def X17(e)(N):=cV<|CoX e [] [(2105,1)] f17 N
def c17L0b:=(λe=>cV<|CoU X17 e [] 0) emp
def c17L0:=(λe a=>cV<|CoU X17 e [a] 1) emp c17L0b
def c17L1b:=(λe a b=>cV<|CoU X17 e [a,b] 2) emp c17L0b c17L0
def c17L1:=(λe a b c=>cV<|CoU X17 e [a,b,c] 3) emp c17L0b c17L0 c17L1b
def c17L2b:=(λe a b c d=>cV<|CoU X17 e [a,b,c,d] 4) emp c17L0b c17L0 c17L1b c17L1
def c17L2:=(λe a b c d g=>cV<|CoU X17 e [a,b,c,d,g] 5) emp c17L0b c17L0 c17L1b c17L1 c17L2b
def c17L3b:=(λe a b c d g h=>cV<|CoU X17 e [a,b,c,d,g,h] 6) emp c17L0b c17L0 c17L1b c17L1 c17L2b c17L2
def c17L3:=(λe a b c d g h i=>cV<|CoU X17 e [a,b,c,d,g,h,i] 7) emp c17L0b c17L0 c17L1b c17L1 c17L2b c17L2 c17L3b
def c17L4b:=(λe a b c d g h i j=>cV<|CoU X17 e [a,b,c,d,g,h,i,j] 8) emp c17L0b c17L0 c17L1b c17L1 c17L2b c17L2 c17L3b c17L3
def c17L4:=(λe a b c d g h i j k=>cV<|CoU X17 e [a,b,c,d,g,h,i,j,k] 9) emp c17L0b c17L0 c17L1b c17L1 c17L2b c17L2 c17L3b c17L3 c17L4b
def c17:=(λe a b c d g h i j k l=>cV<|CoU X17 e [a,b,c,d,g,h,i,j,k,l] 10) emp c17L0b c17L0 c17L1b c17L1 c17L2b c17L2 c17L3b c17L3 c17L4b c17L4
def X18(e)(N):=cV<|CoX e [] [] f18 N
def c18L0b:=(λe=>cV<|CoU X18 e [] 0) emp
def c18L0:=(λe a=>cV<|CoU X18 e [a] 1) emp c18L0b
def c18:=(λe a b=>cV<|CoU X18 e [a,b] 2) emp c18L0b c18L0
def X19(e)(N):=cV<|CoX e [] [(402,1)] f19 N
def c19L0b:=(λe=>cV<|CoU X19 e [] 0) emp
def c19L0:=(λe a=>cV<|CoU X19 e [a] 1) emp c19L0b
def c19:=(λe a b=>cV<|CoU X19 e [a,b] 2) emp c19L0b c19L0
def c20:=(λe=>cV<|CoW [] f20 e) emp
def X21(e)(N):=cV<|CoX e [] [(402,1),(801,1),(802,1)] f21 N
def c21L0b:=(λe=>cV<|CoU X21 e [] 0) emp
def c21L0:=(λe a=>cV<|CoU X21 e [a] 1) emp c21L0b
def c21:=(λe a b=>cV<|CoU X21 e [a,b] 2) emp c21L0b c21L0
def X22(e)(N):=cV<|CoX e [] [(605,1),(1205,1),(1805,1),(2405,1),(3205,1)] f22 N
def c22L0b:=(λe=>cV<|CoU X22 e [] 0) emp
def c22L0:=(λe a=>cV<|CoU X22 e [a] 1) emp c22L0b
def c22L1b:=(λe a b=>cV<|CoU X22 e [a,b] 2) emp c22L0b c22L0
def c22L1:=(λe a b c=>cV<|CoU X22 e [a,b,c] 3) emp c22L0b c22L0 c22L1b
def c22L2b:=(λe a b c d=>cV<|CoU X22 e [a,b,c,d] 4) emp c22L0b c22L0 c22L1b c22L1
def c22L2:=(λe a b c d g=>cV<|CoU X22 e [a,b,c,d,g] 5) emp c22L0b c22L0 c22L1b c22L1 c22L2b
def c22L3b:=(λe a b c d g h=>cV<|CoU X22 e [a,b,c,d,g,h] 6) emp c22L0b c22L0 c22L1b c22L1 c22L2b c22L2
def c22L3:=(λe a b c d g h i=>cV<|CoU X22 e [a,b,c,d,g,h,i] 7) emp c22L0b c22L0 c22L1b c22L1 c22L2b c22L2 c22L3b
def c22L4b:=(λe a b c d g h i j=>cV<|CoU X22 e [a,b,c,d,g,h,i,j] 8) emp c22L0b c22L0 c22L1b c22L1 c22L2b c22L2 c22L3b c22L3
def c22L4:=(λe a b c d g h i j k=>cV<|CoU X22 e [a,b,c,d,g,h,i,j,k] 9) emp c22L0b c22L0 c22L1b c22L1 c22L2b c22L2 c22L3b c22L3 c22L4b
def c22:=(λe a b c d g h i j k l=>cV<|CoU X22 e [a,b,c,d,g,h,i,j,k,l] 10) emp c22L0b c22L0 c22L1b c22L1 c22L2b c22L2 c22L3b c22L3 c22L4b c22L4
def c23:=(λe=>cV<|CoW [] f23 e) emp
def X24(e)(N):=cV<|CoX e [] [(100,1),(505,1),(800,1)] f24 N
def c24L0b:=(λe=>cV<|CoU X24 e [] 0) emp
def c24L0:=(λe a=>cV<|CoU X24 e [a] 1) emp c24L0b
def c24L1b:=(λe a b=>cV<|CoU X24 e [a,b] 2) emp c24L0b c24L0
def c24L1:=(λe a b c=>cV<|CoU X24 e [a,b,c] 3) emp c24L0b c24L0 c24L1b
def c24:=(λe a b c d=>cV<|CoU X24 e [a,b,c,d] 4) emp c24L0b c24L0 c24L1b c24L1
def c25:=(λe=>cV<|CoW [] f25 e) emp
def X26(e)(N):=cV<|CoX e [] [] f26 N
def c26L0b:=(λe=>cV<|CoU X26 e [] 0) emp
def c26L0:=(λe a=>cV<|CoU X26 e [a] 1) emp c26L0b
def c26:=(λe a b=>cV<|CoU X26 e [a,b] 2) emp c26L0b c26L0
def c27:=(λe=>cV<|CoW [] f27 e) emp
def X28(e)(N):=cV<|CoX e [] [] f28 N
def c28L0b:=(λe=>cV<|CoU X28 e [] 0) emp
def c28L0:=(λe a=>cV<|CoU X28 e [a] 1) emp c28L0b
def c28:=(λe a b=>cV<|CoU X28 e [a,b] 2) emp c28L0b c28L0
def X29(e)(N):=cV<|CoX e [] [(3,1),(105,1),(200,1)] f29 N
def c29R0a:=(λe=>cV<|CoU X29 e [] 0) emp
def c29R0b:=(λe a=>cV<|CoU X29 e [a] 1) emp c29R0a
def c29:=(λe a b=>cV<|CoU X29 e [a,b] 2) emp c29R0a c29R0b
def X30(e)(N):=cV<|CoX e [] [] f30 N
def c30L0b:=(λe=>cV<|CoU X30 e [] 0) emp
def c30L0:=(λe a=>cV<|CoU X30 e [a] 1) emp c30L0b
def c30:=(λe a b=>cV<|CoU X30 e [a,b] 2) emp c30L0b c30L0
def c31:=(λe=>cV<|CoW [(302,1)] f31 e) emp
def c32:=(λe=>cV<|CoW [] f32 e) emp
def X33(e)(N):=cV<|CoX e [] [(1,1),(108,1)] f33 N
def c33R0a:=(λe=>cV<|CoU X33 e [] 0) emp
def c33R0b:=(λe a=>cV<|CoU X33 e [a] 1) emp c33R0a
def c33:=(λe a b=>cV<|CoU X33 e [a,b] 2) emp c33R0a c33R0b
def c34:=(λe=>cV<|CoW [] f34 e) emp
def X35(e)(N):=cV<|CoX e [] [(1102,1),(1500,2)] f35 N
def c35L0b:=(λe=>cV<|CoU X35 e [] 0) emp
def c35L0:=(λe a=>cV<|CoU X35 e [a] 1) emp c35L0b
def c35:=(λe a b=>cV<|CoU X35 e [a,b] 2) emp c35L0b c35L0
def c36:=(λe=>cV<|CoW [(2413,1)] f36 e) emp
def X37(e)(N):=cV<|CoX e [] [(100,1),(202,1)] f37 N
def c37L0b:=(λe=>cV<|CoU X37 e [] 0) emp
def c37L0:=(λe a=>cV<|CoU X37 e [a] 1) emp c37L0b
def c37L1b:=(λe a b=>cV<|CoU X37 e [a,b] 2) emp c37L0b c37L0
def c37L1:=(λe a b c=>cV<|CoU X37 e [a,b,c] 3) emp c37L0b c37L0 c37L1b
def c37L2b:=(λe a b c d=>cV<|CoU X37 e [a,b,c,d] 4) emp c37L0b c37L0 c37L1b c37L1
def c37L2:=(λe a b c d g=>cV<|CoU X37 e [a,b,c,d,g] 5) emp c37L0b c37L0 c37L1b c37L1 c37L2b
def c37L3b:=(λe a b c d g h=>cV<|CoU X37 e [a,b,c,d,g,h] 6) emp c37L0b c37L0 c37L1b c37L1 c37L2b c37L2
def c37L3:=(λe a b c d g h i=>cV<|CoU X37 e [a,b,c,d,g,h,i] 7) emp c37L0b c37L0 c37L1b c37L1 c37L2b c37L2 c37L3b
def c37L4b:=(λe a b c d g h i j=>cV<|CoU X37 e [a,b,c,d,g,h,i,j] 8) emp c37L0b c37L0 c37L1b c37L1 c37L2b c37L2 c37L3b c37L3
def c37L4:=(λe a b c d g h i j k=>cV<|CoU X37 e [a,b,c,d,g,h,i,j,k] 9) emp c37L0b c37L0 c37L1b c37L1 c37L2b c37L2 c37L3b c37L3 c37L4b
def c37:=(λe a b c d g h i j k l=>cV<|CoU X37 e [a,b,c,d,g,h,i,j,k,l] 10) emp c37L0b c37L0 c37L1b c37L1 c37L2b c37L2 c37L3b c37L3 c37L4b c37L4
def X38(e)(N):=cV<|CoX e [] [(405,1)] f38 N
def c38L0b:=(λe=>cV<|CoU X38 e [] 0) emp
def c38L0:=(λe a=>cV<|CoU X38 e [a] 1) emp c38L0b
def c38:=(λe a b=>cV<|CoU X38 e [a,b] 2) emp c38L0b c38L0
def X39(e)(N):=cV<|CoX e [] [(1200,1)] f39 N
def c39L0b:=(λe=>cV<|CoU X39 e [] 0) emp
def c39L0:=(λe a=>cV<|CoU X39 e [a] 1) emp c39L0b
def c39:=(λe a b=>cV<|CoU X39 e [a,b] 2) emp c39L0b c39L0
def X40(e)(N):=cV<|CoX e [] [] f40 N
def c40L0b:=(λe=>cV<|CoU X40 e [] 0) emp
def c40L0:=(λe a=>cV<|CoU X40 e [a] 1) emp c40L0b
def c40:=(λe a b=>cV<|CoU X40 e [a,b] 2) emp c40L0b c40L0
def X41(e)(N):=cV<|CoX e [] [] f41 N
def c41L0b:=(λe=>cV<|CoU X41 e [] 0) emp
def c41L0:=(λe a=>cV<|CoU X41 e [a] 1) emp c41L0b
def c41:=(λe a b=>cV<|CoU X41 e [a,b] 2) emp c41L0b c41L0
def c42:=(λe=>cV<|CoW [] f42 e) emp
def X43(e)(N):=cV<|CoX e [] [] f43 N
def c43L0b:=(λe=>cV<|CoU X43 e [] 0) emp
def c43L0:=(λe a=>cV<|CoU X43 e [a] 1) emp c43L0b
def c43:=(λe a b=>cV<|CoU X43 e [a,b] 2) emp c43L0b c43L0
def X44(e)(N):=cV<|CoX e [] [] f44 N
def c44L0b:=(λe=>cV<|CoU X44 e [] 0) emp
def c44L0:=(λe a=>cV<|CoU X44 e [a] 1) emp c44L0b
def c44:=(λe a b=>cV<|CoU X44 e [a,b] 2) emp c44L0b c44L0
def X45(e)(N):=cV<|CoX e [] [(302,1),(902,1),(1502,1),(2103,1),(2702,1)] f45 N
def c45L0b:=(λe=>cV<|CoU X45 e [] 0) emp
def c45L0:=(λe a=>cV<|CoU X45 e [a] 1) emp c45L0b
def c45L1b:=(λe a b=>cV<|CoU X45 e [a,b] 2) emp c45L0b c45L0
def c45L1:=(λe a b c=>cV<|CoU X45 e [a,b,c] 3) emp c45L0b c45L0 c45L1b
def c45L2b:=(λe a b c d=>cV<|CoU X45 e [a,b,c,d] 4) emp c45L0b c45L0 c45L1b c45L1
def c45L2:=(λe a b c d g=>cV<|CoU X45 e [a,b,c,d,g] 5) emp c45L0b c45L0 c45L1b c45L1 c45L2b
def c45L3b:=(λe a b c d g h=>cV<|CoU X45 e [a,b,c,d,g,h] 6) emp c45L0b c45L0 c45L1b c45L1 c45L2b c45L2
def c45L3:=(λe a b c d g h i=>cV<|CoU X45 e [a,b,c,d,g,h,i] 7) emp c45L0b c45L0 c45L1b c45L1 c45L2b c45L2 c45L3b
def c45L4b:=(λe a b c d g h i j=>cV<|CoU X45 e [a,b,c,d,g,h,i,j] 8) emp c45L0b c45L0 c45L1b c45L1 c45L2b c45L2 c45L3b c45L3
def c45L4:=(λe a b c d g h i j k=>cV<|CoU X45 e [a,b,c,d,g,h,i,j,k] 9) emp c45L0b c45L0 c45L1b c45L1 c45L2b c45L2 c45L3b c45L3 c45L4b
def c45:=(λe a b c d g h i j k l=>cV<|CoU X45 e [a,b,c,d,g,h,i,j,k,l] 10) emp c45L0b c45L0 c45L1b c45L1 c45L2b c45L2 c45L3b c45L3 c45L4b c45L4
def c46:=(λe=>cV<|CoW [] f46 e) emp
def c47:=(λe=>cV<|CoW [(108,1),(200,2),(400,2)] f47 e) emp
def c49:=(λe=>cV<|CoW [] f49 e) emp
def X50(e)(N):=cV<|CoX e [] [(100,1)] f50 N
def c50L0b:=(λe=>cV<|CoU X50 e [] 0) emp
def c50L0:=(λe a=>cV<|CoU X50 e [a] 1) emp c50L0b
def c50L1b:=(λe a b=>cV<|CoU X50 e [a,b] 2) emp c50L0b c50L0
def c50L1:=(λe a b c=>cV<|CoU X50 e [a,b,c] 3) emp c50L0b c50L0 c50L1b
def c50L2b:=(λe a b c d=>cV<|CoU X50 e [a,b,c,d] 4) emp c50L0b c50L0 c50L1b c50L1
def c50L2:=(λe a b c d g=>cV<|CoU X50 e [a,b,c,d,g] 5) emp c50L0b c50L0 c50L1b c50L1 c50L2b
def c50L3b:=(λe a b c d g h=>cV<|CoU X50 e [a,b,c,d,g,h] 6) emp c50L0b c50L0 c50L1b c50L1 c50L2b c50L2
def c50L3:=(λe a b c d g h i=>cV<|CoU X50 e [a,b,c,d,g,h,i] 7) emp c50L0b c50L0 c50L1b c50L1 c50L2b c50L2 c50L3b
def c50L4b:=(λe a b c d g h i j=>cV<|CoU X50 e [a,b,c,d,g,h,i,j] 8) emp c50L0b c50L0 c50L1b c50L1 c50L2b c50L2 c50L3b c50L3
def c50L4:=(λe a b c d g h i j k=>cV<|CoU X50 e [a,b,c,d,g,h,i,j,k] 9) emp c50L0b c50L0 c50L1b c50L1 c50L2b c50L2 c50L3b c50L3 c50L4b
def c50L5b:=(λe a b c d g h i j k l=>cV<|CoU X50 e [a,b,c,d,g,h,i,j,k,l] 10) emp c50L0b c50L0 c50L1b c50L1 c50L2b c50L2 c50L3b c50L3 c50L4b c50L4
def c50L5:=(λe a b c d g h i j k l m=>cV<|CoU X50 e [a,b,c,d,g,h,i,j,k,l,m] 11) emp c50L0b c50L0 c50L1b c50L1 c50L2b c50L2 c50L3b c50L3 c50L4b c50L4 c50L5b
def c50L6b:=(λe a b c d g h i j k l m n=>cV<|CoU X50 e [a,b,c,d,g,h,i,j,k,l,m,n] 12) emp c50L0b c50L0 c50L1b c50L1 c50L2b c50L2 c50L3b c50L3 c50L4b c50L4 c50L5b c50L5
def c50L6:=(λe a b c d g h i j k l m n o=>cV<|CoU X50 e [a,b,c,d,g,h,i,j,k,l,m,n,o] 13) emp c50L0b c50L0 c50L1b c50L1 c50L2b c50L2 c50L3b c50L3 c50L4b c50L4 c50L5b c50L5 c50L6b
def c50:=(λe a b c d g h i j k l m n o p=>cV<|CoU X50 e [a,b,c,d,g,h,i,j,k,l,m,n,o,p] 14) emp c50L0b c50L0 c50L1b c50L1 c50L2b c50L2 c50L3b c50L3 c50L4b c50L4 c50L5b c50L5 c50L6b c50L6
def X51(e)(N):=cV<|CoX e [] [(405,1),(1005,1)] f51 N
def c51L0b:=(λe=>cV<|CoU X51 e [] 0) emp
def c51L0:=(λe a=>cV<|CoU X51 e [a] 1) emp c51L0b
def c51L1b:=(λe a b=>cV<|CoU X51 e [a,b] 2) emp c51L0b c51L0
def c51L1:=(λe a b c=>cV<|CoU X51 e [a,b,c] 3) emp c51L0b c51L0 c51L1b
def c51L2b:=(λe a b c d=>cV<|CoU X51 e [a,b,c,d] 4) emp c51L0b c51L0 c51L1b c51L1
def c51L2:=(λe a b c d g=>cV<|CoU X51 e [a,b,c,d,g] 5) emp c51L0b c51L0 c51L1b c51L1 c51L2b
def c51L3b:=(λe a b c d g h=>cV<|CoU X51 e [a,b,c,d,g,h] 6) emp c51L0b c51L0 c51L1b c51L1 c51L2b c51L2
def c51L3:=(λe a b c d g h i=>cV<|CoU X51 e [a,b,c,d,g,h,i] 7) emp c51L0b c51L0 c51L1b c51L1 c51L2b c51L2 c51L3b
def c51L4b:=(λe a b c d g h i j=>cV<|CoU X51 e [a,b,c,d,g,h,i,j] 8) emp c51L0b c51L0 c51L1b c51L1 c51L2b c51L2 c51L3b c51L3
def c51L4:=(λe a b c d g h i j k=>cV<|CoU X51 e [a,b,c,d,g,h,i,j,k] 9) emp c51L0b c51L0 c51L1b c51L1 c51L2b c51L2 c51L3b c51L3 c51L4b
def c51:=(λe a b c d g h i j k l=>cV<|CoU X51 e [a,b,c,d,g,h,i,j,k,l] 10) emp c51L0b c51L0 c51L1b c51L1 c51L2b c51L2 c51L3b c51L3 c51L4b c51L4
def X52(e)(N):=cV<|CoX e [] [(705,1),(805,1)] f52 N
def c52L0b:=(λe=>cV<|CoU X52 e [] 0) emp
def c52L0:=(λe a=>cV<|CoU X52 e [a] 1) emp c52L0b
def c52L1b:=(λe a b=>cV<|CoU X52 e [a,b] 2) emp c52L0b c52L0
def c52L1:=(λe a b c=>cV<|CoU X52 e [a,b,c] 3) emp c52L0b c52L0 c52L1b
def c52:=(λe a b c d=>cV<|CoU X52 e [a,b,c,d] 4) emp c52L0b c52L0 c52L1b c52L1
def c53:=(λe=>cV<|CoW [] f53 e) emp
def c54:=(λe=>cV<|CoW [] f54 e) emp
def c55:=(λe s0=>cV<|coY (CoX e [(376,s0)] [(104,2)] f55) [] 0) emp (B [120])
def X56(e)(N):=cV<|CoX e [] [(105,1)] f56 N
def c56L0b:=(λe=>cV<|CoU X56 e [] 0) emp
def c56L0:=(λe a=>cV<|CoU X56 e [a] 1) emp c56L0b
def c56L1b:=(λe a b=>cV<|CoU X56 e [a,b] 2) emp c56L0b c56L0
def c56L1:=(λe a b c=>cV<|CoU X56 e [a,b,c] 3) emp c56L0b c56L0 c56L1b
def c56:=(λe a b c d=>cV<|CoU X56 e [a,b,c,d] 4) emp c56L0b c56L0 c56L1b c56L1
def c57:=(λe=>cV<|CoW [] f57 e) emp
def c58:=(λe=>cV<|CoW [] f58 e) emp
def X59(e)(N):=cV<|CoX e [] [] f59 N
def c59L0b:=(λe=>cV<|CoU X59 e [] 0) emp
def c59L0:=(λe a=>cV<|CoU X59 e [a] 1) emp c59L0b
def c59:=(λe a b=>cV<|CoU X59 e [a,b] 2) emp c59L0b c59L0
def c60:=(λe=>cV<|CoW [(300,2)] f60 e) emp
def X61(e)(N):=cV<|CoX e [] [] f61 N
def c61L0b:=(λe=>cV<|CoU X61 e [] 0) emp
def c61L0:=(λe a=>cV<|CoU X61 e [a] 1) emp c61L0b
def c61:=(λe a b=>cV<|CoU X61 e [a,b] 2) emp c61L0b c61L0
def c62:=(λe=>cV<|CoW [] f62 e) emp
def c63:=(λe=>cV<|CoW [] f63 e) emp
def c64:=(λe=>cV<|CoW [(0,1),(1,1),(102,1)] f64 e) emp
def c65:=(λe=>cV<|CoW [(0,1),(100,1)] f65 e) emp
def X66(e)(N):=cV<|CoX e [] [(101,1),(202,1),(203,1),(404,1),(604,1),(1002,1),(1104,1),(1602,1),(1804,1)] f66 N
def c66L0b:=(λe=>cV<|CoU X66 e [] 0) emp
def c66L0:=(λe a=>cV<|CoU X66 e [a] 1) emp c66L0b
def c66L1b:=(λe a b=>cV<|CoU X66 e [a,b] 2) emp c66L0b c66L0
def c66L1:=(λe a b c=>cV<|CoU X66 e [a,b,c] 3) emp c66L0b c66L0 c66L1b
def s66p0:=(λe a b c d=>cV<|Zr2 (CoU X66 e [a,b,c,d] 4) [0]) emp c66L0b c66L0 c66L1b c66L1
def s66p1:=(λe a b c d=>cV<|Zr2 (CoU X66 e [a,b,c,d] 4) [1,0]) emp c66L0b c66L0 c66L1b c66L1
def s66p2:=(λe a b c d=>cV<|Zr2 (CoU X66 e [a,b,c,d] 4) [1,1,0]) emp c66L0b c66L0 c66L1b c66L1
def s66p3:=(λe a b c d=>cV<|Zr2 (CoU X66 e [a,b,c,d] 4) [1,1,1,0]) emp c66L0b c66L0 c66L1b c66L1
def s66p4:=(λe a b c d=>cV<|Zr2 (CoU X66 e [a,b,c,d] 4) [1,1,1,1,0]) emp c66L0b c66L0 c66L1b c66L1
def s66p5:=(λe a b c d=>cV<|Zr2 (CoU X66 e [a,b,c,d] 4) [1,1,1,1,1,0]) emp c66L0b c66L0 c66L1b c66L1
def s66p6:=(λe a b c d=>cV<|Zr2 (CoU X66 e [a,b,c,d] 4) [1,1,1,1,1,1,0]) emp c66L0b c66L0 c66L1b c66L1
def s66p7:=(λe a b c d=>cV<|Zr2 (CoU X66 e [a,b,c,d] 4) [1,1,1,1,1,1,1,0]) emp c66L0b c66L0 c66L1b c66L1
def c66:ACode:=.seq s66p0<|.seq s66p1<|.seq s66p2<|.seq s66p3<|.seq s66p4<|.seq s66p5<|.seq s66p6<|.seq s66p7 .ret
def c67:=(λe=>cV<|CoW [] f67 e) emp
def c68:=(λe=>cV<|CoW [(100,2)] f68 e) emp
def c69:=(λe=>cV<|CoW [] f69 e) emp
def X70(e)(N):=cV<|CoX e [] [(1200,1),(1502,1)] f70 N
def c70L0b:=(λe=>cV<|CoU X70 e [] 0) emp
def c70L0:=(λe a=>cV<|CoU X70 e [a] 1) emp c70L0b
def c70:=(λe a b=>cV<|CoU X70 e [a,b] 2) emp c70L0b c70L0
def c71:=(λe=>cV<|CoW [(100,2)] f71 e) emp
def c72:=(λe=>cV<|CoW [(100,2)] f72 e) emp
def c73:=(λe=>cV<|CoW [] f73 e) emp
def X74(e)(N):=cV<|CoX e [] [] f74 N
def c74L0b:=(λe=>cV<|CoU X74 e [] 0) emp
def c74L0:=(λe a=>cV<|CoU X74 e [a] 1) emp c74L0b
def c74L1b:=(λe a b=>cV<|CoU X74 e [a,b] 2) emp c74L0b c74L0
def c74L1:=(λe a b c=>cV<|CoU X74 e [a,b,c] 3) emp c74L0b c74L0 c74L1b
def c74:=(λe a b c d=>cV<|CoU X74 e [a,b,c,d] 4) emp c74L0b c74L0 c74L1b c74L1
def c75:=(λe=>cV<|CoW [(1,1),(107,1)] f75 e) emp
def X76(e)(N):=cV<|CoX e [] [] f76 N
def c76L0b:=(λe=>cV<|CoU X76 e [] 0) emp
def c76L0:=(λe a=>cV<|CoU X76 e [a] 1) emp c76L0b
def c76:=(λe a b=>cV<|CoU X76 e [a,b] 2) emp c76L0b c76L0
def X77(e)(N):=cV<|CoX e [] [] f77 N
def c77L0b:=(λe=>cV<|CoU X77 e [] 0) emp
def c77L0:=(λe a=>cV<|CoU X77 e [a] 1) emp c77L0b
def c77L1b:=(λe a b=>cV<|CoU X77 e [a,b] 2) emp c77L0b c77L0
def c77L1:=(λe a b c=>cV<|CoU X77 e [a,b,c] 3) emp c77L0b c77L0 c77L1b
def c77:=(λe a b c d=>cV<|CoU X77 e [a,b,c,d] 4) emp c77L0b c77L0 c77L1b c77L1
def X78(e)(N):=cV<|CoX e [] [] f78 N
def c78L0b:=(λe=>cV<|CoU X78 e [] 0) emp
def c78L0:=(λe a=>cV<|CoU X78 e [a] 1) emp c78L0b
def c78:=(λe a b=>cV<|CoU X78 e [a,b] 2) emp c78L0b c78L0
def X79(e)(N):=cV<|CoX e [] [] f79 N
def c79L0b:=(λe=>cV<|CoU X79 e [] 0) emp
def c79L0:=(λe a=>cV<|CoU X79 e [a] 1) emp c79L0b
def c79L1b:=(λe a b=>cV<|CoU X79 e [a,b] 2) emp c79L0b c79L0
def c79L1:=(λe a b c=>cV<|CoU X79 e [a,b,c] 3) emp c79L0b c79L0 c79L1b
def c79:=(λe a b c d=>cV<|CoU X79 e [a,b,c,d] 4) emp c79L0b c79L0 c79L1b c79L1
def X80(e)(N):=cV<|CoX e [] [] f80 N
def c80L0b:=(λe=>cV<|CoU X80 e [] 0) emp
def c80L0:=(λe a=>cV<|CoU X80 e [a] 1) emp c80L0b
def c80L1b:=(λe a b=>cV<|CoU X80 e [a,b] 2) emp c80L0b c80L0
def c80L1:=(λe a b c=>cV<|CoU X80 e [a,b,c] 3) emp c80L0b c80L0 c80L1b
def c80:=(λe a b c d=>cV<|CoU X80 e [a,b,c,d] 4) emp c80L0b c80L0 c80L1b c80L1
def c81:=(λe s0 s1=>cV<|coY (CoX e [(353,s0),(378,s1)] [] f81) [] 0) emp (B [97]) (B [122])
def X82(e)(N):=cV<|CoX e [] [] f82 N
def c82L0b:=(λe=>cV<|CoU X82 e [] 0) emp
def c82L0:=(λe a=>cV<|CoU X82 e [a] 1) emp c82L0b
def c82:=(λe a b=>cV<|CoU X82 e [a,b] 2) emp c82L0b c82L0
def X83(e)(N):=cV<|CoX e [] [(100,1),(1500,2)] f83 N
def c83L0b:=(λe=>cV<|CoU X83 e [] 0) emp
def c83L0:=(λe a=>cV<|CoU X83 e [a] 1) emp c83L0b
def c83L1b:=(λe a b=>cV<|CoU X83 e [a,b] 2) emp c83L0b c83L0
def c83L1:=(λe a b c=>cV<|CoU X83 e [a,b,c] 3) emp c83L0b c83L0 c83L1b
def c83:=(λe a b c d=>cV<|CoU X83 e [a,b,c,d] 4) emp c83L0b c83L0 c83L1b c83L1
def c84:=(λe=>cV<|CoW [] f84 e) emp
def X85(e)(N):=cV<|CoX e [] [] f85 N
def c85L0b:=(λe=>cV<|CoU X85 e [] 0) emp
def c85L0:=(λe a=>cV<|CoU X85 e [a] 1) emp c85L0b
def c85:=(λe a b=>cV<|CoU X85 e [a,b] 2) emp c85L0b c85L0
def X86(e)(N):=cV<|CoX e [] [(1,1),(199,401),(100,1),(402,1),(602,1),(702,1),(904,1),(1102,1),(1202,1),(1402,1),(1602,1),(2202,1),(2602,1),(2802,1),(2902,1),(3002,1),(3102,1)] f86 N
def c86L0b:=(λe=>cV<|CoU X86 e [] 0) emp
def c86L0:=(λe a=>cV<|CoU X86 e [a] 1) emp c86L0b
def c86:=(λe a b=>cV<|CoU X86 e [a,b] 2) emp c86L0b c86L0
def X87(e)(N):=cV<|CoX e [] [] f87 N
def c87L0b:=(λe=>cV<|CoU X87 e [] 0) emp
def c87L0:=(λe a=>cV<|CoU X87 e [a] 1) emp c87L0b
def c87:=(λe a b=>cV<|CoU X87 e [a,b] 2) emp c87L0b c87L0
def c88:=(λe=>cV<|CoW [] f88 e) emp
def c89:=(λe s0=>cV<|coY (CoX e [(376,s0)] [(104,2)] f89) [] 0) emp (B [120])
def c90:=(λe=>cV<|CoW [(0,1)] f90 e) emp
def X91(e)(N):=cV<|CoX e [] [(105,1)] f91 N
def c91L0b:=(λe=>cV<|CoU X91 e [] 0) emp
def c91L0:=(λe a=>cV<|CoU X91 e [a] 1) emp c91L0b
def s91p0:=(λe a b=>cV<|Zr2 (CoU X91 e [a,b] 2) [0]) emp c91L0b c91L0
def s91p1:=(λe a b=>cV<|Zr2 (CoU X91 e [a,b] 2) [1,0]) emp c91L0b c91L0
def s91p2:=(λe a b=>cV<|Zr2 (CoU X91 e [a,b] 2) [1,1,0]) emp c91L0b c91L0
def s91p3:=(λe a b=>cV<|Zr2 (CoU X91 e [a,b] 2) [1,1,1,0]) emp c91L0b c91L0
def s91p4:=(λe a b=>cV<|Zr2 (CoU X91 e [a,b] 2) [1,1,1,1,0]) emp c91L0b c91L0
def s91p5:=(λe a b=>cV<|Zr2 (CoU X91 e [a,b] 2) [1,1,1,1,1,0]) emp c91L0b c91L0
def s91p6:=(λe a b=>cV<|Zr2 (CoU X91 e [a,b] 2) [1,1,1,1,1,1,0]) emp c91L0b c91L0
def s91p7:=(λe a b=>cV<|Zr2 (CoU X91 e [a,b] 2) [1,1,1,1,1,1,1,0]) emp c91L0b c91L0
def s91p8:=(λe a b=>cV<|Zr2 (CoU X91 e [a,b] 2) [1,1,1,1,1,1,1,1,0]) emp c91L0b c91L0
def s91p9:=(λe a b=>cV<|Zr2 (CoU X91 e [a,b] 2) [1,1,1,1,1,1,1,1,1,0]) emp c91L0b c91L0
def s91p10:=(λe a b=>cV<|Zr2 (CoU X91 e [a,b] 2) [1,1,1,1,1,1,1,1,1,1,0]) emp c91L0b c91L0
def c91:ACode:=.seq s91p0<|.seq s91p1<|.seq s91p2<|.seq s91p3<|.seq s91p4<|.seq s91p5<|.seq s91p6<|.seq s91p7<|.seq s91p8<|.seq s91p9<|.seq s91p10 .ret
def c92:=(λe=>cV<|CoW [] f92 e) emp
def c93:=(λe=>cV<|CoW [(100,2),(101,1),(301,1),(401,1)] f93 e) emp
def X94(e)(N):=cV<|CoX e [] [(100,1),(402,1),(902,1),(1402,1),(1902,1),(2402,1)] f94 N
def c94L0b:=(λe=>cV<|CoU X94 e [] 0) emp
def c94L0:=(λe a=>cV<|CoU X94 e [a] 1) emp c94L0b
def c94L1b:=(λe a b=>cV<|CoU X94 e [a,b] 2) emp c94L0b c94L0
def c94L1:=(λe a b c=>cV<|CoU X94 e [a,b,c] 3) emp c94L0b c94L0 c94L1b
def c94L2b:=(λe a b c d=>cV<|CoU X94 e [a,b,c,d] 4) emp c94L0b c94L0 c94L1b c94L1
def c94L2:=(λe a b c d g=>cV<|CoU X94 e [a,b,c,d,g] 5) emp c94L0b c94L0 c94L1b c94L1 c94L2b
def c94L3b:=(λe a b c d g h=>cV<|CoU X94 e [a,b,c,d,g,h] 6) emp c94L0b c94L0 c94L1b c94L1 c94L2b c94L2
def c94L3:=(λe a b c d g h i=>cV<|CoU X94 e [a,b,c,d,g,h,i] 7) emp c94L0b c94L0 c94L1b c94L1 c94L2b c94L2 c94L3b
def c94L4b:=(λe a b c d g h i j=>cV<|CoU X94 e [a,b,c,d,g,h,i,j] 8) emp c94L0b c94L0 c94L1b c94L1 c94L2b c94L2 c94L3b c94L3
def c94L4:=(λe a b c d g h i j k=>cV<|CoU X94 e [a,b,c,d,g,h,i,j,k] 9) emp c94L0b c94L0 c94L1b c94L1 c94L2b c94L2 c94L3b c94L3 c94L4b
def c94:=(λe a b c d g h i j k l=>cV<|CoU X94 e [a,b,c,d,g,h,i,j,k,l] 10) emp c94L0b c94L0 c94L1b c94L1 c94L2b c94L2 c94L3b c94L3 c94L4b c94L4
def X95(e)(N):=cV<|CoX e [] [(402,1),(505,1)] f95 N
def c95L0b:=(λe=>cV<|CoU X95 e [] 0) emp
def c95L0:=(λe a=>cV<|CoU X95 e [a] 1) emp c95L0b
def c95:=(λe a b=>cV<|CoU X95 e [a,b] 2) emp c95L0b c95L0
def X96(e)(N):=cV<|CoX e [] [(702,1),(1502,1)] f96 N
def c96L0b:=(λe=>cV<|CoU X96 e [] 0) emp
def c96L0:=(λe a=>cV<|CoU X96 e [a] 1) emp c96L0b
def c96L1b:=(λe a b=>cV<|CoU X96 e [a,b] 2) emp c96L0b c96L0
def c96L1:=(λe a b c=>cV<|CoU X96 e [a,b,c] 3) emp c96L0b c96L0 c96L1b
def c96L2b:=(λe a b c d=>cV<|CoU X96 e [a,b,c,d] 4) emp c96L0b c96L0 c96L1b c96L1
def c96L2:=(λe a b c d g=>cV<|CoU X96 e [a,b,c,d,g] 5) emp c96L0b c96L0 c96L1b c96L1 c96L2b
def c96L3b:=(λe a b c d g h=>cV<|CoU X96 e [a,b,c,d,g,h] 6) emp c96L0b c96L0 c96L1b c96L1 c96L2b c96L2
def c96L3:=(λe a b c d g h i=>cV<|CoU X96 e [a,b,c,d,g,h,i] 7) emp c96L0b c96L0 c96L1b c96L1 c96L2b c96L2 c96L3b
def c96:=(λe a b c d g h i j=>cV<|CoU X96 e [a,b,c,d,g,h,i,j] 8) emp c96L0b c96L0 c96L1b c96L1 c96L2b c96L2 c96L3b c96L3
def c97:=(λe=>cV<|CoW [(219,2)] f97 e) emp
def c98:=(λe=>cV<|CoW [] f98 e) emp
def c99:=(λe=>cV<|CoW [(100,2)] f99 e) emp
def c100:=(λe=>cV<|CoW [(100,2)] f100 e) emp
def Zxj(e)(N):=cV<|CoX e [] [] f104 N
def c104L0b:=(λe=>cV<|CoU Zxj e [] 0) emp
def c104L0:=(λe a=>cV<|CoU Zxj e [a] 1) emp c104L0b
def c104:=(λe a b=>cV<|CoU Zxj e [a,b] 2) emp c104L0b c104L0
def ZQJ(e)(N):=cV<|CoX e [] [] f105 N
def c105L0b:=(λe=>cV<|CoU ZQJ e [] 0) emp
def c105L0:=(λe a=>cV<|CoU ZQJ e [a] 1) emp c105L0b
def c105:=(λe a b=>cV<|CoU ZQJ e [a,b] 2) emp c105L0b c105L0
def ZQK(e)(N):=cV<|CoX e [] [(505,1),(604,1)] f106 N
def c106L0b:=(λe=>cV<|CoU ZQK e [] 0) emp
def c106L0:=(λe a=>cV<|CoU ZQK e [a] 1) emp c106L0b
def c106:=(λe a b=>cV<|CoU ZQK e [a,b] 2) emp c106L0b c106L0
def c107:=(λe=>cV<|CoW [(1,1)] f107 e) emp
def Zxk(e)(N):=cV<|CoX e [] [(306,1)] f108 N
def c108L0b:=(λe=>cV<|CoU Zxk e [] 0) emp
def c108L0:=(λe a=>cV<|CoU Zxk e [a] 1) emp c108L0b
def c108:=(λe a b=>cV<|CoU Zxk e [a,b] 2) emp c108L0b c108L0
def c109:=(λe=>cV<|CoW [(100,2)] f109 e) emp
def c110:=(λe=>cV<|CoW [] f110 e) emp
def c111:=(λe=>cV<|CoW [] f111 e) emp
def c112:=(λe=>cV<|CoW [] f112 e) emp
def c113:=(λe=>cV<|CoW [] f113 e) emp
def c114:=(λe=>cV<|CoW [] f114 e) emp
def c115:=(λe=>cV<|CoW [] f115 e) emp
def ZQL(e)(N):=cV<|CoX e [] [(303,1)] f116 N
def c116L0b:=(λe=>cV<|CoU ZQL e [] 0) emp
def c116L0:=(λe a=>cV<|CoU ZQL e [a] 1) emp c116L0b
def c116:=(λe a b=>cV<|CoU ZQL e [a,b] 2) emp c116L0b c116L0
def c117:=(λe=>cV<|CoW [] f117 e) emp
def ZLC(e)(N):=cV<|CoX e [] [(100,1),(402,1),(1004,2)] f118 N
def c118L0b:=(λe=>cV<|CoU ZLC e [] 0) emp
def c118L0:=(λe a=>cV<|CoU ZLC e [a] 1) emp c118L0b
def c118:=(λe a b=>cV<|CoU ZLC e [a,b] 2) emp c118L0b c118L0
def c119:=(λe=>cV<|CoW [] f119 e) emp
def c120:=(λe=>cV<|CoW [(103,2)] f120 e) emp
def c121:=(λe=>cV<|CoW [] f121 e) emp
def c122:=(λe=>cV<|CoW [] f122 e) emp
def c123:=(λe=>cV<|CoW [] f123 e) emp
def c124:=(λe=>cV<|CoW [] f124 e) emp
def c125:=(λe=>cV<|CoW [] f125 e) emp
def c126:=(λe=>cV<|CoW [(112,2)] f126 e) emp
def ZQM(e)(N):=cV<|CoX e [] [(100,1),(402,1),(900,2),(903,2)] f127 N
def c127L0b:=(λe=>cV<|CoU ZQM e [] 0) emp
def c127L0:=(λe a=>cV<|CoU ZQM e [a] 1) emp c127L0b
def c127:=(λe a b=>cV<|CoU ZQM e [a,b] 2) emp c127L0b c127L0
def c128:=(λe=>cV<|CoW [(100,2)] f128 e) emp
def c129:=(λe=>cV<|CoW [(109,1)] f129 e) emp
def c130:=(λe=>cV<|CoW [(107,1)] f130 e) emp
def c131:=(λe=>cV<|CoW [] f131 e) emp
def c132:=(λe=>cV<|CoW [] f132 e) emp
def c133:=(λe=>cV<|CoW [(100,2)] f133 e) emp
def ZLF(e)(N):=cV<|CoX e [] [(202,1),(314,1),(702,1),(1008,1),(1402,1),(1526,1),(1902,1),(2008,1)] f135 N
def c135L0b:=(λe=>cV<|CoU ZLF e [] 0) emp
def c135L0:=(λe a=>cV<|CoU ZLF e [a] 1) emp c135L0b
def c135L1b:=(λe a b=>cV<|CoU ZLF e [a,b] 2) emp c135L0b c135L0
def c135L1:=(λe a b c=>cV<|CoU ZLF e [a,b,c] 3) emp c135L0b c135L0 c135L1b
def c135L2b:=(λe a b c d=>cV<|CoU ZLF e [a,b,c,d] 4) emp c135L0b c135L0 c135L1b c135L1
def c135L2:=(λe a b c d g=>cV<|CoU ZLF e [a,b,c,d,g] 5) emp c135L0b c135L0 c135L1b c135L1 c135L2b
def c135L3b:=(λe a b c d g h=>cV<|CoU ZLF e [a,b,c,d,g,h] 6) emp c135L0b c135L0 c135L1b c135L1 c135L2b c135L2
def c135L3:=(λe a b c d g h i=>cV<|CoU ZLF e [a,b,c,d,g,h,i] 7) emp c135L0b c135L0 c135L1b c135L1 c135L2b c135L2 c135L3b
def c135:=(λe a b c d g h i j=>cV<|CoU ZLF e [a,b,c,d,g,h,i,j] 8) emp c135L0b c135L0 c135L1b c135L1 c135L2b c135L2 c135L3b c135L3
def c136:=(λe=>cV<|CoW [(100,2)] f136 e) emp
def ZLG(e)(N):=cV<|CoX e [] [] f137 N
def c137L0b:=(λe=>cV<|CoU ZLG e [] 0) emp
def c137L0:=(λe a=>cV<|CoU ZLG e [a] 1) emp c137L0b
def c137:=(λe a b=>cV<|CoU ZLG e [a,b] 2) emp c137L0b c137L0
def ZQN(e)(N):=cV<|CoX e [] [] f139 N
def c139L0b:=(λe=>cV<|CoU ZQN e [] 0) emp
def c139L0:=(λe a=>cV<|CoU ZQN e [a] 1) emp c139L0b
def c139:=(λe a b=>cV<|CoU ZQN e [a,b] 2) emp c139L0b c139L0
def ZQO(e)(N):=cV<|CoX e [] [] f140 N
def c140L0b:=(λe=>cV<|CoU ZQO e [] 0) emp
def c140L0:=(λe a=>cV<|CoU ZQO e [a] 1) emp c140L0b
def c140:=(λe a b=>cV<|CoU ZQO e [a,b] 2) emp c140L0b c140L0
def ZQP(e)(N):=cV<|CoX e [] [] f141 N
def c141L0b:=(λe=>cV<|CoU ZQP e [] 0) emp
def c141L0:=(λe a=>cV<|CoU ZQP e [a] 1) emp c141L0b
def c141:=(λe a b=>cV<|CoU ZQP e [a,b] 2) emp c141L0b c141L0
def ZQQ(e)(N):=cV<|CoX e [] [] f142 N
def c142L0b:=(λe=>cV<|CoU ZQQ e [] 0) emp
def c142L0:=(λe a=>cV<|CoU ZQQ e [a] 1) emp c142L0b
def c142:=(λe a b=>cV<|CoU ZQQ e [a,b] 2) emp c142L0b c142L0
def c143:=(λe=>cV<|CoW [] f143 e) emp
def c144:=(λe=>cV<|CoW [] f144 e) emp
def ZQR(e)(N):=cV<|CoX e [] [] f145 N
def c145L0b:=(λe=>cV<|CoU ZQR e [] 0) emp
def c145L0:=(λe a=>cV<|CoU ZQR e [a] 1) emp c145L0b
def c145:=(λe a b=>cV<|CoU ZQR e [a,b] 2) emp c145L0b c145L0
def ZQS(e)(N):=cV<|CoX e [] [(504,1),(603,1)] f146 N
def c146L0b:=(λe=>cV<|CoU ZQS e [] 0) emp
def c146L0:=(λe a=>cV<|CoU ZQS e [a] 1) emp c146L0b
def c146:=(λe a b=>cV<|CoU ZQS e [a,b] 2) emp c146L0b c146L0
def c147:=(λe=>cV<|CoW [] f147 e) emp
def c148:=(λe=>cV<|CoW [] f148 e) emp
def c149:=(λe=>cV<|CoW [(0,1)] f149 e) emp
def c150:=(λe=>cV<|CoW [] f150 e) emp
def ZQT(e)(N):=cV<|CoX e [] [] f151 N
def c151L0b:=(λe=>cV<|CoU ZQT e [] 0) emp
def c151L0:=(λe a=>cV<|CoU ZQT e [a] 1) emp c151L0b
def c151:=(λe a b=>cV<|CoU ZQT e [a,b] 2) emp c151L0b c151L0
def c152:=(λe=>cV<|CoW [] f152 e) emp
def c153:=(λe=>cV<|CoW [] f153 e) emp
def c154:=(λe=>cV<|CoW [] f154 e) emp
def c155:=(λe=>cV<|CoW [(100,2)] f155 e) emp
def c156:=(λe=>cV<|CoW [] f156 e) emp
def c159:=(λe=>cV<|CoW [] f159 e) emp
def c160:=(λe=>cV<|CoW [(100,2)] f160 e) emp
def ZQU(e)(N):=cV<|CoX e [] [(100,1),(200,2),(201,1),(300,1),(400,1)] f161 N
def c161R0a:=(λe=>cV<|CoU ZQU e [] 0) emp
def c161R0b:=(λe a=>cV<|CoU ZQU e [a] 1) emp c161R0a
def c161:=(λe a b=>cV<|CoU ZQU e [a,b] 2) emp c161R0a c161R0b
def Zxo(e)(N):=cV<|CoX e [] [(511,1),(512,1)] f162 N
def c162L0b:=(λe=>cV<|CoU Zxo e [] 0) emp
def c162L0:=(λe a=>cV<|CoU Zxo e [a] 1) emp c162L0b
def c162L1b:=(λe a b=>cV<|CoU Zxo e [a,b] 2) emp c162L0b c162L0
def c162L1:=(λe a b c=>cV<|CoU Zxo e [a,b,c] 3) emp c162L0b c162L0 c162L1b
def c162:=(λe a b c d=>cV<|CoU Zxo e [a,b,c,d] 4) emp c162L0b c162L0 c162L1b c162L1
def ZLI(e)(N):=cV<|CoX e [] [(1,1),(2,1),(100,2),(101,1),(200,1),(300,1)] f163 N
def c163R0a:=(λe=>cV<|CoU ZLI e [] 0) emp
def c163R0b:=(λe a=>cV<|CoU ZLI e [a] 1) emp c163R0a
def c163:=(λe a b=>cV<|CoU ZLI e [a,b] 2) emp c163R0a c163R0b
def c167:=(λe=>cV<|CoW [] f167 e) emp
def ZQV(e)(N):=cV<|CoX e [] [(303,1),(400,1),(806,1)] f168 N
def c168L0b:=(λe=>cV<|CoU ZQV e [] 0) emp
def c168L0:=(λe a=>cV<|CoU ZQV e [a] 1) emp c168L0b
def c168:=(λe a b=>cV<|CoU ZQV e [a,b] 2) emp c168L0b c168L0
def c169:=(λe s0=>cV<|coY (CoX e [(288,s0)] [] f169) [] 0) emp (B [32])
def ZQW(e)(N):=cV<|CoX e [] [(402,1)] f170 N
def c170L0b:=(λe=>cV<|CoU ZQW e [] 0) emp
def c170L0:=(λe a=>cV<|CoU ZQW e [a] 1) emp c170L0b
def c170:=(λe a b=>cV<|CoU ZQW e [a,b] 2) emp c170L0b c170L0
def ZQX(e)(N):=cV<|CoX e [] [] f171 N
def c171L0b:=(λe=>cV<|CoU ZQX e [] 0) emp
def c171L0:=(λe a=>cV<|CoU ZQX e [a] 1) emp c171L0b
def c171:=(λe a b=>cV<|CoU ZQX e [a,b] 2) emp c171L0b c171L0
def c172:=(λe=>cV<|CoW [(100,2)] f172 e) emp
def c173:=(λe=>cV<|CoW [] f173 e) emp
def c174:=(λe=>cV<|CoW [] f174 e) emp
def ZLL(e)(N):=cV<|CoX e [] [(302,1)] f175 N
def c175L0b:=(λe=>cV<|CoU ZLL e [] 0) emp
def c175L0:=(λe a=>cV<|CoU ZLL e [a] 1) emp c175L0b
def c175:=(λe a b=>cV<|CoU ZLL e [a,b] 2) emp c175L0b c175L0
def c176:=(λe=>cV<|CoW [] f176 e) emp
def c177:=(λe=>cV<|CoW [] f177 e) emp
def ZQY(e)(N):=cV<|CoX e [] [(402,1)] f178 N
def c178L0b:=(λe=>cV<|CoU ZQY e [] 0) emp
def c178L0:=(λe a=>cV<|CoU ZQY e [a] 1) emp c178L0b
def c178:=(λe a b=>cV<|CoU ZQY e [a,b] 2) emp c178L0b c178L0
def c179:=(λe=>cV<|CoW [(100,2)] f179 e) emp
def c180:=(λe=>cV<|CoW [] f180 e) emp
def c181:=(λe=>cV<|CoW [] f181 e) emp
def ZQZ(e)(N):=cV<|CoX e [] [] f182 N
def c182L0b:=(λe=>cV<|CoU ZQZ e [] 0) emp
def c182L0:=(λe a=>cV<|CoU ZQZ e [a] 1) emp c182L0b
def c182:=(λe a b=>cV<|CoU ZQZ e [a,b] 2) emp c182L0b c182L0
def c183:=(λe=>cV<|CoW [] f183 e) emp
def c184:=(λe=>cV<|CoW [] f184 e) emp
def c185:=(λe=>cV<|CoW [] f185 e) emp
def c186:=(λe=>cV<|CoW [(100,2)] f186 e) emp
def c187:=(λe=>cV<|CoW [] f187 e) emp
def c188:=(λe=>cV<|CoW [(100,2)] f188 e) emp
def c189:=(λe=>cV<|CoW [] f189 e) emp
def ZLN(e)(N):=cV<|CoX e [] [] f190 N
def c190L0b:=(λe=>cV<|CoU ZLN e [] 0) emp
def c190L0:=(λe a=>cV<|CoU ZLN e [a] 1) emp c190L0b
def c190:=(λe a b=>cV<|CoU ZLN e [a,b] 2) emp c190L0b c190L0
def c192:=(λe=>cV<|CoW [(100,2)] f192 e) emp
def c193:=(λe=>cV<|CoW [] f193 e) emp
def Zxt(e)(N):=cV<|CoX e [] [] f194 N
def c194L0b:=(λe=>cV<|CoU Zxt e [] 0) emp
def c194L0:=(λe a=>cV<|CoU Zxt e [a] 1) emp c194L0b
def c194:=(λe a b=>cV<|CoU Zxt e [a,b] 2) emp c194L0b c194L0
def c195:=(λe=>cV<|CoW [] f195 e) emp
def c196:=(λe=>cV<|CoW [] f196 e) emp
def c197:=(λe=>cV<|CoW [(106,1),(107,1)] f197 e) emp
def c209:=(λe s0 s1 s2 s3 s4 s5 s6 s7 s8=>cV<|coY (CoX e [(233606820031262824291793228925311306333649869794303002079163341563213949795593257878683467579756910891606622701420032317479258,s0),(1436506918544312769132601,s1),(351,s2),(18876682,s3),(291,s4),(290,s5),(289,s6),(80958,s7),(24970544417651213645683474901805,s8)] [(0,1),(100,1),(301,1),(401,1),(501,1),(601,1),(701,1),(801,1),(901,1),(1001,1),(1101,1)] f209) [] 0) emp (B [97,98,99,100,101,102,103,104,105,106,107,108,109,110,111,112,113,114,115,116,117,118,119,120,121,122,65,66,67,68,69,70,71,72,73,74,75,76,77,78,79,80,81,82,83,84,85,86,87,88,89,90]) (B [48,49,50,51,52,53,54,55,56,57]) (B [95]) (B [32,9,10]) (B [35]) (B [34]) (B [33]) (B [60,62]) (B [59,44,46,58,40,41,91,93,123,125,61,43,45])
def ZR0(e)(N):=cV<|CoX e [] [] f210 N
def c210L0b:=(λe=>cV<|CoU ZR0 e [] 0) emp
def c210L0:=(λe a=>cV<|CoU ZR0 e [a] 1) emp c210L0b
def c210:=(λe a b=>cV<|CoU ZR0 e [a,b] 2) emp c210L0b c210L0
def c211:=(λe s0 s1=>cV<|coY (CoX e [(74250,s0),(317,s1)] [(0,1)] f211) [] 0) emp (B [34,10]) (B [61])
def c213:=(λe=>cV<|CoW [] f213 e) emp
def ZR1(e)(N):=cV<|CoX e [] [] f214 N
def c214L0b:=(λe=>cV<|CoU ZR1 e [] 0) emp
def c214L0:=(λe a=>cV<|CoU ZR1 e [a] 1) emp c214L0b
def c214:=(λe a b=>cV<|CoU ZR1 e [a,b] 2) emp c214L0b c214L0
def c215:=(λe=>cV<|CoW [(0,1)] f215 e) emp
def c216:=(λe=>cV<|CoW [] f216 e) emp
def ZR2(e)(N):=cV<|CoX e [] [] f217 N
def c217L0b:=(λe=>cV<|CoU ZR2 e [] 0) emp
def c217L0:=(λe a=>cV<|CoU ZR2 e [a] 1) emp c217L0b
def c217:=(λe a b=>cV<|CoU ZR2 e [a,b] 2) emp c217L0b c217L0
def Zxy(e)(N):=cV<|CoX e [] [] f218 N
def c218L0b:=(λe=>cV<|CoU Zxy e [] 0) emp
def c218L0:=(λe a=>cV<|CoU Zxy e [a] 1) emp c218L0b
def c218:=(λe a b=>cV<|CoU Zxy e [a,b] 2) emp c218L0b c218L0
def Zwj(e)(N):=cV<|CoX e [] [] f219 N
def c219L0b:=(λe=>cV<|CoU Zwj e [] 0) emp
def c219L0:=(λe a=>cV<|CoU Zwj e [a] 1) emp c219L0b
def c219:=(λe a b=>cV<|CoU Zwj e [a,b] 2) emp c219L0b c219L0
def ZxC(e)(N):=cV<|CoX e [] [] f229 N
def c229L0b:=(λe=>cV<|CoU ZxC e [] 0) emp
def c229L0:=(λe a=>cV<|CoU ZxC e [a] 1) emp c229L0b
def c229:=(λe a b=>cV<|CoU ZxC e [a,b] 2) emp c229L0b c229L0
def ZR3(e)(N):=cV<|CoX e [] [(203,1),(310,1)] f230 N
def c230L0b:=(λe=>cV<|CoU ZR3 e [] 0) emp
def c230L0:=(λe a=>cV<|CoU ZR3 e [a] 1) emp c230L0b
def c230:=(λe a b=>cV<|CoU ZR3 e [a,b] 2) emp c230L0b c230L0
def ZR4(e)(N):=cV<|CoX e [] [(302,1)] f231 N
def c231L0b:=(λe=>cV<|CoU ZR4 e [] 0) emp
def c231L0:=(λe a=>cV<|CoU ZR4 e [a] 1) emp c231L0b
def c231:=(λe a b=>cV<|CoU ZR4 e [a,b] 2) emp c231L0b c231L0
def c232:=(λe=>cV<|CoW [(2,1)] f232 e) emp
def c233:=(λe=>cV<|CoW [] f233 e) emp
def c234:=(λe=>cV<|CoW [(503,1)] f234 e) emp
def c235:=(λe=>cV<|CoW [] f235 e) emp
def ZR5(e)(N):=cV<|CoX e [] [] f242 N
def c242L0b:=(λe=>cV<|CoU ZR5 e [] 0) emp
def c242L0:=(λe a=>cV<|CoU ZR5 e [a] 1) emp c242L0b
def c242:=(λe a b=>cV<|CoU ZR5 e [a,b] 2) emp c242L0b c242L0
def ZR6(e)(N):=cV<|CoX e [] [] f243 N
def c243L0b:=(λe=>cV<|CoU ZR6 e [] 0) emp
def c243L0:=(λe a=>cV<|CoU ZR6 e [a] 1) emp c243L0b
def c243:=(λe a b=>cV<|CoU ZR6 e [a,b] 2) emp c243L0b c243L0
def c244:=(λe=>cV<|CoW [] f244 e) emp
def c248:=(λe=>cV<|CoW [] f248 e) emp
def ZLR(e)(N):=cV<|CoX e [] [] f250 N
def c250L0b:=(λe=>cV<|CoU ZLR e [] 0) emp
def c250L0:=(λe a=>cV<|CoU ZLR e [a] 1) emp c250L0b
def c250:=(λe a b=>cV<|CoU ZLR e [a,b] 2) emp c250L0b c250L0
def c255:=(λe=>cV<|CoW [(2,1)] f255 e) emp
def c256:=(λe=>cV<|CoW [] f256 e) emp
def c257:=(λe=>cV<|CoW [] f257 e) emp
def c266:=(λe=>cV<|CoW [] f266 e) emp
def FN0:List (Nat×AFun):=[(3,⟨[.tmp 10],c3⟩),(4,⟨[.tmp 0],c4⟩),(5,⟨[.tmp 4],c5⟩),(6,⟨[.tmp 4,.tmp 5],c6⟩),(7,⟨[.tmp 4,.tmp 5],c7⟩),(8,⟨[.tmp 4],c8⟩),(9,⟨[.tmp 4],c9⟩),(10,⟨[.tmp 4],c10⟩),(11,⟨[.tmp 6],c11⟩),(12,⟨[.tmp 6],c12⟩),(13,⟨[.tmp 6],c13⟩),(14,⟨[.tmp 6],c14⟩),(15,⟨[.cell 0<|some 7],c15⟩),(16,⟨[.cell 2<|some 18],c16⟩)]
def FN1:List (Nat×AFun):=[(17,⟨[.tmp 2],c17⟩),(18,⟨[.tmp 2],c18⟩),(19,⟨[.tmp 2,.tmp 3],c19⟩),(20,⟨[.tmp 2],c20⟩),(21,⟨[.tmp 4],c21⟩),(22,⟨[.tmp 2],c22⟩),(23,⟨[.tmp 2],c23⟩),(24,⟨[.tmp 4],c24⟩),(25,⟨[.tmp 2],c25⟩),(26,⟨[.tmp 4],c26⟩),(27,⟨[.tmp 2],c27⟩),(28,⟨[.tmp 4],c28⟩),(29,⟨[.cell 6 none],c29⟩),(30,⟨[.tmp 6],c30⟩)]
def FN2:List (Nat×AFun):=[(31,⟨[.tmp 2],c31⟩),(32,⟨[.tmp 2],c32⟩),(33,⟨[.cell 2 none],c33⟩),(34,⟨[.tmp 2],c34⟩),(35,⟨[.tmp 2],c35⟩),(36,⟨[.tmp 2],c36⟩),(37,⟨[.tmp 4],c37⟩),(38,⟨[.tmp 4],c38⟩),(39,⟨[.tmp 2],c39⟩),(40,⟨[.tmp 4],c40⟩),(41,⟨[.tmp 4],c41⟩),(42,⟨[.tmp 4],c42⟩),(43,⟨[.tmp 2],c43⟩),(44,⟨[.tmp 2],c44⟩)]
def FN3:List (Nat×AFun):=[(45,⟨[.tmp 2],c45⟩),(46,⟨[.tmp 2],c46⟩),(47,⟨[.tmp 4],c47⟩),(49,⟨[.tmp 2],c49⟩),(50,⟨[.tmp 2],c50⟩),(51,⟨[.tmp 2],c51⟩),(52,⟨[.tmp 2],c52⟩),(53,⟨[.tmp 2],c53⟩),(54,⟨[.tmp 4],c54⟩),(55,⟨[.tmp 2],c55⟩),(56,⟨[.tmp 4],c56⟩),(57,⟨[.tmp 4],c57⟩),(58,⟨[.tmp 2],c58⟩),(59,⟨[.tmp 4],c59⟩)]
def FN4:List (Nat×AFun):=[(60,⟨[.tmp 4],c60⟩),(61,⟨[.tmp 4],c61⟩),(62,⟨[.tmp 2],c62⟩),(63,⟨[.tmp 6],c63⟩),(64,⟨[.cell 2<|some 18],c64⟩),(65,⟨[.cell 0<|some 16],c65⟩),(66,⟨[.tmp 4],c66⟩),(67,⟨[.tmp 3],c67⟩),(68,⟨[.tmp 4],c68⟩),(69,⟨[.tmp 3],c69⟩),(70,⟨[.tmp 2],c70⟩),(71,⟨[.tmp 4],c71⟩),(72,⟨[.tmp 4],c72⟩),(73,⟨[.tmp 3],c73⟩)]
def FN5:List (Nat×AFun):=[(74,⟨[.tmp 4],c74⟩),(75,⟨[.cell 2<|some 18],c75⟩),(76,⟨[.tmp 2],c76⟩),(77,⟨[.tmp 2],c77⟩),(78,⟨[.tmp 2],c78⟩),(79,⟨[.tmp 2],c79⟩),(80,⟨[.tmp 2],c80⟩),(81,⟨[.tmp 2],c81⟩),(82,⟨[.tmp 8],c82⟩),(83,⟨[.tmp 6],c83⟩),(84,⟨[.tmp 2],c84⟩),(85,⟨[.tmp 2],c85⟩),(86,⟨[.cell 2<|some 5],c86⟩),(87,⟨[.tmp 4],c87⟩)]
def FN6:List (Nat×AFun):=[(88,⟨[.tmp 6],c88⟩),(89,⟨[.tmp 2],c89⟩),(90,⟨[.tmp 4],c90⟩),(91,⟨[.tmp 4],c91⟩),(92,⟨[.tmp 4],c92⟩),(93,⟨[.tmp 2],c93⟩),(94,⟨[.tmp 2],c94⟩),(95,⟨[.tmp 2],c95⟩),(96,⟨[.tmp 2],c96⟩),(97,⟨[.tmp 2],c97⟩),(98,⟨[.tmp 2],c98⟩),(99,⟨[.tmp 4],c99⟩),(100,⟨[.tmp 4],c100⟩),(104,⟨[.tmp 4],c104⟩)]
def FN7:List (Nat×AFun):=[(105,⟨[.tmp 4],c105⟩),(106,⟨[.tmp 4],c106⟩),(107,⟨[.cell 2<|some 2],c107⟩),(108,⟨[],c108⟩),(109,⟨[.tmp 3],c109⟩),(110,⟨[.tmp 2],c110⟩),(111,⟨[.tmp 2],c111⟩),(112,⟨[.tmp 2],c112⟩),(113,⟨[.tmp 4],c113⟩),(114,⟨[.tmp 3],c114⟩),(115,⟨[.tmp 3],c115⟩),(116,⟨[.tmp 2],c116⟩),(117,⟨[.tmp 3],c117⟩),(118,⟨[.tmp 2],c118⟩)]
def FN8:List (Nat×AFun):=[(119,⟨[.tmp 2],c119⟩),(120,⟨[.tmp 2],c120⟩),(121,⟨[.tmp 3],c121⟩),(122,⟨[.tmp 2],c122⟩),(123,⟨[.tmp 2],c123⟩),(124,⟨[.tmp 2],c124⟩),(125,⟨[.tmp 4],c125⟩),(126,⟨[.tmp 3],c126⟩),(127,⟨[.tmp 4],c127⟩),(128,⟨[.tmp 4],c128⟩),(129,⟨[.tmp 2],c129⟩),(130,⟨[.tmp 2],c130⟩),(131,⟨[.tmp 3],c131⟩),(132,⟨[.tmp 2],c132⟩)]
def FN9:List (Nat×AFun):=[(133,⟨[.tmp 3],c133⟩),(135,⟨[],c135⟩),(136,⟨[.tmp 4],c136⟩),(137,⟨[.tmp 4],c137⟩),(139,⟨[.tmp 4],c139⟩),(140,⟨[.tmp 4],c140⟩),(141,⟨[.tmp 4],c141⟩),(142,⟨[.tmp 4],c142⟩),(143,⟨[.tmp 2],c143⟩),(144,⟨[.tmp 2],c144⟩),(145,⟨[.tmp 2],c145⟩),(146,⟨[.tmp 2],c146⟩),(147,⟨[.tmp 6],c147⟩),(148,⟨[.tmp 8],c148⟩)]
def ZjY:List (Nat×AFun):=[(149,⟨[.cell 4<|some 2],c149⟩),(150,⟨[.tmp 2],c150⟩),(151,⟨[.tmp 4],c151⟩),(152,⟨[.tmp 6],c152⟩),(153,⟨[.tmp 4],c153⟩),(154,⟨[.tmp 4],c154⟩),(155,⟨[.tmp 4],c155⟩),(156,⟨[.tmp 3],c156⟩),(159,⟨[.tmp 4],c159⟩),(160,⟨[.tmp 4],c160⟩),(161,⟨[.tmp 2],c161⟩),(162,⟨[.tmp 2],c162⟩),(163,⟨[.cell 4 none,.cell 5 none],c163⟩),(167,⟨[.tmp 6],c167⟩)]
def ZjZ:List (Nat×AFun):=[(168,⟨[.tmp 2,.tmp 3,.tmp 4],c168⟩),(169,⟨[.tmp 2],c169⟩),(170,⟨[.tmp 2],c170⟩),(171,⟨[.tmp 2],c171⟩),(172,⟨[.tmp 4],c172⟩),(173,⟨[.tmp 2],c173⟩),(174,⟨[.tmp 2],c174⟩),(175,⟨[.tmp 4],c175⟩),(176,⟨[.tmp 2],c176⟩),(177,⟨[.tmp 4],c177⟩),(178,⟨[.tmp 2],c178⟩),(179,⟨[.tmp 4],c179⟩),(180,⟨[.tmp 3],c180⟩),(181,⟨[.tmp 2],c181⟩)]
def Zk0:List (Nat×AFun):=[(182,⟨[.tmp 4],c182⟩),(183,⟨[.tmp 2],c183⟩),(184,⟨[.tmp 2],c184⟩),(185,⟨[.tmp 6],c185⟩),(186,⟨[.tmp 4],c186⟩),(187,⟨[.tmp 3],c187⟩),(188,⟨[.tmp 4],c188⟩),(189,⟨[.tmp 3],c189⟩),(190,⟨[.tmp 4],c190⟩),(192,⟨[.tmp 4],c192⟩),(193,⟨[.tmp 3],c193⟩),(194,⟨[.tmp 4],c194⟩),(195,⟨[.tmp 2],c195⟩),(196,⟨[.tmp 6],c196⟩)]
def Zsg:List (Nat×AFun):=[(197,⟨[.tmp 8],c197⟩),(209,⟨[.cell 0<|some 256],c209⟩),(210,⟨[.tmp 4],c210⟩),(211,⟨[.cell 4<|some 4,.tmp 5,.tmp 6],c211⟩),(213,⟨[.tmp 2],c213⟩),(214,⟨[.tmp 4],c214⟩),(215,⟨[.cell 0<|some 56],c215⟩),(216,⟨[.tmp 4],c216⟩),(217,⟨[.tmp 4],c217⟩),(218,⟨[.tmp 4],c218⟩),(219,⟨[.tmp 4],c219⟩),(229,⟨[.tmp 4],c229⟩),(230,⟨[],c230⟩),(231,⟨[.tmp 2],c231⟩)]
def Zsh:List (Nat×AFun):=[(232,⟨[.cell 4<|some 6],c232⟩),(233,⟨[.tmp 4],c233⟩),(234,⟨[.tmp 6],c234⟩),(235,⟨[.tmp 6],c235⟩),(242,⟨[],c242⟩),(243,⟨[.tmp 6],c243⟩),(244,⟨[.tmp 4],c244⟩),(248,⟨[.tmp 4],c248⟩),(250,⟨[.tmp 6],c250⟩),(255,⟨[.cell 4<|some 2],c255⟩),(256,⟨[.tmp 4],c256⟩),(257,⟨[.tmp 4],c257⟩),(266,⟨[.tmp 4],c266⟩)]
def ZjW(f:Nat)(l:List<|Nat×AFun):Option AFun:=l.foldr (λp r=>bif Nat.beq f p.1 then some p.2 else r) none
def N0(f:Nat):Option AFun:=bif Nat.blt f 17 then ZjW f FN0 else bif Nat.blt f 31 then ZjW f FN1 else bif Nat.blt f 45 then ZjW f FN2 else bif Nat.blt f 60 then ZjW f FN3 else bif Nat.blt f 74 then ZjW f FN4 else bif Nat.blt f 88 then ZjW f FN5 else bif Nat.blt f 105 then ZjW f FN6 else bif Nat.blt f 119 then ZjW f FN7 else bif Nat.blt f 133 then ZjW f FN8 else bif Nat.blt f 149 then ZjW f FN9 else bif Nat.blt f 168 then ZjW f ZjY else bif Nat.blt f 182 then ZjW f ZjZ else bif Nat.blt f 197 then ZjW f Zk0 else bif Nat.blt f 232 then ZjW f Zsg else ZjW f Zsh
end Go.AM
