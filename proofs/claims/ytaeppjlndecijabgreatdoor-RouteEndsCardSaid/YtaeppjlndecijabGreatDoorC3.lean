/- The code of the abstract machine for the functions that the statement RouteEnds reaches. No condition. -/
import Derived.Test.YtaeppjlndecijabGreatDoorQ3
import Derived.Test.YtaeppjlndecijabGreatDoorProg
set_option linter.unusedVariables false
set_option linter.defProp false
set_option linter.unusedSimpArgs false
set_option linter.unusedSectionVars false
namespace Go.AM
open Go
inductive CoTy where
 |b|i (k:IntKind)|s|sl (e by':Nat)|st (fs:List Nat)|ar (n e:Nat)|mp (k v:Nat)|p|f|j|o
structure CoCx where
 T:Nat->CoTy
 e:ByteArray
 S:List<|Nat×ByteArray
 H:List<|Nat×Nat
 N:Nat->ACode
def ZvB{α:Type}(d:α):List α->Nat->α
 |[],_=>d
 |x::r,n=>bif n==0 then x else ZvB d r<|n-1
def Zwo(T:Nat->CoTy):Nat->Nat->Nat
 |0,_=>1
 |n+1,t=>match T t with
  | .st fs=>fs.foldr (λf s=>Zwo T n f+s) 0
  | .ar k e=>k*Zwo T n e
  |_=>1
def Zw0(T:Nat->CoTy)(e:ByteArray):Nat->Nat->List AV
 |0,_=>[]
 |n+1,t=>match T t with
  | .b=>[.bool false]
  | .i k=>[.int k 0]
  | .s=>[.str e]
  | .sl x _=>[.isl false false (Zwo T n x) []]
  | .st fs=>fs.foldr (λf s=>Zw0 T e n f++s) []
  | .ar k x=>(List.replicate k<|Zw0 T e n x).flatten
  | .mp _ _=>[.nilmap]
  | .p=>[.nilp]
  | .f=>[.nilfn]
  | .j=>[.nilif]
  | .o=>[.bot]
def ZvR(T:Nat->CoTy):Nat->Nat->List Nat
 |0,_=>[]
 |n+1,t=>match T t with
  | .b=>[0]
  | .i _=>[1]
  | .s=>[2]
  | .st fs=>fs.foldr (λf s=>ZvR T n f++s) []
  | .ar k x=>(List.replicate k<|ZvR T n x).flatten
  |_=>[]
def Zw1:CoTy->Bool
 | .st _| .ar _ _=>true
 |_=>false
def ZwJ(b:Bool):AV->AV
 | .isl w _ n l=>.isl w b n l
 |v=>v
def ZvK(X:CoCx)(top:Bool)(t:Nat):AV:=match X.T t with
 | .st _| .ar _ _=>.agg<|Zw0 X.T X.e 9 t
 |_=>ZwJ top<|ZvB .bot (Zw0 X.T X.e 9 t) 0
def ZxZ:AV->AV
 | .agg cs=>.agg<|cs.map<|ZwJ true
 |v=>ZwJ true v
def Zvk(X:CoCx)(t:Nat):Nat:=Zwo X.T 9 t
def ZwK(X:CoCx)(t:Nat):Option Nat:=bif Zw1 (X.T t)then some (Zvk X t)else none
def ZvC(X:CoCx)(t:Nat):Nat:=match X.T t with
 | .sl e _=>e
 | .ar _ e=>e
 |_=>0
def ZwL(X:CoCx)(t:Nat):Nat:=match X.T t with
 | .sl _ y=>y
 |_=>0
def Zwp(X:CoCx)(t:Nat):List Nat:=match X.T t with
 | .st fs=>fs
 |_=>[]
def ZwM(X:CoCx)(t i:Nat):Nat:=((Zwp X t).take i).foldr (λf s=>Zvk X f+s) 0
def ZFJ(e:ByteArray)(k:Nat):List (Nat×ByteArray)->ByteArray
 |[]=>e
 |p::r=>bif p.1==k then p.2 else ZFJ e k r
def Zzy(X:CoCx)(h:Nat)(ex:Bool)(t:Nat):Value->AV
 | .bool b=>.bool b
 | .int k n=>.int k n
 | .string s=>.str (match s.data.toList with|[]=>X.e|l=>ZFJ X.e (l.foldl (λn b=>256*n+b.toNat) 1) X.S)
 | .pointer _=>.nilp
 | .slice _ _ _=>.isl false ex (Zvk X<|ZvC X t) []
 | .map _=>.nilmap
 | .nilFunc=>.nilfn
 | .nilIface=>.nilif
 | .agg _=>ZvK X false t
 |_=>.bot
def Zr1(X:CoCx)(h:Nat)(ex:Bool)(t:Nat):Operand->Arg
 | .tmp t=>.t t
 | .const v=>.c<|Zzy X h ex t v
 | .func f=>.f f
 | .global g=>.g g
def Zw2(X:CoCx)(h:Nat)(ex:Bool):List Operand->List Nat->List Arg
 |x::r,t::ts=>Zr1 X h ex t x::Zw2 X h ex r ts
 |x::r,[]=>Zr1 X h ex 0 x::Zw2 X h ex r []
 |[],_=>[]
def Zzz(X:CoCx)(h:Nat)(c:Call):AOp:=
 let ts:=c.argTypes.toList
 let t:=ZvB 0 ts 0
 match c.callee,c.args.toList with
 | .builtin .len,[x]=>.len (match X.T t with| .s=>0| .sl _ _=>1|_=>2)<|Zr1 X h false t x
 | .builtin .min,[x,y]=>.mm false (Zr1 X h false t x)<|Zr1 X h false t y
 | .builtin .max,[x,y]=>.mm true (Zr1 X h false t x)<|Zr1 X h false t y
 | .builtin .append,[x,y]=>
  bif h%16==3 then .apa (Zvk X<|ZvC X t) (ZwL X t) (Zr1 X h true t x) (Zr1 X h false t y)else bif h%16==2 then .apr (Zvk X<|ZvC X t) (ZwL X t) (Zr1 X h true t x) (Zr1 X h false t y)else .app (h%16==1) (Zvk X<|ZvC X t) (ZwL X t) (Zr1 X h true t x)<|Zr1 X h false t y
 | .value (.func f),l=>.call (h%2==0) f<|Zw2 X h (h/2%2==1) l ts
 | .value x,l=>.callv (h%2==0) (Zr1 X h false 0 x)<|Zw2 X h false l ts
 |_,_=>.bad
def ZzA(X:CoCx)(h:Nat)(ty:Nat):Op->AOp
 | .move x| .assign x=>bif h%16==1 then .own (Zvk X<|ZvC X ty)else bif h%16==2 then .rel (Zr1 X h false ty x)else .mv<|Zr1 X h false ty x
 | .pick a b c=>.pick (Zr1 X h false 0 a) (Zr1 X h false ty b)<|Zr1 X h false ty c
 | .alloc t=>bif h%2==0 then .ibox (Zvk X t) (.c<|bif h/2%2==1 then ZxZ (ZvK X true t)else ZvK X true t)else .box (Zvk X t)<|.c<|bif h/2%2==1 then ZxZ (ZvK X true t)else ZvK X true t
 | .box t x=>bif h%2==0 then .ibox (Zvk X t) (Zr1 X h false t x)else .box (Zvk X t)<|Zr1 X h false t x
 | .build t ps=>match X.T t with
  | .ar _ e=>.build (Zw0 X.T X.e 9 t)<|ps.toList.map λp=>(p.1*Zvk X e,Zvk X e,Zr1 X h false e p.2)
  |_=>.build (bif h==1 then(Zw0 X.T X.e 9 t).map (ZwJ true)else bif Nat.blt 1 h then(Zw0 X.T X.e 9 t).set (h-2) .nilsl else Zw0 X.T X.e 9 t)<|ps.toList.map λp=>(ZwM X t p.1,Zvk X<|ZvB 0 (Zwp X t) p.1,Zr1 X h false (ZvB 0 (Zwp X t) p.1) p.2)
 | .buildSlice t n ps=>.bsl (h%2==0) (h/2%2==1) (Zvk X<|ZvC X t) (ZvK X false<|ZvC X t) n<|ps.toList.map λp=>(p.1,Zr1 X h false (ZvC X t) p.2)
 | .load t x=>bif h==0 then .load (ZwK X t) (Zr1 X h false 0 x)else .ldr (Zvk X t) h<|Zr1 X 0 false 0 x
 | .store t a x=>.store (Zvk X t) (Zr1 X h false 0 a)<|Zr1 X h false t x
 | .nilCheck x=>.nilck<|Zr1 X h false 0 x
 | .binOp op t x y _=>match op,X.T t with
  | .eql,.i _| .neq,.i _| .eql,.s| .neq,.s=>.bin op (Zr1 X h false t x)<|Zr1 X h false t y
  | .eql,.p=>.isn false<|Zr1 X h false t x
  | .neq,.p=>.isn true<|Zr1 X h false t x
  | .eql,k=>.eqv false (Zw1 k) (ZvR X.T 9 t) (Zr1 X h false t x)<|Zr1 X h false t y
  | .neq,k=>.eqv true (Zw1 k) (ZvR X.T 9 t) (Zr1 X h false t x)<|Zr1 X h false t y
  |_,_=>.bin op (Zr1 X h false t x)<|Zr1 X h false t y
 | .unOp op t x=>.un op<|Zr1 X h false t x
 | .convert _ d x=>.conv (match X.T d with| .i k=>some k|_=>none)<|Zr1 X h false d x
 | .field t x i=>.fld (ZwK X<|ZvB 0 (Zwp X t) i) (ZwM X t i)<|Zr1 X h false t x
 | .fieldAddr t x i=>.fadr (ZwM X t i)<|Zr1 X h false t x
 | .indexAddr t x i=>match X.T t with
  | .ar n e=>.aadr (Zvk X e) n (Zr1 X h false 0 x)<|Zr1 X h false 0 i
  |_=>.iadr (Zvk X<|ZvC X t) (Zr1 X h false t x)<|Zr1 X h false 0 i
 | .index t x i=>match X.T t with
  | .ar n e=>.aidx (ZwK X e) (Zvk X e) n (Zr1 X h false t x)<|Zr1 X h false 0 i
  |_=>.sidx (Zr1 X h false 0 x)<|Zr1 X h false 0 i
 | .extract x i=>.ext (Zr1 X h false 0 x) i
 | .makeFunc fn a b=>.mkf fn (Zw2 X h false a.toList [])<|Zw2 X h false b.toList []
 | .makeMap _ _=>.mkm
 | .insert t m k v=>match X.T t with
  | .mp a b=>.ins (Zw1<|X.T a) (ZvR X.T 9 a) (Zr1 X h false 0 m) (Zr1 X h false a k)<|Zr1 X h false b v
  |_=>.bad
 | .mapUpdate t m k v=>match X.T t with
  | .mp a b=>.mupd (Zw1<|X.T a) (ZvR X.T 9 a) (Zr1 X h false 0 m) (Zr1 X h false a k)<|Zr1 X h false b v
  |_=>.bad
 | .lookup t m k ok=>match X.T t with
  | .mp a b=>.lkp (Zw1<|X.T a) (ZvR X.T 9 a) ok (ZvK X (h==1) b) (Zr1 X h false 0 m)<|Zr1 X h false a k
  |_=>.bad
 | .makeSlice t l c=>.mks (Zvk X<|ZvC X t) (ZvK X false<|ZvC X t) (ZwL X t) (Zr1 X h false 0 l)<|Zr1 X h false 0 c
 | .slice t x a b c=>match X.T t with
  | .ar n _=>.asl n (Zr1 X 0 false 0 x) (match b with|some y=>Zr1 X 0 false 0 y|none=>.c .bot)
  | .s=>.ssl (Zr1 X h false t x) (a.map<|Zr1 X h false 0)<|b.map<|Zr1 X h false 0
  |_=>.slc (Zvk X<|ZvC X t) (Zr1 X h false t x) (a.map<|Zr1 X h false 0) (b.map<|Zr1 X h false 0)<|c.map<|Zr1 X h false 0
 | .range _ x=>.rng<|Zr1 X h false 0 x
 | .next x _=>.nxt<|Zr1 X h false 0 x
 | .makeInterface t x=>.mkif t<|Zr1 X h false t x
 | .call c=>Zzz X h c
 |_=>.bad
def Zwq:Operand->Nat
 | .tmp t=>1 <<< t
 |_=>0
def ZwN(l:List Operand):Nat:=l.foldr (λx m=>Zwq x ||| m) 0
def ZzB:Op->List Operand
 | .call c=>(match c.callee with| .value f=>[f]|_=>[])++c.args.toList
 | .build _ ps| .buildSlice _ _ ps=>ps.toList.map (·.2)
 | .makeFunc _ a b=>a.toList++b.toList
 | .slice _ x a b c=>x::(a.toList++(b.toList++c.toList))
 | .makeMap _ r=>r.toList
 | .move x| .assign x| .box _ x| .load _ x| .nilCheck x| .unOp _ _ x| .convert _ _ x| .makeInterface _ x| .fieldAddr _ x _| .field _ x _| .range _ x| .next x _| .extract x _=>[x]
 | .pick c a b=>[c,a,b]
 | .store _ a v| .binOp _ _ a v _| .makeSlice _ a v| .indexAddr _ a v| .index _ a v| .lookup _ a v _=>[a,v]
 | .mapUpdate _ m k v| .insert _ m k v=>[m,k,v]
 |_=>[]
def ZwO(l:List Oper)(j:Nat):Option Nat:=match l with
 |[]=>none
 |o::r=>bif j==0 then o.dst else ZwO r<|j-1
def ZzC(ops:List Oper):Option (Nat×Bool)->Nat
 |some (j,_)=>(match ZwO ops j with|some d=>1 <<< d|none=>0)
 |none=>0
def Zy0(ops:List Oper)(o:Oper)(m:Nat):Nat:=
 (match o.dst with|some d=>(m ||| (1 <<< d)) ^^^ (1 <<< d)|none=>m) ||| (ZwN (ZzB o.op) ||| ZzC ops o.guard)
def ZvO:List (Nat×Nat)->Nat->Nat
 |[],_=>0
 |p::r,i=>bif p.1==i then p.2 else ZvO r i
def Zy1(f:Nat->Nat):Nat->Nat->Nat
 |0,l=>l
 |n+1,l=>(λm=>bif m==l then l else Zy1 f n m) (l ||| f l)
def ZzD(x:List<|Nat×Nat):Nat:=x.foldr (λp m=>p.2 ||| m) 0
def ZvD:List (Nat×Nat)->Nat->Code->Nat->Nat
 |_,_,.region _ ops _,out=>ops.toList.foldr (Zy0 ops.toList) out
 |x,rt,.seq a b,out=>ZvD x rt a<|ZvD x rt b out
 |x,rt,.cond c a b,out=>Zwq c ||| (ZvD x rt a out ||| ZvD x rt b out)
 |x,rt,.block id b,out=>ZvD ((id,out)::x) rt b out
 |x,rt,.scope b,out=>ZvD x rt b out
 |x,rt,.loop b,_=>Zy1 (λl=>ZvD x rt b l) 8 0
 |x,rt,.rangeFunc f ps a b,out=>(λm=>Zwq f ||| (((m ||| ZwN (ps.toList.map .tmp)) ^^^ ZwN (ps.toList.map .tmp)) ||| (out ||| (ZzD x ||| rt)))) (ZvD [] 0 a<|ZvD [] 0 b 0)
 |x,_,.exit id,_=>ZvO x id
 |_,rt,.ret,_=>rt
 |_,_,_,out=>out
def Zw3:List (Nat×Nat)->Nat->Code->Nat
 |x,_,.exit i=>ZvO x i
 |_,rt,.ret=>rt
 |x,rt,.seq a b|x,rt,.cond _ a b|x,rt,.rangeFunc _ _ a b=>Zw3 x rt a ||| Zw3 x rt b
 |x,rt,.block id b=>Zw3 ((id,0)::x) rt b
 |x,rt,.loop b|x,rt,.scope b=>Zw3 x rt b
 |_,_,_=>0
def Zvs:Code->Nat
 | .seq a b| .cond _ a b=>Zvs a+Zvs b
 | .block _ b| .scope b=>Zvs b
 | .loop b=>Zvs b+1
 | .rangeFunc _ _ a b=>Zvs a+Zvs b+1
 |_=>0
def ZwP:List Nat->Nat->Nat->List Nat->List Nat
 |[],o,m,acc=>bif m==0 then acc else o::acc
 |k::r,o,m,acc=>bif m==0 then acc else ZwP r o (m ^^^ ((m >>> k) <<< k))<|ZwP r (o+k) (m >>> k) acc
def Zw9(m:Nat):List Nat:=ZwP [512,256,128,64,32,16,8,4,2,1] 0 m []
def ZzE(ops:List Oper):Option (Nat×Bool)->Option (Nat×Bool)
 |some (j,b)=>(match ZwO ops j with|some d=>some (d,b)|none=>none)
 |none=>none
def ZwQ(X:CoCx)(ops:List Oper)(r:Nat):List Oper->Nat->List AOper
 |[],_=>[]
 |o::l,i=>⟨o.dst,ZzA X (ZvO X.H<|100*r+i) o.type o.op,ZzE ops o.guard⟩::ZwQ X ops r l (i+1)
def Zy2(ms:List Nat):Nat->Nat
 |0=>0
 |i+1=>bif ZvB 0 ms i%2 ^ i==2 ^ i-1 then Zy2 ms i else i+1
def ZwR(m:Nat)(q:AOp):List AOper->Nat->List Nat
 |[],_=>[]
 |p::l,j=>bif m%2==1||X3 q&&X3 p.op then ZwR (m/2) q l (j+1)else j::ZwR (m/2) q l (j+1)
def Zy3(ms:List Nat)(p1:List AOper):List AOper->Nat->List (List Nat)
 |[],_=>[]
 |q::l,i=>ZwR (ZvB 0 ms i) q.op (p1.take i) 0::Zy3 ms p1 l (i+1)
def ZzF(ms:List Nat)(qs:List AOper):ACode:=(λk=>.draw (Zy3 ms (qs.take k) (qs.take k) 0) (qs.take k)<|qs.drop k) (Zy2 ms qs.length)
def ZFK(n:Nat)(l:List<|Nat×Nat):List (Nat×Nat):=bif n==0 then l else(n/100-1,n%100)::l
def ZzG(X:CoCx)(r:Nat)(ops:List Oper)(out:Nat)(qs:List AOper):ACode:=
 bif ZvO X.H (100*r+99)==0 then(bif Nat.blt 2 qs.length then .keep (Zw9 out) (.region qs)else .region qs)else
 match qs,ops with
 |[⟨some d,.fadr off p,_⟩,⟨_,.store _ _<|.c<|.isl _ _ s _,_⟩],_=>.nils s d off p
 |[⟨some d,_,_⟩],[o]=>match o.op with
  | .alloc t=>.zbox d (Zvk X t) (ZvK X true t)<|ZFK (ZvO X.H<|100*r+99)<|ZFK (ZvO X.H<|100*r+98) []
  |_=>.bad
 |_,_=>.bad
def ZTJ(g:Nat)(c:ACode):ACode:=bif g==0 then c else .ghost (g/10000) (g/100%100) (g%100) c
def ZvL(X:CoCx):List (Nat×Nat)->Nat->Nat->Code->Nat->ACode×Nat×List ACode
 |_,_,_,.skip,out=>(.skip,out,[])
 |_,_,_,.label _,out=>(.skip,out,[])
 |_,_,_,.region r ops d,out=>
  (bif d then .keep (Zw9 out) (ZzF (YS ops.toList [])<|ZwQ X ops.toList r ops.toList 0)else ZTJ (ZvO X.H<|100*r+90)<|ZzG X r ops.toList out<|ZwQ X ops.toList r ops.toList 0,ops.toList.foldr (Zy0 ops.toList) out,[])
 |x,rt,k,.seq a b,out=>
  match ZvL X x rt (k+Zvs a) b out with
  |(cb,lb,db)=>match ZvL X x rt k a lb with
   |(ca,la,da)=>(.seq ca cb,la,da++db)
 |x,rt,k,.cond c a b,out=>
  match ZvL X x rt k a out,ZvL X x rt (k+Zvs a) b out with
  |(ca,la,da),(cb,lb,db)=>(.cond (Zr1 X 0 false 0 c) ca cb,Zwq c ||| (la ||| lb),da++db)
 |x,rt,k,.block id b,out=>
  match ZvL X ((id,out)::x) rt k b out with
  |(cb,lb,db)=>(.keep (Zw9<|out ||| Zw3 x rt (.block id b))<|.block id cb,lb,db)
 |x,rt,k,.scope b,out=>
  match ZvL X x rt k b out with
  |(cb,lb,db)=>(.keep (Zw9<|out ||| Zw3 x rt b) cb,lb,db)
 |x,rt,k,.loop b,_=>
  (λl=>match ZvL X x rt k b l with
   |(cb,_,db)=>(X.N<|2*(k+Zvs b)+1,l,db++[.keep (Zw9<|l ||| Zw3 x rt b) cb,.loop (Zw9 l)<|X.N<|2*(k+Zvs b)])) (ZvD x rt (.loop b) 0)
 |x,rt,k,.rangeFunc f ps a b,out=>
  match ZvL X [] 0 k a (ZvD [] 0 b 0),ZvL X [] 0 (k+Zvs a) b 0 with
  |(ca,_,da),(cb,_,db)=>(.rangeFunc (Zr1 X 0 false 0 f) ps.toList (X.N<|2*(k+Zvs a+Zvs b))<|X.N<|2*(k+Zvs a+Zvs b)+1,ZvD x rt (.rangeFunc f ps a b) out,da++(db++[ca,cb]))
 |x,_,_,.exit id,_=>(.exit id,ZvO x id,[])
 |_,rt,_,.ret,_=>(.ret,rt,[])
 |_,_,_,_,out=>(.bad,out,[])
def Zy4(f:Func):Nat:=f.results.toList.foldr (λr m=>(match r with| .tmp t=>1 <<< t| .cell t _=>1 <<< t) ||| m) 0
def ZzH(X:CoCx)(f:Func):List ACode:=
 match f.body with
 |some c=>match ZvL X [] (Zy4 f) 0 c (Zy4 f)with
  |(q,_,ds)=>ds++[q]
 |none=>[]
abbrev CoV{α:Type}(a:α):={c:α // a=c}
def coY(X:(Nat->ACode)->List ACode)(l:List ACode)(n:Nat):ACode:=ZvB .bad (X<|ZvB .bad l) n
def Zr2:ACode->List Nat->ACode
 |c,[]=>c
 | .seq a b,i::r=>bif i==0 then Zr2 a r else Zr2 b r
 | .cond _ a b,i::r=>bif i==0 then Zr2 a r else Zr2 b r
 | .block _ a,_::r=>Zr2 a r
 | .keep _ a,_::r=>Zr2 a r
 | .loop _ a,_::r=>Zr2 a r
 |c,_=>c
def Zvt(t:Nat):List (Nat×CoTy)->CoTy
 |[]=>.i .i64
 |p::r=>bif p.1==t then p.2 else Zvt t r
end Go.AM
set_option maxRecDepth 100000
namespace Go.AM
open Go Go.Proofs.Tryz
def coT(t:Nat):CoTy:=bif Nat.blt t 177 then bif Nat.blt t 77 then bif Nat.blt t 50 then Zvt t [(4,.b),(5,.i .u8),(9,.s),(21,.i .i32),(22,.sl 74 48),(23,.sl 91 120),(24,.sl 3 8),(25,.sl 121 80),(28,.sl 39 56),(30,.st [28,3,9]),(32,.o),(34,.o),(37,.st [9,3,3,3,4]),(39,.st [3,37]),(44,.sl 9 16),(48,.f)] else Zvt t [(50,.st [22,25,9,3]),(51,.mp 3 59),(52,.sl 226 88),(53,.sl 234 80),(54,.sl 236 56),(55,.sl 167 184),(56,.sl 239 72),(57,.sl 102 16),(59,.st [52,53,54,55,56,57,57]),(60,.o),(61,.sl 31 8),(62,.o),(67,.f),(71,.ar 64 3),(74,.st [24,44]),(76,.st [3,9,3,3])] else bif Nat.blt t 109 then Zvt t [(77,.sl 81 16),(79,.sl 290 40),(81,.st [3,3]),(82,.sl 87 72),(84,.st [3,3,3,3,3,9,9,9,44,79,76,81,77,82]),(85,.sl 84 240),(87,.st [9,76,81]),(89,.st [3,44,44]),(91,.st [3,3,3,9,85,89]),(96,.f),(97,.o),(99,.o),(102,.ar 2 3),(104,.o),(106,.sl 173 32),(108,.st [44,106])] else bif Nat.blt t 146 then Zvt t [(109,.o),(111,.o),(115,.f),(117,.f),(119,.st [3,3]),(121,.st [9,9,9,9,119]),(125,.mp 9 121),(126,.o),(128,.f),(129,.mp 9 3),(130,.o),(132,.sl 136 40),(133,.o),(136,.st [3,3,3,9]),(141,.f),(145,.f)] else Zvt t [(146,.p),(147,.o),(149,.p),(152,.st [146,84,3,3]),(153,.f),(154,.sl 153 8),(157,.f),(158,.p),(159,.ar 16 157),(162,.st [59,3,84,44]),(165,.f),(167,.st [9,9,9,3,76,81,3,3,44,3,3,9]),(168,.f),(170,.st [59,168]),(173,.st [9,3,3]),(175,.f)] else bif Nat.blt t 268 then bif Nat.blt t 227 then Zvt t [(177,.f),(180,.st [9,9,9,9,9,76,81]),(181,.o),(192,.o),(195,.f),(196,.mp 9 4),(199,.ar 256 3),(202,.st [9,199]),(203,.o),(213,.f),(214,.mp 216 4),(216,.st [3,3]),(218,.mp 3 3),(220,.st [59,218]),(222,.ar 16 117),(226,.st [9,3,3,77,79,3])] else Zvt t [(227,.f),(234,.st [9,3,77,79,3]),(236,.st [9,3,77,3]),(239,.st [9,9,9,3,3,3]),(243,.p),(244,.f),(247,.p),(248,.f),(252,.f),(255,.p),(256,.f),(259,.p),(260,.f),(262,.f),(264,.p),(265,.f)] else bif Nat.blt t 343 then Zvt t [(268,.mp 270 4),(270,.st [9,76]),(272,.f),(274,.f),(290,.st [9,3,9]),(297,.j),(298,.o),(300,.f),(301,.p),(317,.f),(320,.f),(328,.mp 3 4),(332,.f),(335,.sl 57 24),(337,.f),(339,.f)] else bif Nat.blt t 452 then Zvt t [(343,.f),(347,.sl 388 48),(366,.sl 81 16),(370,.f),(372,.sl 76 40),(375,.f),(388,.st [9,3,77]),(389,.o),(414,.f),(419,.mp 290 4),(421,.st [3,3]),(422,.ar 28 421),(425,.mp 76 4),(438,.f),(448,.f),(450,.st [81,81])] else Zvt t [(452,.st [3,3]),(454,.st [450,452]),(456,.f),(465,.f)]
@[reducible] def cV{α:Type}(a:α)(h:CoV a:=by exact⟨_,by cbv⟩):α:=h.1
attribute [go_sem ↓] cV
abbrev CoX(e:ByteArray)(S:List<|Nat×ByteArray)(H:List<|Nat×Nat)(f:Func)(N:Nat->ACode):List ACode:=ZzH ⟨coT,e,S,H,N⟩ f
abbrev CoW(H:List<|Nat×Nat)(f:Func)(e:ByteArray):ACode:=coY (CoX e [] H f) [] 0
abbrev CoU(X:ByteArray->(Nat->ACode)->List ACode)(e:ByteArray)(l:List ACode)(n:Nat):ACode:=coY (X e) l n
def ZIK(e)(N):=cV<|CoX e [] [(401,2),(403,2),(412,1),(1405,1),(2908,1)] f3 N
def c3L0b:=(λe=>cV<|CoU ZIK e [] 0) emp
def c3L0:=(λe a=>cV<|CoU ZIK e [a] 1) emp c3L0b
def c3L1b:=(λe a b=>cV<|CoU ZIK e [a,b] 2) emp c3L0b c3L0
def c3L1:=(λe a b c=>cV<|CoU ZIK e [a,b,c] 3) emp c3L0b c3L0 c3L1b
def c3:=(λe a b c d=>cV<|CoU ZIK e [a,b,c,d] 4) emp c3L0b c3L0 c3L1b c3L1
def c4:=(λe s0 s1 s2 s3=>cV<|coY (CoX e [(5929594465,s0),(91441,s1),(91449,s2),(91442,s3)] [(307,1),(407,1),(500,2),(501,2)] f4) [] 0) emp (B [97,110,110,97]) (B [101,49]) (B [101,57]) (B [101,50])
def ZJu(e)(N):=cV<|CoX e [] [(600,2),(601,2),(602,2),(603,2)] f5 N
def c5L0b:=(λe=>cV<|CoU ZJu e [] 0) emp
def c5L0:=(λe a=>cV<|CoU ZJu e [a] 1) emp c5L0b
def c5:=(λe a b=>cV<|CoU ZJu e [a,b] 2) emp c5L0b c5L0
def ZDu(e)(N):=cV<|CoX e [] [(0,1),(301,2),(305,1),(599,106),(500,1),(604,1),(906,1)] f6 N
def c6L0b:=(λe=>cV<|CoU ZDu e [] 0) emp
def c6L0:=(λe a=>cV<|CoU ZDu e [a] 1) emp c6L0b
def c6:=(λe a b=>cV<|CoU ZDu e [a,b] 2) emp c6L0b c6L0
def Zxh(e)(N):=cV<|CoX e [] [(1400,2),(1401,1),(1402,1),(1501,1)] f7 N
def c7L0b:=(λe=>cV<|CoU Zxh e [] 0) emp
def c7L0:=(λe a=>cV<|CoU Zxh e [a] 1) emp c7L0b
def c7L1b:=(λe a b=>cV<|CoU Zxh e [a,b] 2) emp c7L0b c7L0
def c7L1:=(λe a b c=>cV<|CoU Zxh e [a,b,c] 3) emp c7L0b c7L0 c7L1b
def c7:=(λe a b c d=>cV<|CoU Zxh e [a,b,c,d] 4) emp c7L0b c7L0 c7L1b c7L1
def c8:=(λe=>cV<|CoW [(300,2)] f8 e) emp
def c9:=(λe s0 s1=>cV<|coY (CoX e [(90929,s0),(90930,s1)] [] f9) [] 0) emp (B [99,49]) (B [99,50])
def c10:=(λe s0 s1 s2 s3 s4 s5 s6=>cV<|coY (CoX e [(93489,s0),(90930,s1),(95025,s2),(90673,s3),(91441,s4),(91442,s5),(91443,s6)] [(101,1),(308,1),(400,2)] f10) [] 0) emp (B [109,49]) (B [99,50]) (B [115,49]) (B [98,49]) (B [101,49]) (B [101,50]) (B [101,51])
def c11:=(λe=>cV<|CoW [(100,2),(103,2),(117,2)] f11 e) emp
def c12:=(λe=>cV<|CoW [] f12 e) emp
def c13:=(λe s0=>cV<|coY (CoX e [(353,s0)] [(100,2)] f13) [] 0) emp (B [97])
def c14:=(λe=>cV<|CoW [] f14 e) emp
def X15(e)(N):=cV<|CoX e [] [(0,1),(100,1),(200,1),(502,1),(616,1),(900,1)] f15 N
def c15L0b:=(λe=>cV<|CoU X15 e [] 0) emp
def c15L0:=(λe a=>cV<|CoU X15 e [a] 1) emp c15L0b
def c15:=(λe a b=>cV<|CoU X15 e [a,b] 2) emp c15L0b c15L0
def c16:=(λe=>cV<|CoW [(3,1),(406,1),(500,1),(603,1)] f16 e) emp
def c17:=(λe=>cV<|CoW [(503,1)] f17 e) emp
def c19:=(λe=>cV<|CoW [] f19 e) emp
def c21:=(λe=>cV<|CoW [(200,2)] f21 e) emp
def X22(e)(N):=cV<|CoX e [] [(0,1),(100,1),(801,1),(1603,3)] f22 N
def c22L0b:=(λe=>cV<|CoU X22 e [] 0) emp
def c22L0:=(λe a=>cV<|CoU X22 e [a] 1) emp c22L0b
def c22L1b:=(λe a b=>cV<|CoU X22 e [a,b] 2) emp c22L0b c22L0
def c22L1:=(λe a b c=>cV<|CoU X22 e [a,b,c] 3) emp c22L0b c22L0 c22L1b
def c22L2b:=(λe a b c d=>cV<|CoU X22 e [a,b,c,d] 4) emp c22L0b c22L0 c22L1b c22L1
def c22L2:=(λe a b c d g=>cV<|CoU X22 e [a,b,c,d,g] 5) emp c22L0b c22L0 c22L1b c22L1 c22L2b
def c22:=(λe a b c d g h=>cV<|CoU X22 e [a,b,c,d,g,h] 6) emp c22L0b c22L0 c22L1b c22L1 c22L2b c22L2
def c23:=(λe=>cV<|CoW [] f23 e) emp
def X24(e)(N):=cV<|CoX e [] [] f24 N
def c24L0b:=(λe=>cV<|CoU X24 e [] 0) emp
def c24L0:=(λe a=>cV<|CoU X24 e [a] 1) emp c24L0b
def c24L1b:=(λe a b=>cV<|CoU X24 e [a,b] 2) emp c24L0b c24L0
def c24L1:=(λe a b c=>cV<|CoU X24 e [a,b,c] 3) emp c24L0b c24L0 c24L1b
def c24:=(λe a b c d=>cV<|CoU X24 e [a,b,c,d] 4) emp c24L0b c24L0 c24L1b c24L1
def X25(e)(N):=cV<|CoX e [] [] f25 N
def c25L0b:=(λe=>cV<|CoU X25 e [] 0) emp
def c25L0:=(λe a=>cV<|CoU X25 e [a] 1) emp c25L0b
def c25L1b:=(λe a b=>cV<|CoU X25 e [a,b] 2) emp c25L0b c25L0
def c25L1:=(λe a b c=>cV<|CoU X25 e [a,b,c] 3) emp c25L0b c25L0 c25L1b
def c25:=(λe a b c d=>cV<|CoU X25 e [a,b,c,d] 4) emp c25L0b c25L0 c25L1b c25L1
def X26(e)(N):=cV<|CoX e [] [] f26 N
def c26L0b:=(λe=>cV<|CoU X26 e [] 0) emp
def c26L0:=(λe a=>cV<|CoU X26 e [a] 1) emp c26L0b
def c26:=(λe a b=>cV<|CoU X26 e [a,b] 2) emp c26L0b c26L0
def c27:=(λe=>cV<|CoW [(100,2)] f27 e) emp
def c28:=(λe=>cV<|CoW [] f28 e) emp
def c29:=(λe=>cV<|CoW [] f29 e) emp
def X30(e)(N):=cV<|CoX e [] [(503,1),(2402,1)] f30 N
def c30L0b:=(λe=>cV<|CoU X30 e [] 0) emp
def c30L0:=(λe a=>cV<|CoU X30 e [a] 1) emp c30L0b
def c30L1b:=(λe a b=>cV<|CoU X30 e [a,b] 2) emp c30L0b c30L0
def c30L1:=(λe a b c=>cV<|CoU X30 e [a,b,c] 3) emp c30L0b c30L0 c30L1b
def c30L2b:=(λe a b c d=>cV<|CoU X30 e [a,b,c,d] 4) emp c30L0b c30L0 c30L1b c30L1
def c30L2:=(λe a b c d g=>cV<|CoU X30 e [a,b,c,d,g] 5) emp c30L0b c30L0 c30L1b c30L1 c30L2b
def c30:=(λe a b c d g h=>cV<|CoU X30 e [a,b,c,d,g,h] 6) emp c30L0b c30L0 c30L1b c30L1 c30L2b c30L2
def X31(e)(N):=cV<|CoX e [] [(702,1),(807,1),(1200,1),(1300,1),(1804,1),(2006,1)] f31 N
def c31L0b:=(λe=>cV<|CoU X31 e [] 0) emp
def c31L0:=(λe a=>cV<|CoU X31 e [a] 1) emp c31L0b
def c31L1b:=(λe a b=>cV<|CoU X31 e [a,b] 2) emp c31L0b c31L0
def c31L1:=(λe a b c=>cV<|CoU X31 e [a,b,c] 3) emp c31L0b c31L0 c31L1b
def c31:=(λe a b c d=>cV<|CoU X31 e [a,b,c,d] 4) emp c31L0b c31L0 c31L1b c31L1
def X32(e)(s0)(s1)(N):=cV<|CoX e [(304,s0),(305,s1)] [] f32 N
def c32L0b:=(λe s0 s1=>cV<|coY (X32 e s0 s1) [] 0) emp (B [48]) (B [49])
def c32L0:=(λe s0 s1 a=>cV<|coY (X32 e s0 s1) [a] 1) emp (B [48]) (B [49]) c32L0b
def c32:=(λe s0 s1 a b=>cV<|coY (X32 e s0 s1) [a,b] 2) emp (B [48]) (B [49]) c32L0b c32L0
def X33(e)(N):=cV<|CoX e [] [(199,102),(100,1),(203,1),(300,1),(502,1)] f33 N
def c33R0a:=(λe=>cV<|CoU X33 e [] 0) emp
def c33R0b:=(λe a=>cV<|CoU X33 e [a] 1) emp c33R0a
def c33:=(λe a b=>cV<|CoU X33 e [a,b] 2) emp c33R0a c33R0b
def X34(e)(N):=cV<|CoX e [] [] f34 N
def c34L0b:=(λe=>cV<|CoU X34 e [] 0) emp
def c34L0:=(λe a=>cV<|CoU X34 e [a] 1) emp c34L0b
def c34:=(λe a b=>cV<|CoU X34 e [a,b] 2) emp c34L0b c34L0
def X35(e)(N):=cV<|CoX e [] [(2,1),(301,1),(406,1),(505,1)] f35 N
def s35p0:=(λe=>cV<|Zr2 (CoU X35 e [] 0) [0]) emp
def s35p1:=(λe=>cV<|Zr2 (CoU X35 e [] 0) [1,0]) emp
def s35p2:=(λe=>cV<|Zr2 (CoU X35 e [] 0) [1,1,0]) emp
def s35p3:=(λe=>cV<|Zr2 (CoU X35 e [] 0) [1,1,1,0]) emp
def s35p4:=(λe=>cV<|Zr2 (CoU X35 e [] 0) [1,1,1,1,0]) emp
def s35p5:=(λe=>cV<|Zr2 (CoU X35 e [] 0) [1,1,1,1,1,0]) emp
def s35p6:=(λe=>cV<|Zr2 (CoU X35 e [] 0) [1,1,1,1,1,1,0]) emp
def c35:ACode:=.seq s35p0<|.seq s35p1<|.seq s35p2<|.seq s35p3<|.seq s35p4<|.seq s35p5<|.seq s35p6 .ret
def X36(e)(N):=cV<|CoX e [] [(1,1),(499,101),(498,203),(400,1),(503,1),(600,1),(1102,1),(1105,1)] f36 N
def c36R0a:=(λe=>cV<|CoU X36 e [] 0) emp
def c36R0b:=(λe a=>cV<|CoU X36 e [a] 1) emp c36R0a
def c36:=(λe a b=>cV<|CoU X36 e [a,b] 2) emp c36R0a c36R0b
def c37:=(λe=>cV<|CoW [(102,1)] f37 e) emp
def c38:=(λe=>cV<|CoW [] f38 e) emp
def c39:=(λe=>cV<|CoW [(306,1),(600,2)] f39 e) emp
def X40(e)(s0)(N):=cV<|CoX e [(596854525520288890912569587242593085089334376262597469555749748,s0)] [] f40 N
def c40L0b:=(λe s0=>cV<|coY (X40 e s0) [] 0) emp (B [115,108,105,99,101,115,46,77,105,110,70,117,110,99,58,32,101,109,112,116,121,32,108,105,115,116])
def c40L0:=(λe s0 a=>cV<|coY (X40 e s0) [a] 1) emp (B [115,108,105,99,101,115,46,77,105,110,70,117,110,99,58,32,101,109,112,116,121,32,108,105,115,116]) c40L0b
def c40:=(λe s0 a b=>cV<|coY (X40 e s0) [a,b] 2) emp (B [115,108,105,99,101,115,46,77,105,110,70,117,110,99,58,32,101,109,112,116,121,32,108,105,115,116]) c40L0b c40L0
def c41:=(λe=>cV<|CoW [] f41 e) emp
def X44(e)(N):=cV<|CoX e [] [(302,1)] f44 N
def c44L0b:=(λe=>cV<|CoU X44 e [] 0) emp
def c44L0:=(λe a=>cV<|CoU X44 e [a] 1) emp c44L0b
def c44:=(λe a b=>cV<|CoU X44 e [a,b] 2) emp c44L0b c44L0
def c45:=(λe=>cV<|CoW [] f45 e) emp
def X46(e)(N):=cV<|CoX e [] [] f46 N
def c46L0b:=(λe=>cV<|CoU X46 e [] 0) emp
def c46L0:=(λe a=>cV<|CoU X46 e [a] 1) emp c46L0b
def c46:=(λe a b=>cV<|CoU X46 e [a,b] 2) emp c46L0b c46L0
def X47(e)(N):=cV<|CoX e [] [] f47 N
def c47L0b:=(λe=>cV<|CoU X47 e [] 0) emp
def c47L0:=(λe a=>cV<|CoU X47 e [a] 1) emp c47L0b
def c47:=(λe a b=>cV<|CoU X47 e [a,b] 2) emp c47L0b c47L0
def c48:=(λe=>cV<|CoW [(100,2)] f48 e) emp
def c49:=(λe=>cV<|CoW [] f49 e) emp
def c50:=(λe s0=>cV<|coY (CoX e [(301,s0)] [] f50) [] 0) emp (B [45])
def X51(e)(N):=cV<|CoX e [] [(402,1)] f51 N
def c51L0b:=(λe=>cV<|CoU X51 e [] 0) emp
def c51L0:=(λe a=>cV<|CoU X51 e [a] 1) emp c51L0b
def c51:=(λe a b=>cV<|CoU X51 e [a,b] 2) emp c51L0b c51L0
def X52(e)(N):=cV<|CoX e [] [] f52 N
def c52L0b:=(λe=>cV<|CoU X52 e [] 0) emp
def c52L0:=(λe a=>cV<|CoU X52 e [a] 1) emp c52L0b
def c52:=(λe a b=>cV<|CoU X52 e [a,b] 2) emp c52L0b c52L0
def c53:=(λe=>cV<|CoW [] f53 e) emp
def c54:=(λe=>cV<|CoW [] f54 e) emp
def X55(e)(N):=cV<|CoX e [] [(0,1),(103,1),(402,1)] f55 N
def c55L0b:=(λe=>cV<|CoU X55 e [] 0) emp
def c55L0:=(λe a=>cV<|CoU X55 e [a] 1) emp c55L0b
def c55:=(λe a b=>cV<|CoU X55 e [a,b] 2) emp c55L0b c55L0
def c56:=(λe=>cV<|CoW [] f56 e) emp
def X57(e)(N):=cV<|CoX e [] [(303,1),(400,1),(806,1)] f57 N
def c57L0b:=(λe=>cV<|CoU X57 e [] 0) emp
def c57L0:=(λe a=>cV<|CoU X57 e [a] 1) emp c57L0b
def c57:=(λe a b=>cV<|CoU X57 e [a,b] 2) emp c57L0b c57L0
def c59:=(λe s0=>cV<|coY (CoX e [(151281835589638986871989370740033509508479723450316027842455996292198390660215836914580013,s0)] [] f59) [] 0) emp (B [48,49,50,51,52,53,54,55,56,57,97,98,99,100,101,102,103,104,105,106,107,108,109,110,111,112,113,114,115,116,117,118,119,120,121,122,45])
def c60:=(λe s0=>cV<|coY (CoX e [(304,s0)] [] f60) [] 0) emp (B [48])
def c61:=(λe=>cV<|CoW [] f61 e) emp
def c63:=(λe=>cV<|CoW [(110,1),(111,1)] f63 e) emp
def X64(e)(N):=cV<|CoX e [] [] f64 N
def c64L0b:=(λe=>cV<|CoU X64 e [] 0) emp
def c64L0:=(λe a=>cV<|CoU X64 e [a] 1) emp c64L0b
def c64:=(λe a b=>cV<|CoU X64 e [a,b] 2) emp c64L0b c64L0
def c65:=(λe=>cV<|CoW [] f65 e) emp
def X66(e)(N):=cV<|CoX e [] [(402,1)] f66 N
def c66L0b:=(λe=>cV<|CoU X66 e [] 0) emp
def c66L0:=(λe a=>cV<|CoU X66 e [a] 1) emp c66L0b
def c66:=(λe a b=>cV<|CoU X66 e [a,b] 2) emp c66L0b c66L0
def c67:=(λe=>cV<|CoW [] f67 e) emp
def c68:=(λe=>cV<|CoW [(302,1)] f68 e) emp
def X69(e)(N):=cV<|CoX e [] [] f69 N
def c69L0b:=(λe=>cV<|CoU X69 e [] 0) emp
def c69L0:=(λe a=>cV<|CoU X69 e [a] 1) emp c69L0b
def c69:=(λe a b=>cV<|CoU X69 e [a,b] 2) emp c69L0b c69L0
def c70:=(λe=>cV<|CoW [] f70 e) emp
def X71(e)(N):=cV<|CoX e [] [(1,1),(108,1)] f71 N
def c71R0a:=(λe=>cV<|CoU X71 e [] 0) emp
def c71R0b:=(λe a=>cV<|CoU X71 e [a] 1) emp c71R0a
def c71:=(λe a b=>cV<|CoU X71 e [a,b] 2) emp c71R0a c71R0b
def c72:=(λe=>cV<|CoW [] f72 e) emp
def X73(e)(N):=cV<|CoX e [] [(1102,1),(1500,2)] f73 N
def c73L0b:=(λe=>cV<|CoU X73 e [] 0) emp
def c73L0:=(λe a=>cV<|CoU X73 e [a] 1) emp c73L0b
def c73:=(λe a b=>cV<|CoU X73 e [a,b] 2) emp c73L0b c73L0
def X74(e)(N):=cV<|CoX e [] [(302,1),(902,1),(1502,1),(2103,1),(2702,1)] f74 N
def c74L0b:=(λe=>cV<|CoU X74 e [] 0) emp
def c74L0:=(λe a=>cV<|CoU X74 e [a] 1) emp c74L0b
def c74L1b:=(λe a b=>cV<|CoU X74 e [a,b] 2) emp c74L0b c74L0
def c74L1:=(λe a b c=>cV<|CoU X74 e [a,b,c] 3) emp c74L0b c74L0 c74L1b
def c74L2b:=(λe a b c d=>cV<|CoU X74 e [a,b,c,d] 4) emp c74L0b c74L0 c74L1b c74L1
def c74L2:=(λe a b c d g=>cV<|CoU X74 e [a,b,c,d,g] 5) emp c74L0b c74L0 c74L1b c74L1 c74L2b
def c74L3b:=(λe a b c d g h=>cV<|CoU X74 e [a,b,c,d,g,h] 6) emp c74L0b c74L0 c74L1b c74L1 c74L2b c74L2
def c74L3:=(λe a b c d g h i=>cV<|CoU X74 e [a,b,c,d,g,h,i] 7) emp c74L0b c74L0 c74L1b c74L1 c74L2b c74L2 c74L3b
def c74L4b:=(λe a b c d g h i j=>cV<|CoU X74 e [a,b,c,d,g,h,i,j] 8) emp c74L0b c74L0 c74L1b c74L1 c74L2b c74L2 c74L3b c74L3
def c74L4:=(λe a b c d g h i j k=>cV<|CoU X74 e [a,b,c,d,g,h,i,j,k] 9) emp c74L0b c74L0 c74L1b c74L1 c74L2b c74L2 c74L3b c74L3 c74L4b
def c74:=(λe a b c d g h i j k l=>cV<|CoU X74 e [a,b,c,d,g,h,i,j,k,l] 10) emp c74L0b c74L0 c74L1b c74L1 c74L2b c74L2 c74L3b c74L3 c74L4b c74L4
def c75:=(λe=>cV<|CoW [] f75 e) emp
def c76:=(λe=>cV<|CoW [(528,1)] f76 e) emp
def c77:=(λe=>cV<|CoW [(323,1)] f77 e) emp
def c78:=(λe=>cV<|CoW [] f78 e) emp
def c79:=(λe=>cV<|CoW [(618,1),(619,1)] f79 e) emp
def c80:=(λe=>cV<|CoW [(323,1)] f80 e) emp
def c81:=(λe=>cV<|CoW [(827,1)] f81 e) emp
def c82:=(λe=>cV<|CoW [(829,1)] f82 e) emp
def X83(e)(N):=cV<|CoX e [] [(1002,1)] f83 N
def c83L0b:=(λe=>cV<|CoU X83 e [] 0) emp
def c83L0:=(λe a=>cV<|CoU X83 e [a] 1) emp c83L0b
def c83:=(λe a b=>cV<|CoU X83 e [a,b] 2) emp c83L0b c83L0
def X84(e)(N):=cV<|CoX e [] [(100,1),(402,1),(1408,1),(1702,1),(1812,1),(2002,2),(2003,1)] f84 N
def c84L0b:=(λe=>cV<|CoU X84 e [] 0) emp
def c84L0:=(λe a=>cV<|CoU X84 e [a] 1) emp c84L0b
def c84L1b:=(λe a b=>cV<|CoU X84 e [a,b] 2) emp c84L0b c84L0
def c84L1:=(λe a b c=>cV<|CoU X84 e [a,b,c] 3) emp c84L0b c84L0 c84L1b
def c84:=(λe a b c d=>cV<|CoU X84 e [a,b,c,d] 4) emp c84L0b c84L0 c84L1b c84L1
def X85(e)(N):=cV<|CoX e [] [(300,1),(1110,1),(1508,1),(1921,1),(2308,1)] f85 N
def c85L0b:=(λe=>cV<|CoU X85 e [] 0) emp
def c85L0:=(λe a=>cV<|CoU X85 e [a] 1) emp c85L0b
def c85L1b:=(λe a b=>cV<|CoU X85 e [a,b] 2) emp c85L0b c85L0
def c85L1:=(λe a b c=>cV<|CoU X85 e [a,b,c] 3) emp c85L0b c85L0 c85L1b
def c85L2b:=(λe a b c d=>cV<|CoU X85 e [a,b,c,d] 4) emp c85L0b c85L0 c85L1b c85L1
def c85L2:=(λe a b c d g=>cV<|CoU X85 e [a,b,c,d,g] 5) emp c85L0b c85L0 c85L1b c85L1 c85L2b
def c85:=(λe a b c d g h=>cV<|CoU X85 e [a,b,c,d,g,h] 6) emp c85L0b c85L0 c85L1b c85L1 c85L2b c85L2
def X86(e)(N):=cV<|CoX e [] [(903,1),(1102,1)] f86 N
def c86L0b:=(λe=>cV<|CoU X86 e [] 0) emp
def c86L0:=(λe a=>cV<|CoU X86 e [a] 1) emp c86L0b
def c86:=(λe a b=>cV<|CoU X86 e [a,b] 2) emp c86L0b c86L0
def X87(e)(N):=cV<|CoX e [] [(105,1),(1402,1)] f87 N
def s87p0:=(λe=>cV<|Zr2 (CoU X87 e [] 0) [0]) emp
def s87p1:=(λe=>cV<|Zr2 (CoU X87 e [] 0) [1,0]) emp
def s87p2:=(λe=>cV<|Zr2 (CoU X87 e [] 0) [1,1,0]) emp
def s87p3:=(λe=>cV<|Zr2 (CoU X87 e [] 0) [1,1,1,0]) emp
def s87p4:=(λe=>cV<|Zr2 (CoU X87 e [] 0) [1,1,1,1,0]) emp
def s87p5:=(λe=>cV<|Zr2 (CoU X87 e [] 0) [1,1,1,1,1,0]) emp
def s87p6:=(λe=>cV<|Zr2 (CoU X87 e [] 0) [1,1,1,1,1,1,0]) emp
def s87p7:=(λe=>cV<|Zr2 (CoU X87 e [] 0) [1,1,1,1,1,1,1,0]) emp
def c87:ACode:=.seq s87p0<|.seq s87p1<|.seq s87p2<|.seq s87p3<|.seq s87p4<|.seq s87p5<|.seq s87p6<|.seq s87p7 .ret
def X88(e)(N):=cV<|CoX e [] [(819,1)] f88 N
def c88L0b:=(λe=>cV<|CoU X88 e [] 0) emp
def c88L0:=(λe a=>cV<|CoU X88 e [a] 1) emp c88L0b
def c88:=(λe a b=>cV<|CoU X88 e [a,b] 2) emp c88L0b c88L0
def c89:=(λe=>cV<|CoW [(119,1)] f89 e) emp
def c90:=(λe=>cV<|CoW [(317,1)] f90 e) emp
def X91(e)(N):=cV<|CoX e [] [(100,1),(402,1),(902,1),(1402,1),(1902,1),(2402,1)] f91 N
def c91L0b:=(λe=>cV<|CoU X91 e [] 0) emp
def c91L0:=(λe a=>cV<|CoU X91 e [a] 1) emp c91L0b
def c91L1b:=(λe a b=>cV<|CoU X91 e [a,b] 2) emp c91L0b c91L0
def c91L1:=(λe a b c=>cV<|CoU X91 e [a,b,c] 3) emp c91L0b c91L0 c91L1b
def c91L2b:=(λe a b c d=>cV<|CoU X91 e [a,b,c,d] 4) emp c91L0b c91L0 c91L1b c91L1
def c91L2:=(λe a b c d g=>cV<|CoU X91 e [a,b,c,d,g] 5) emp c91L0b c91L0 c91L1b c91L1 c91L2b
def c91L3b:=(λe a b c d g h=>cV<|CoU X91 e [a,b,c,d,g,h] 6) emp c91L0b c91L0 c91L1b c91L1 c91L2b c91L2
def c91L3:=(λe a b c d g h i=>cV<|CoU X91 e [a,b,c,d,g,h,i] 7) emp c91L0b c91L0 c91L1b c91L1 c91L2b c91L2 c91L3b
def c91L4b:=(λe a b c d g h i j=>cV<|CoU X91 e [a,b,c,d,g,h,i,j] 8) emp c91L0b c91L0 c91L1b c91L1 c91L2b c91L2 c91L3b c91L3
def c91L4:=(λe a b c d g h i j k=>cV<|CoU X91 e [a,b,c,d,g,h,i,j,k] 9) emp c91L0b c91L0 c91L1b c91L1 c91L2b c91L2 c91L3b c91L3 c91L4b
def c91:=(λe a b c d g h i j k l=>cV<|CoU X91 e [a,b,c,d,g,h,i,j,k,l] 10) emp c91L0b c91L0 c91L1b c91L1 c91L2b c91L2 c91L3b c91L3 c91L4b c91L4
def X92(e)(N):=cV<|CoX e [] [(402,1),(505,1)] f92 N
def c92L0b:=(λe=>cV<|CoU X92 e [] 0) emp
def c92L0:=(λe a=>cV<|CoU X92 e [a] 1) emp c92L0b
def c92:=(λe a b=>cV<|CoU X92 e [a,b] 2) emp c92L0b c92L0
def c93:=(λe=>cV<|CoW [] f93 e) emp
def c94:=(λe=>cV<|CoW [] f94 e) emp
def c95:=(λe=>cV<|CoW [] f95 e) emp
def c96:=(λe=>cV<|CoW [(102,1)] f96 e) emp
def c97:=(λe=>cV<|CoW [] f97 e) emp
def c98:=(λe=>cV<|CoW [(102,1)] f98 e) emp
def c99:=(λe=>cV<|CoW [] f99 e) emp
def ZFk(e)(N):=cV<|CoX e [] [(405,1)] f100 N
def c100L0b:=(λe=>cV<|CoU ZFk e [] 0) emp
def c100L0:=(λe a=>cV<|CoU ZFk e [a] 1) emp c100L0b
def c100:=(λe a b=>cV<|CoU ZFk e [a,b] 2) emp c100L0b c100L0
def c101:=(λe=>cV<|CoW [(1,1)] f101 e) emp
def ZRc(e)(N):=cV<|CoX e [] [(0,1),(1,1),(300,2),(302,1)] f102 N
def c102R0a:=(λe=>cV<|CoU ZRc e [] 0) emp
def c102R0b:=(λe a=>cV<|CoU ZRc e [a] 1) emp c102R0a
def c102:=(λe a b=>cV<|CoU ZRc e [a,b] 2) emp c102R0a c102R0b
def c103:=(λe=>cV<|CoW [] f103 e) emp
def ZRd(e)(N):=cV<|CoX e [] [] f107 N
def c107L0b:=(λe=>cV<|CoU ZRd e [] 0) emp
def c107L0:=(λe a=>cV<|CoU ZRd e [a] 1) emp c107L0b
def c107:=(λe a b=>cV<|CoU ZRd e [a,b] 2) emp c107L0b c107L0
def Zxk(e)(N):=cV<|CoX e [] [] f108 N
def c108L0b:=(λe=>cV<|CoU Zxk e [] 0) emp
def c108L0:=(λe a=>cV<|CoU Zxk e [a] 1) emp c108L0b
def c108:=(λe a b=>cV<|CoU Zxk e [a,b] 2) emp c108L0b c108L0
def ZRe(e)(N):=cV<|CoX e [] [] f109 N
def c109L0b:=(λe=>cV<|CoU ZRe e [] 0) emp
def c109L0:=(λe a=>cV<|CoU ZRe e [a] 1) emp c109L0b
def c109:=(λe a b=>cV<|CoU ZRe e [a,b] 2) emp c109L0b c109L0
def c110:=(λe=>cV<|CoW [] f110 e) emp
def c113:=(λe=>cV<|CoW [] f113 e) emp
def c114:=(λe=>cV<|CoW [] f114 e) emp
def c115:=(λe=>cV<|CoW [] f115 e) emp
def c116:=(λe=>cV<|CoW [] f116 e) emp
def c117:=(λe s0 s1 s2 s3 s4 s5 s6 s7 s8=>cV<|coY (CoX e [(233606820031262824291793228925311306333649869794303002079163341563213949795593257878683467579756910891606622701420032317479258,s0),(1436506918544312769132601,s1),(351,s2),(18876682,s3),(291,s4),(290,s5),(289,s6),(80958,s7),(24970544417651213645683474901805,s8)] [(0,1),(100,1),(301,1),(401,1),(501,1),(601,1),(701,1),(801,1),(901,1),(1001,1),(1101,1)] f117) [] 0) emp (B [97,98,99,100,101,102,103,104,105,106,107,108,109,110,111,112,113,114,115,116,117,118,119,120,121,122,65,66,67,68,69,70,71,72,73,74,75,76,77,78,79,80,81,82,83,84,85,86,87,88,89,90]) (B [48,49,50,51,52,53,54,55,56,57]) (B [95]) (B [32,9,10]) (B [35]) (B [34]) (B [33]) (B [60,62]) (B [59,44,46,58,40,41,91,93,123,125,61,43,45])
def ZLC(e)(N):=cV<|CoX e [] [] f118 N
def c118L0b:=(λe=>cV<|CoU ZLC e [] 0) emp
def c118L0:=(λe a=>cV<|CoU ZLC e [a] 1) emp c118L0b
def c118:=(λe a b=>cV<|CoU ZLC e [a,b] 2) emp c118L0b c118L0
def c119:=(λe s0 s1=>cV<|coY (CoX e [(74250,s0),(317,s1)] [(0,1)] f119) [] 0) emp (B [34,10]) (B [61])
def Zxl(e)(N):=cV<|CoX e [] [(303,1),(405,1),(1003,1),(1109,1)] f128 N
def c128L0b:=(λe=>cV<|CoU Zxl e [] 0) emp
def c128L0:=(λe a=>cV<|CoU Zxl e [a] 1) emp c128L0b
def c128L1b:=(λe a b=>cV<|CoU Zxl e [a,b] 2) emp c128L0b c128L0
def c128L1:=(λe a b c=>cV<|CoU Zxl e [a,b,c] 3) emp c128L0b c128L0 c128L1b
def c128:=(λe a b c d=>cV<|CoU Zxl e [a,b,c,d] 4) emp c128L0b c128L0 c128L1b c128L1
def c130:=(λe=>cV<|CoW [] f130 e) emp
def c131:=(λe=>cV<|CoW [] f131 e) emp
def c132:=(λe=>cV<|CoW [(0,1),(1,1),(102,1)] f132 e) emp
def c133:=(λe=>cV<|CoW [(0,1),(100,1)] f133 e) emp
def ZOB(e)(N):=cV<|CoX e [] [(101,1),(202,1),(203,1),(404,1),(604,1),(1002,1),(1104,1),(1602,1),(1804,1)] f134 N
def c134L0b:=(λe=>cV<|CoU ZOB e [] 0) emp
def c134L0:=(λe a=>cV<|CoU ZOB e [a] 1) emp c134L0b
def c134L1b:=(λe a b=>cV<|CoU ZOB e [a,b] 2) emp c134L0b c134L0
def c134L1:=(λe a b c=>cV<|CoU ZOB e [a,b,c] 3) emp c134L0b c134L0 c134L1b
def s134p0:=(λe a b c d=>cV<|Zr2 (CoU ZOB e [a,b,c,d] 4) [0]) emp c134L0b c134L0 c134L1b c134L1
def s134p1:=(λe a b c d=>cV<|Zr2 (CoU ZOB e [a,b,c,d] 4) [1,0]) emp c134L0b c134L0 c134L1b c134L1
def s134p2:=(λe a b c d=>cV<|Zr2 (CoU ZOB e [a,b,c,d] 4) [1,1,0]) emp c134L0b c134L0 c134L1b c134L1
def s134p3:=(λe a b c d=>cV<|Zr2 (CoU ZOB e [a,b,c,d] 4) [1,1,1,0]) emp c134L0b c134L0 c134L1b c134L1
def s134p4:=(λe a b c d=>cV<|Zr2 (CoU ZOB e [a,b,c,d] 4) [1,1,1,1,0]) emp c134L0b c134L0 c134L1b c134L1
def s134p5:=(λe a b c d=>cV<|Zr2 (CoU ZOB e [a,b,c,d] 4) [1,1,1,1,1,0]) emp c134L0b c134L0 c134L1b c134L1
def s134p6:=(λe a b c d=>cV<|Zr2 (CoU ZOB e [a,b,c,d] 4) [1,1,1,1,1,1,0]) emp c134L0b c134L0 c134L1b c134L1
def s134p7:=(λe a b c d=>cV<|Zr2 (CoU ZOB e [a,b,c,d] 4) [1,1,1,1,1,1,1,0]) emp c134L0b c134L0 c134L1b c134L1
def c134:ACode:=.seq s134p0<|.seq s134p1<|.seq s134p2<|.seq s134p3<|.seq s134p4<|.seq s134p5<|.seq s134p6<|.seq s134p7 .ret
def c135:=(λe=>cV<|CoW [] f135 e) emp
def c136:=(λe=>cV<|CoW [] f136 e) emp
def c137:=(λe=>cV<|CoW [(100,2)] f137 e) emp
def c138:=(λe=>cV<|CoW [] f138 e) emp
def ZRf(e)(N):=cV<|CoX e [] [(1200,1),(1502,1)] f139 N
def c139L0b:=(λe=>cV<|CoU ZRf e [] 0) emp
def c139L0:=(λe a=>cV<|CoU ZRf e [a] 1) emp c139L0b
def c139:=(λe a b=>cV<|CoU ZRf e [a,b] 2) emp c139L0b c139L0
def ZRg(e)(N):=cV<|CoX e [] [(402,1),(801,1),(802,1)] f140 N
def c140L0b:=(λe=>cV<|CoU ZRg e [] 0) emp
def c140L0:=(λe a=>cV<|CoU ZRg e [a] 1) emp c140L0b
def c140:=(λe a b=>cV<|CoU ZRg e [a,b] 2) emp c140L0b c140L0
def c141:=(λe=>cV<|CoW [] f141 e) emp
def ZRh(e)(N):=cV<|CoX e [] [(3,1),(105,1),(200,1)] f142 N
def c142R0a:=(λe=>cV<|CoU ZRh e [] 0) emp
def c142R0b:=(λe a=>cV<|CoU ZRh e [a] 1) emp c142R0a
def c142:=(λe a b=>cV<|CoU ZRh e [a,b] 2) emp c142R0a c142R0b
def c143:=(λe s0=>cV<|coY (CoX e [(376,s0)] [(104,2)] f143) [] 0) emp (B [120])
def c144:=(λe=>cV<|CoW [(0,1)] f144 e) emp
def ZOx(e)(N):=cV<|CoX e [] [(105,1)] f145 N
def c145L0b:=(λe=>cV<|CoU ZOx e [] 0) emp
def c145L0:=(λe a=>cV<|CoU ZOx e [a] 1) emp c145L0b
def s145p0:=(λe a b=>cV<|Zr2 (CoU ZOx e [a,b] 2) [0]) emp c145L0b c145L0
def s145p1:=(λe a b=>cV<|Zr2 (CoU ZOx e [a,b] 2) [1,0]) emp c145L0b c145L0
def s145p2:=(λe a b=>cV<|Zr2 (CoU ZOx e [a,b] 2) [1,1,0]) emp c145L0b c145L0
def s145p3:=(λe a b=>cV<|Zr2 (CoU ZOx e [a,b] 2) [1,1,1,0]) emp c145L0b c145L0
def s145p4:=(λe a b=>cV<|Zr2 (CoU ZOx e [a,b] 2) [1,1,1,1,0]) emp c145L0b c145L0
def s145p5:=(λe a b=>cV<|Zr2 (CoU ZOx e [a,b] 2) [1,1,1,1,1,0]) emp c145L0b c145L0
def s145p6:=(λe a b=>cV<|Zr2 (CoU ZOx e [a,b] 2) [1,1,1,1,1,1,0]) emp c145L0b c145L0
def s145p7:=(λe a b=>cV<|Zr2 (CoU ZOx e [a,b] 2) [1,1,1,1,1,1,1,0]) emp c145L0b c145L0
def s145p8:=(λe a b=>cV<|Zr2 (CoU ZOx e [a,b] 2) [1,1,1,1,1,1,1,1,0]) emp c145L0b c145L0
def s145p9:=(λe a b=>cV<|Zr2 (CoU ZOx e [a,b] 2) [1,1,1,1,1,1,1,1,1,0]) emp c145L0b c145L0
def s145p10:=(λe a b=>cV<|Zr2 (CoU ZOx e [a,b] 2) [1,1,1,1,1,1,1,1,1,1,0]) emp c145L0b c145L0
def c145:ACode:=.seq s145p0<|.seq s145p1<|.seq s145p2<|.seq s145p3<|.seq s145p4<|.seq s145p5<|.seq s145p6<|.seq s145p7<|.seq s145p8<|.seq s145p9<|.seq s145p10 .ret
def c146:=(λe=>cV<|CoW [(100,2),(101,1),(301,1),(401,1)] f146 e) emp
def ZLH(e)(N):=cV<|CoX e [] [(702,1),(1502,1)] f147 N
def c147L0b:=(λe=>cV<|CoU ZLH e [] 0) emp
def c147L0:=(λe a=>cV<|CoU ZLH e [a] 1) emp c147L0b
def c147L1b:=(λe a b=>cV<|CoU ZLH e [a,b] 2) emp c147L0b c147L0
def c147L1:=(λe a b c=>cV<|CoU ZLH e [a,b,c] 3) emp c147L0b c147L0 c147L1b
def c147L2b:=(λe a b c d=>cV<|CoU ZLH e [a,b,c,d] 4) emp c147L0b c147L0 c147L1b c147L1
def c147L2:=(λe a b c d g=>cV<|CoU ZLH e [a,b,c,d,g] 5) emp c147L0b c147L0 c147L1b c147L1 c147L2b
def c147L3b:=(λe a b c d g h=>cV<|CoU ZLH e [a,b,c,d,g,h] 6) emp c147L0b c147L0 c147L1b c147L1 c147L2b c147L2
def c147L3:=(λe a b c d g h i=>cV<|CoU ZLH e [a,b,c,d,g,h,i] 7) emp c147L0b c147L0 c147L1b c147L1 c147L2b c147L2 c147L3b
def c147:=(λe a b c d g h i j=>cV<|CoU ZLH e [a,b,c,d,g,h,i,j] 8) emp c147L0b c147L0 c147L1b c147L1 c147L2b c147L2 c147L3b c147L3
def c148:=(λe=>cV<|CoW [] f148 e) emp
def c149:=(λe=>cV<|CoW [] f149 e) emp
def c150:=(λe=>cV<|CoW [] f150 e) emp
def c151:=(λe=>cV<|CoW [] f151 e) emp
def c152:=(λe=>cV<|CoW [(100,2),(101,1),(204,1)] f152 e) emp
def c153:=(λe=>cV<|CoW [] f153 e) emp
def c154:=(λe=>cV<|CoW [] f154 e) emp
def c155:=(λe=>cV<|CoW [] f155 e) emp
def c156:=(λe=>cV<|CoW [] f156 e) emp
def c157:=(λe=>cV<|CoW [(100,2),(101,1),(204,1)] f157 e) emp
def c158:=(λe=>cV<|CoW [] f158 e) emp
def c159:=(λe=>cV<|CoW [] f159 e) emp
def c160:=(λe=>cV<|CoW [] f160 e) emp
def c161:=(λe=>cV<|CoW [] f161 e) emp
def c162:=(λe=>cV<|CoW [] f162 e) emp
def c163:=(λe=>cV<|CoW [(0,1),(209,1)] f163 e) emp
def c164:=(λe=>cV<|CoW [] f164 e) emp
def c165:=(λe=>cV<|CoW [] f165 e) emp
def c166:=(λe=>cV<|CoW [(100,2)] f166 e) emp
def c167:=(λe=>cV<|CoW [(114,1)] f167 e) emp
def c168:=(λe=>cV<|CoW [(100,2),(101,1),(204,1)] f168 e) emp
def c169:=(λe=>cV<|CoW [] f169 e) emp
def ZRi(e)(N):=cV<|CoX e [] [(503,1)] f170 N
def c170L0b:=(λe=>cV<|CoU ZRi e [] 0) emp
def c170L0:=(λe a=>cV<|CoU ZRi e [a] 1) emp c170L0b
def c170:=(λe a b=>cV<|CoU ZRi e [a,b] 2) emp c170L0b c170L0
def c171:=(λe=>cV<|CoW [(100,2),(101,1),(204,1)] f171 e) emp
def c172:=(λe=>cV<|CoW [] f172 e) emp
def c173:=(λe=>cV<|CoW [] f173 e) emp
def c174:=(λe=>cV<|CoW [(100,2)] f174 e) emp
def c175:=(λe=>cV<|CoW [] f175 e) emp
def c176:=(λe=>cV<|CoW [] f176 e) emp
def c177:=(λe=>cV<|CoW [] f177 e) emp
def c178:=(λe=>cV<|CoW [(100,2),(101,1),(204,1)] f178 e) emp
def c179:=(λe=>cV<|CoW [] f179 e) emp
def c180:=(λe=>cV<|CoW [] f180 e) emp
def c181:=(λe=>cV<|CoW [] f181 e) emp
def ZPZ(e)(N):=cV<|CoX e [] [(101,1),(411,1),(502,1),(603,1),(1103,3)] f182 N
def c182L0b:=(λe=>cV<|CoU ZPZ e [] 0) emp
def c182L0:=(λe a=>cV<|CoU ZPZ e [a] 1) emp c182L0b
def c182L1b:=(λe a b=>cV<|CoU ZPZ e [a,b] 2) emp c182L0b c182L0
def c182L1:=(λe a b c=>cV<|CoU ZPZ e [a,b,c] 3) emp c182L0b c182L0 c182L1b
def c182:=(λe a b c d=>cV<|CoU ZPZ e [a,b,c,d] 4) emp c182L0b c182L0 c182L1b c182L1
def c184:=(λe=>cV<|CoW [] f184 e) emp
def c185:=(λe=>cV<|CoW [] f185 e) emp
def c187:=(λe=>cV<|CoW [] f187 e) emp
def c188:=(λe=>cV<|CoW [(2,1),(102,1)] f188 e) emp
def c189:=(λe=>cV<|CoW [] f189 e) emp
def c190:=(λe=>cV<|CoW [(100,2)] f190 e) emp
def c191:=(λe=>cV<|CoW [] f191 e) emp
def ZRj(e)(N):=cV<|CoX e [] [] f207 N
def c207L0b:=(λe=>cV<|CoU ZRj e [] 0) emp
def c207L0:=(λe a=>cV<|CoU ZRj e [a] 1) emp c207L0b
def c207:=(λe a b=>cV<|CoU ZRj e [a,b] 2) emp c207L0b c207L0
def ZFw(e)(N):=cV<|CoX e [] [] f208 N
def c208L0b:=(λe=>cV<|CoU ZFw e [] 0) emp
def c208L0:=(λe a=>cV<|CoU ZFw e [a] 1) emp c208L0b
def c208:=(λe a b=>cV<|CoU ZFw e [a,b] 2) emp c208L0b c208L0
def c209:=(λe=>cV<|CoW [] f209 e) emp
def c213:=(λe=>cV<|CoW [] f213 e) emp
def c228:=(λe=>cV<|CoW [(100,2)] f228 e) emp
def c229:=(λe=>cV<|CoW [] f229 e) emp
def c230:=(λe=>cV<|CoW [] f230 e) emp
def c231:=(λe=>cV<|CoW [] f231 e) emp
def c232:=(λe=>cV<|CoW [] f232 e) emp
def c233:=(λe=>cV<|CoW [] f233 e) emp
def c234:=(λe=>cV<|CoW [(219,2)] f234 e) emp
def c235:=(λe=>cV<|CoW [] f235 e) emp
def ZRk(e)(N):=cV<|CoX e [] [(303,1)] f236 N
def c236L0b:=(λe=>cV<|CoU ZRk e [] 0) emp
def c236L0:=(λe a=>cV<|CoU ZRk e [a] 1) emp c236L0b
def c236:=(λe a b=>cV<|CoU ZRk e [a,b] 2) emp c236L0b c236L0
def c237:=(λe=>cV<|CoW [] f237 e) emp
def ZxE(e)(N):=cV<|CoX e [] [(100,1),(402,1),(1004,2)] f238 N
def c238L0b:=(λe=>cV<|CoU ZxE e [] 0) emp
def c238L0:=(λe a=>cV<|CoU ZxE e [a] 1) emp c238L0b
def c238:=(λe a b=>cV<|CoU ZxE e [a,b] 2) emp c238L0b c238L0
def c239:=(λe=>cV<|CoW [] f239 e) emp
def c240:=(λe=>cV<|CoW [(103,2)] f240 e) emp
def c241:=(λe=>cV<|CoW [] f241 e) emp
def c242:=(λe=>cV<|CoW [] f242 e) emp
def c243:=(λe=>cV<|CoW [] f243 e) emp
def c244:=(λe=>cV<|CoW [] f244 e) emp
def c245:=(λe=>cV<|CoW [] f245 e) emp
def c246:=(λe=>cV<|CoW [] f246 e) emp
def c247:=(λe=>cV<|CoW [(112,2)] f247 e) emp
def ZRl(e)(N):=cV<|CoX e [] [(100,1),(402,1),(900,2),(903,2)] f248 N
def c248L0b:=(λe=>cV<|CoU ZRl e [] 0) emp
def c248L0:=(λe a=>cV<|CoU ZRl e [a] 1) emp c248L0b
def c248:=(λe a b=>cV<|CoU ZRl e [a,b] 2) emp c248L0b c248L0
def c249:=(λe=>cV<|CoW [(100,2)] f249 e) emp
def c250:=(λe=>cV<|CoW [(109,1)] f250 e) emp
def c251:=(λe=>cV<|CoW [(107,1)] f251 e) emp
def c252:=(λe=>cV<|CoW [] f252 e) emp
def c253:=(λe=>cV<|CoW [] f253 e) emp
def c254:=(λe=>cV<|CoW [(100,2)] f254 e) emp
def ZxJ(e)(N):=cV<|CoX e [] [(202,1),(314,1),(702,1),(1008,1),(1402,1),(1526,1),(1902,1),(2008,1)] f256 N
def c256L0b:=(λe=>cV<|CoU ZxJ e [] 0) emp
def c256L0:=(λe a=>cV<|CoU ZxJ e [a] 1) emp c256L0b
def c256L1b:=(λe a b=>cV<|CoU ZxJ e [a,b] 2) emp c256L0b c256L0
def c256L1:=(λe a b c=>cV<|CoU ZxJ e [a,b,c] 3) emp c256L0b c256L0 c256L1b
def c256L2b:=(λe a b c d=>cV<|CoU ZxJ e [a,b,c,d] 4) emp c256L0b c256L0 c256L1b c256L1
def c256L2:=(λe a b c d g=>cV<|CoU ZxJ e [a,b,c,d,g] 5) emp c256L0b c256L0 c256L1b c256L1 c256L2b
def c256L3b:=(λe a b c d g h=>cV<|CoU ZxJ e [a,b,c,d,g,h] 6) emp c256L0b c256L0 c256L1b c256L1 c256L2b c256L2
def c256L3:=(λe a b c d g h i=>cV<|CoU ZxJ e [a,b,c,d,g,h,i] 7) emp c256L0b c256L0 c256L1b c256L1 c256L2b c256L2 c256L3b
def c256:=(λe a b c d g h i j=>cV<|CoU ZxJ e [a,b,c,d,g,h,i,j] 8) emp c256L0b c256L0 c256L1b c256L1 c256L2b c256L2 c256L3b c256L3
def c257:=(λe=>cV<|CoW [(100,2)] f257 e) emp
def ZRm(e)(N):=cV<|CoX e [] [] f258 N
def c258L0b:=(λe=>cV<|CoU ZRm e [] 0) emp
def c258L0:=(λe a=>cV<|CoU ZRm e [a] 1) emp c258L0b
def c258:=(λe a b=>cV<|CoU ZRm e [a,b] 2) emp c258L0b c258L0
def c260:=(λe=>cV<|CoW [(108,1),(200,2),(400,2)] f260 e) emp
def c261:=(λe=>cV<|CoW [] f261 e) emp
def c262:=(λe=>cV<|CoW [] f262 e) emp
def c265:=(λe=>cV<|CoW [(100,2)] f265 e) emp
def c266:=(λe=>cV<|CoW [] f266 e) emp
def c268:=(λe=>cV<|CoW [(100,2)] f268 e) emp
def c269:=(λe=>cV<|CoW [] f269 e) emp
def c271:=(λe=>cV<|CoW [(100,2)] f271 e) emp
def c272:=(λe=>cV<|CoW [] f272 e) emp
def c273:=(λe=>cV<|CoW [] f273 e) emp
def ZxO(e)(N):=cV<|CoX e [] [] f274 N
def c274L0b:=(λe=>cV<|CoU ZxO e [] 0) emp
def c274L0:=(λe a=>cV<|CoU ZxO e [a] 1) emp c274L0b
def c274:=(λe a b=>cV<|CoU ZxO e [a,b] 2) emp c274L0b c274L0
def c276:=(λe=>cV<|CoW [] f276 e) emp
def c277:=(λe=>cV<|CoW [] f277 e) emp
def ZRn(e)(N):=cV<|CoX e [] [] f279 N
def c279L0b:=(λe=>cV<|CoU ZRn e [] 0) emp
def c279L0:=(λe a=>cV<|CoU ZRn e [a] 1) emp c279L0b
def c279:=(λe a b=>cV<|CoU ZRn e [a,b] 2) emp c279L0b c279L0
def c280:=(λe=>cV<|CoW [(100,2)] f280 e) emp
def c281:=(λe=>cV<|CoW [] f281 e) emp
def c283:=(λe=>cV<|CoW [(100,2)] f283 e) emp
def c284:=(λe=>cV<|CoW [] f284 e) emp
def c286:=(λe=>cV<|CoW [] f286 e) emp
def ZRo(e)(N):=cV<|CoX e [] [(100,1),(402,1)] f288 N
def c288L0b:=(λe=>cV<|CoU ZRo e [] 0) emp
def c288L0:=(λe a=>cV<|CoU ZRo e [a] 1) emp c288L0b
def c288:=(λe a b=>cV<|CoU ZRo e [a,b] 2) emp c288L0b c288L0
def c289:=(λe=>cV<|CoW [] f289 e) emp
def c290:=(λe=>cV<|CoW [(100,2)] f290 e) emp
def ZRp(e)(N):=cV<|CoX e [] [(203,1),(307,1)] f291 N
def c291L0b:=(λe=>cV<|CoU ZRp e [] 0) emp
def c291L0:=(λe a=>cV<|CoU ZRp e [a] 1) emp c291L0b
def c291:=(λe a b=>cV<|CoU ZRp e [a,b] 2) emp c291L0b c291L0
def c305:=(λe=>cV<|CoW [] f305 e) emp
def c313:=(λe=>cV<|CoW [(100,2)] f313 e) emp
def c314:=(λe=>cV<|CoW [] f314 e) emp
def ZRq(e)(N):=cV<|CoX e [] [(100,1),(200,2),(201,1),(300,1),(400,1)] f315 N
def c315R0a:=(λe=>cV<|CoU ZRq e [] 0) emp
def c315R0b:=(λe a=>cV<|CoU ZRq e [a] 1) emp c315R0a
def c315:=(λe a b=>cV<|CoU ZRq e [a,b] 2) emp c315R0a c315R0b
def ZQ0(e)(N):=cV<|CoX e [] [(511,1),(512,1)] f316 N
def c316L0b:=(λe=>cV<|CoU ZQ0 e [] 0) emp
def c316L0:=(λe a=>cV<|CoU ZQ0 e [a] 1) emp c316L0b
def c316L1b:=(λe a b=>cV<|CoU ZQ0 e [a,b] 2) emp c316L0b c316L0
def c316L1:=(λe a b c=>cV<|CoU ZQ0 e [a,b,c] 3) emp c316L0b c316L0 c316L1b
def c316:=(λe a b c d=>cV<|CoU ZQ0 e [a,b,c,d] 4) emp c316L0b c316L0 c316L1b c316L1
def c317:=(λe s0=>cV<|coY (CoX e [(288,s0)] [] f317) [] 0) emp (B [32])
def ZRr(e)(N):=cV<|CoX e [] [(402,1)] f318 N
def c318L0b:=(λe=>cV<|CoU ZRr e [] 0) emp
def c318L0:=(λe a=>cV<|CoU ZRr e [a] 1) emp c318L0b
def c318:=(λe a b=>cV<|CoU ZRr e [a,b] 2) emp c318L0b c318L0
def ZRs(e)(N):=cV<|CoX e [] [] f319 N
def c319L0b:=(λe=>cV<|CoU ZRs e [] 0) emp
def c319L0:=(λe a=>cV<|CoU ZRs e [a] 1) emp c319L0b
def c319:=(λe a b=>cV<|CoU ZRs e [a,b] 2) emp c319L0b c319L0
def c320:=(λe=>cV<|CoW [(100,2)] f320 e) emp
def c321:=(λe=>cV<|CoW [] f321 e) emp
def c322:=(λe=>cV<|CoW [] f322 e) emp
def ZRt(e)(N):=cV<|CoX e [] [(302,1)] f323 N
def c323L0b:=(λe=>cV<|CoU ZRt e [] 0) emp
def c323L0:=(λe a=>cV<|CoU ZRt e [a] 1) emp c323L0b
def c323:=(λe a b=>cV<|CoU ZRt e [a,b] 2) emp c323L0b c323L0
def c324:=(λe=>cV<|CoW [] f324 e) emp
def c325:=(λe=>cV<|CoW [] f325 e) emp
def ZRu(e)(N):=cV<|CoX e [] [(402,1)] f326 N
def c326L0b:=(λe=>cV<|CoU ZRu e [] 0) emp
def c326L0:=(λe a=>cV<|CoU ZRu e [a] 1) emp c326L0b
def c326:=(λe a b=>cV<|CoU ZRu e [a,b] 2) emp c326L0b c326L0
def c327:=(λe=>cV<|CoW [] f327 e) emp
def c328:=(λe=>cV<|CoW [] f328 e) emp
def ZRv(e)(N):=cV<|CoX e [] [] f329 N
def c329L0b:=(λe=>cV<|CoU ZRv e [] 0) emp
def c329L0:=(λe a=>cV<|CoU ZRv e [a] 1) emp c329L0b
def c329:=(λe a b=>cV<|CoU ZRv e [a,b] 2) emp c329L0b c329L0
def c330:=(λe=>cV<|CoW [(100,2)] f330 e) emp
def c331:=(λe=>cV<|CoW [(100,2)] f331 e) emp
def ZRw(e)(N):=cV<|CoX e [] [(306,1)] f333 N
def c333L0b:=(λe=>cV<|CoU ZRw e [] 0) emp
def c333L0:=(λe a=>cV<|CoU ZRw e [a] 1) emp c333L0b
def c333:=(λe a b=>cV<|CoU ZRw e [a,b] 2) emp c333L0b c333L0
def ZRx(e)(N):=cV<|CoX e [] [] f335 N
def c335L0b:=(λe=>cV<|CoU ZRx e [] 0) emp
def c335L0:=(λe a=>cV<|CoU ZRx e [a] 1) emp c335L0b
def c335:=(λe a b=>cV<|CoU ZRx e [a,b] 2) emp c335L0b c335L0
def ZRy(e)(N):=cV<|CoX e [] [] f336 N
def c336L0b:=(λe=>cV<|CoU ZRy e [] 0) emp
def c336L0:=(λe a=>cV<|CoU ZRy e [a] 1) emp c336L0b
def c336:=(λe a b=>cV<|CoU ZRy e [a,b] 2) emp c336L0b c336L0
def ZRz(e)(N):=cV<|CoX e [] [] f337 N
def c337L0b:=(λe=>cV<|CoU ZRz e [] 0) emp
def c337L0:=(λe a=>cV<|CoU ZRz e [a] 1) emp c337L0b
def c337:=(λe a b=>cV<|CoU ZRz e [a,b] 2) emp c337L0b c337L0
def ZRA(e)(N):=cV<|CoX e [] [] f338 N
def c338L0b:=(λe=>cV<|CoU ZRA e [] 0) emp
def c338L0:=(λe a=>cV<|CoU ZRA e [a] 1) emp c338L0b
def c338:=(λe a b=>cV<|CoU ZRA e [a,b] 2) emp c338L0b c338L0
def ZRB(e)(N):=cV<|CoX e [] [(399,101),(300,1),(400,1),(500,2),(502,1),(600,1),(1101,1)] f355 N
def c355R0a:=(λe=>cV<|CoU ZRB e [] 0) emp
def c355R0b:=(λe a=>cV<|CoU ZRB e [a] 1) emp c355R0a
def c355:=(λe a b=>cV<|CoU ZRB e [a,b] 2) emp c355R0a c355R0b
def ZRC(e)(N):=cV<|CoX e [] [] f373 N
def c373L0b:=(λe=>cV<|CoU ZRC e [] 0) emp
def c373L0:=(λe a=>cV<|CoU ZRC e [a] 1) emp c373L0b
def c373:=(λe a b=>cV<|CoU ZRC e [a,b] 2) emp c373L0b c373L0
def c374:=(λe=>cV<|CoW [] f374 e) emp
def c375:=(λe=>cV<|CoW [] f375 e) emp
def c376:=(λe=>cV<|CoW [(106,1),(107,1)] f376 e) emp
def c378:=(λe=>cV<|CoW [] f378 e) emp
def c379:=(λe=>cV<|CoW [(0,1)] f379 e) emp
def c380:=(λe=>cV<|CoW [] f380 e) emp
def ZRD(e)(N):=cV<|CoX e [] [(1,1),(2,1),(100,2),(101,1),(200,1),(300,1)] f381 N
def c381R0a:=(λe=>cV<|CoU ZRD e [] 0) emp
def c381R0b:=(λe a=>cV<|CoU ZRD e [a] 1) emp c381R0a
def c381:=(λe a b=>cV<|CoU ZRD e [a,b] 2) emp c381R0a c381R0b
def ZRE(e)(N):=cV<|CoX e [] [(402,1)] f397 N
def c397L0b:=(λe=>cV<|CoU ZRE e [] 0) emp
def c397L0:=(λe a=>cV<|CoU ZRE e [a] 1) emp c397L0b
def c397:=(λe a b=>cV<|CoU ZRE e [a,b] 2) emp c397L0b c397L0
def c398:=(λe=>cV<|CoW [] f398 e) emp
def c399:=(λe=>cV<|CoW [] f399 e) emp
def ZRF(e)(N):=cV<|CoX e [] [(203,1),(310,1)] f407 N
def c407L0b:=(λe=>cV<|CoU ZRF e [] 0) emp
def c407L0:=(λe a=>cV<|CoU ZRF e [a] 1) emp c407L0b
def c407:=(λe a b=>cV<|CoU ZRF e [a,b] 2) emp c407L0b c407L0
def ZRG(e)(N):=cV<|CoX e [] [(302,1)] f408 N
def c408L0b:=(λe=>cV<|CoU ZRG e [] 0) emp
def c408L0:=(λe a=>cV<|CoU ZRG e [a] 1) emp c408L0b
def c408:=(λe a b=>cV<|CoU ZRG e [a,b] 2) emp c408L0b c408L0
def c409:=(λe=>cV<|CoW [(2,1)] f409 e) emp
def c410:=(λe=>cV<|CoW [] f410 e) emp
def c411:=(λe=>cV<|CoW [(503,1)] f411 e) emp
def c412:=(λe=>cV<|CoW [] f412 e) emp
def ZRH(e)(N):=cV<|CoX e [] [] f414 N
def c414L0b:=(λe=>cV<|CoU ZRH e [] 0) emp
def c414L0:=(λe a=>cV<|CoU ZRH e [a] 1) emp c414L0b
def c414:=(λe a b=>cV<|CoU ZRH e [a,b] 2) emp c414L0b c414L0
def c420:=(λe=>cV<|CoW [] f420 e) emp
def ZRI(e)(N):=cV<|CoX e [] [(202,1),(307,1)] f421 N
def c421L0b:=(λe=>cV<|CoU ZRI e [] 0) emp
def c421L0:=(λe a=>cV<|CoU ZRI e [a] 1) emp c421L0b
def c421:=(λe a b=>cV<|CoU ZRI e [a,b] 2) emp c421L0b c421L0
def c426:=(λe=>cV<|CoW [(2,1)] f426 e) emp
def c427:=(λe=>cV<|CoW [] f427 e) emp
def c428:=(λe=>cV<|CoW [] f428 e) emp
def FN0:List (Nat×AFun):=[(3,⟨[.tmp 16],c3⟩),(4,⟨[.tmp 0],c4⟩),(5,⟨[.tmp 10],c5⟩),(6,⟨[.cell 16<|some 3,.tmp 17],c6⟩),(7,⟨[.tmp 4,.tmp 5],c7⟩),(8,⟨[.tmp 6,.tmp 7],c8⟩),(9,⟨[.tmp 0],c9⟩),(10,⟨[.tmp 0],c10⟩),(11,⟨[.tmp 8],c11⟩),(12,⟨[.tmp 4],c12⟩),(13,⟨[.tmp 6],c13⟩),(14,⟨[.tmp 2],c14⟩),(15,⟨[.cell 6<|some 7,.tmp 7],c15⟩),(16,⟨[.cell 8<|some 5],c16⟩)]
def FN1:List (Nat×AFun):=[(17,⟨[.tmp 6,.tmp 7],c17⟩),(19,⟨[.tmp 2],c19⟩),(21,⟨[.tmp 4],c21⟩),(22,⟨[.cell 4<|some 64],c22⟩),(23,⟨[.tmp 4],c23⟩),(24,⟨[.tmp 2],c24⟩),(25,⟨[.tmp 4],c25⟩),(26,⟨[.tmp 2],c26⟩),(27,⟨[.tmp 4],c27⟩),(28,⟨[.tmp 2],c28⟩),(29,⟨[.tmp 2],c29⟩),(30,⟨[.tmp 2],c30⟩),(31,⟨[.tmp 8,.tmp 9,.tmp 10],c31⟩),(32,⟨[.tmp 2,.tmp 3],c32⟩)]
def FN2:List (Nat×AFun):=[(33,⟨[.tmp 6],c33⟩),(34,⟨[.tmp 6],c34⟩),(35,⟨[.cell 6<|some 7,.tmp 7],c35⟩),(36,⟨[.cell 4<|some 2,.tmp 5],c36⟩),(37,⟨[.tmp 4,.tmp 5],c37⟩),(38,⟨[.tmp 5],c38⟩),(39,⟨[.tmp 6,.tmp 7],c39⟩),(40,⟨[.tmp 4],c40⟩),(41,⟨[.tmp 5],c41⟩),(44,⟨[],c44⟩),(45,⟨[.tmp 3],c45⟩),(46,⟨[.tmp 2],c46⟩),(47,⟨[.tmp 4],c47⟩),(48,⟨[.tmp 4],c48⟩)]
def FN3:List (Nat×AFun):=[(49,⟨[.tmp 2],c49⟩),(50,⟨[.tmp 2,.tmp 3],c50⟩),(51,⟨[.tmp 2],c51⟩),(52,⟨[.tmp 2],c52⟩),(53,⟨[.tmp 4],c53⟩),(54,⟨[.tmp 4],c54⟩),(55,⟨[.cell 4<|some 6],c55⟩),(56,⟨[.tmp 4],c56⟩),(57,⟨[.tmp 2,.tmp 3,.tmp 4],c57⟩),(59,⟨[.tmp 0],c59⟩),(60,⟨[.tmp 4],c60⟩),(61,⟨[.tmp 6],c61⟩),(66,⟨[.tmp 2,.tmp 3],c66⟩),(67,⟨[.tmp 2],c67⟩)]
def FN4:List (Nat×AFun):=[(68,⟨[.tmp 2],c68⟩),(69,⟨[.tmp 4],c69⟩),(70,⟨[.tmp 2],c70⟩),(71,⟨[.cell 2 none],c71⟩),(72,⟨[.tmp 2],c72⟩),(73,⟨[.tmp 2],c73⟩),(74,⟨[.tmp 2],c74⟩),(75,⟨[.tmp 6],c75⟩),(76,⟨[.tmp 2],c76⟩),(77,⟨[.tmp 2],c77⟩),(78,⟨[.tmp 2],c78⟩),(79,⟨[.tmp 2],c79⟩),(80,⟨[.tmp 2],c80⟩),(81,⟨[.tmp 2],c81⟩)]
def FN5:List (Nat×AFun):=[(82,⟨[.tmp 2],c82⟩),(83,⟨[.tmp 2],c83⟩),(84,⟨[.tmp 2],c84⟩),(85,⟨[.tmp 2],c85⟩),(86,⟨[.tmp 2],c86⟩),(87,⟨[.tmp 2],c87⟩),(88,⟨[.tmp 2],c88⟩),(89,⟨[.tmp 2],c89⟩),(90,⟨[.tmp 2],c90⟩),(91,⟨[.tmp 2],c91⟩),(92,⟨[.tmp 2],c92⟩),(93,⟨[.tmp 4],c93⟩),(94,⟨[.tmp 2],c94⟩),(95,⟨[.tmp 4],c95⟩)]
def FN6:List (Nat×AFun):=[(100,⟨[.tmp 4],c100⟩),(101,⟨[.cell 4<|some 11,.tmp 5],c101⟩),(102,⟨[.cell 4 none,.cell 5 none],c102⟩),(103,⟨[.tmp 4],c103⟩),(107,⟨[.tmp 2],c107⟩),(108,⟨[.tmp 2],c108⟩),(109,⟨[.tmp 4],c109⟩),(110,⟨[.tmp 2,.tmp 3,.tmp 4,.tmp 5],c110⟩),(113,⟨[.tmp 2],c113⟩),(114,⟨[.tmp 2],c114⟩),(115,⟨[.tmp 2],c115⟩),(116,⟨[.tmp 2],c116⟩),(117,⟨[.cell 0<|some 256],c117⟩),(118,⟨[.tmp 4],c118⟩)]
def FN7:List (Nat×AFun):=[(119,⟨[.cell 4<|some 4,.tmp 5,.tmp 6],c119⟩),(128,⟨[],c128⟩),(131,⟨[.tmp 6],c131⟩),(132,⟨[.cell 2<|some 18],c132⟩),(133,⟨[.cell 0<|some 16],c133⟩),(134,⟨[.tmp 4],c134⟩),(135,⟨[.tmp 3],c135⟩),(136,⟨[.tmp 2],c136⟩),(137,⟨[.tmp 4],c137⟩),(138,⟨[.tmp 3],c138⟩),(139,⟨[.tmp 2],c139⟩),(140,⟨[.tmp 4],c140⟩),(141,⟨[.tmp 3],c141⟩),(142,⟨[.cell 6 none],c142⟩)]
def FN8:List (Nat×AFun):=[(143,⟨[.tmp 2],c143⟩),(144,⟨[.tmp 4],c144⟩),(145,⟨[.tmp 4],c145⟩),(146,⟨[.tmp 2],c146⟩),(147,⟨[.tmp 2],c147⟩),(148,⟨[.tmp 6],c148⟩),(149,⟨[.tmp 4],c149⟩),(150,⟨[.tmp 4],c150⟩),(151,⟨[.tmp 2],c151⟩),(152,⟨[.tmp 6],c152⟩),(153,⟨[],c153⟩),(154,⟨[.tmp 2],c154⟩),(155,⟨[.tmp 4],c155⟩),(156,⟨[],c156⟩)]
def FN9:List (Nat×AFun):=[(157,⟨[.tmp 6],c157⟩),(158,⟨[],c158⟩),(159,⟨[],c159⟩),(160,⟨[],c160⟩),(161,⟨[.tmp 2],c161⟩),(162,⟨[.tmp 4],c162⟩),(163,⟨[],c163⟩),(164,⟨[.tmp 2],c164⟩),(165,⟨[.tmp 3],c165⟩),(166,⟨[.tmp 4],c166⟩),(167,⟨[.tmp 3],c167⟩),(168,⟨[.tmp 6],c168⟩),(169,⟨[],c169⟩),(170,⟨[],c170⟩)]
def ZjY:List (Nat×AFun):=[(171,⟨[.tmp 6],c171⟩),(172,⟨[],c172⟩),(173,⟨[],c173⟩),(174,⟨[.tmp 4],c174⟩),(175,⟨[.tmp 3],c175⟩),(176,⟨[],c176⟩),(177,⟨[.tmp 4],c177⟩),(178,⟨[.tmp 6],c178⟩),(179,⟨[],c179⟩),(180,⟨[.tmp 4],c180⟩),(181,⟨[.tmp 2],c181⟩),(182,⟨[],c182⟩),(188,⟨[.cell 4<|some 11],c188⟩),(189,⟨[.tmp 4],c189⟩)]
def ZjZ:List (Nat×AFun):=[(190,⟨[.tmp 4],c190⟩),(191,⟨[.tmp 3],c191⟩),(207,⟨[],c207⟩),(208,⟨[.tmp 6],c208⟩),(209,⟨[.tmp 4],c209⟩),(213,⟨[.tmp 4],c213⟩),(228,⟨[.tmp 3],c228⟩),(229,⟨[.tmp 2],c229⟩),(230,⟨[.tmp 2],c230⟩),(231,⟨[.tmp 2],c231⟩),(232,⟨[.tmp 4],c232⟩),(233,⟨[.tmp 3],c233⟩),(234,⟨[.tmp 2],c234⟩),(235,⟨[.tmp 3],c235⟩)]
def Zk0:List (Nat×AFun):=[(236,⟨[.tmp 2],c236⟩),(237,⟨[.tmp 3],c237⟩),(238,⟨[.tmp 2],c238⟩),(239,⟨[.tmp 2],c239⟩),(240,⟨[.tmp 2],c240⟩),(241,⟨[.tmp 3],c241⟩),(242,⟨[.tmp 2],c242⟩),(243,⟨[.tmp 2],c243⟩),(244,⟨[.tmp 2],c244⟩),(245,⟨[.tmp 2],c245⟩),(246,⟨[.tmp 4],c246⟩),(247,⟨[.tmp 3],c247⟩),(248,⟨[.tmp 4],c248⟩),(249,⟨[.tmp 4],c249⟩)]
def Zsg:List (Nat×AFun):=[(250,⟨[.tmp 2],c250⟩),(251,⟨[.tmp 2],c251⟩),(252,⟨[.tmp 3],c252⟩),(253,⟨[.tmp 2],c253⟩),(254,⟨[.tmp 3],c254⟩),(256,⟨[],c256⟩),(257,⟨[.tmp 4],c257⟩),(258,⟨[.tmp 4],c258⟩),(260,⟨[.tmp 4],c260⟩),(261,⟨[.tmp 2],c261⟩),(262,⟨[.tmp 2],c262⟩),(265,⟨[.tmp 4],c265⟩),(266,⟨[.tmp 3],c266⟩),(268,⟨[.tmp 4],c268⟩)]
def Zsh:List (Nat×AFun):=[(269,⟨[.tmp 3],c269⟩),(271,⟨[.tmp 4],c271⟩),(272,⟨[.tmp 3],c272⟩),(273,⟨[.tmp 2],c273⟩),(274,⟨[.tmp 4],c274⟩),(276,⟨[],c276⟩),(277,⟨[],c277⟩),(279,⟨[.tmp 4],c279⟩),(280,⟨[.tmp 4],c280⟩),(281,⟨[.tmp 3],c281⟩),(283,⟨[.tmp 4],c283⟩),(284,⟨[.tmp 3],c284⟩),(288,⟨[.tmp 2],c288⟩),(289,⟨[.tmp 4],c289⟩)]
def ZCZ:List (Nat×AFun):=[(290,⟨[.tmp 6,.tmp 7],c290⟩),(291,⟨[],c291⟩),(305,⟨[.tmp 4],c305⟩),(313,⟨[.tmp 4],c313⟩),(314,⟨[.tmp 2],c314⟩),(315,⟨[.tmp 2],c315⟩),(316,⟨[.tmp 2],c316⟩),(317,⟨[.tmp 2],c317⟩),(318,⟨[.tmp 2],c318⟩),(319,⟨[.tmp 2],c319⟩),(320,⟨[.tmp 4],c320⟩),(321,⟨[.tmp 2],c321⟩),(322,⟨[.tmp 2],c322⟩),(323,⟨[.tmp 4],c323⟩)]
def ZTu:List (Nat×AFun):=[(324,⟨[.tmp 2],c324⟩),(325,⟨[.tmp 4],c325⟩),(326,⟨[.tmp 2],c326⟩),(327,⟨[.tmp 3],c327⟩),(328,⟨[.tmp 2],c328⟩),(329,⟨[.tmp 4],c329⟩),(330,⟨[.tmp 4],c330⟩),(331,⟨[.tmp 4],c331⟩),(333,⟨[],c333⟩),(335,⟨[.tmp 4],c335⟩),(336,⟨[.tmp 4],c336⟩),(337,⟨[.tmp 4],c337⟩),(338,⟨[.tmp 4],c338⟩),(355,⟨[.tmp 6,.tmp 7,.tmp 8],c355⟩)]
def ZTv:List (Nat×AFun):=[(373,⟨[.tmp 4],c373⟩),(374,⟨[.tmp 2],c374⟩),(375,⟨[.tmp 6],c375⟩),(376,⟨[.tmp 8],c376⟩),(378,⟨[.tmp 2],c378⟩),(379,⟨[.cell 0<|some 56],c379⟩),(380,⟨[.tmp 4],c380⟩),(381,⟨[.cell 4 none,.cell 5 none],c381⟩),(397,⟨[.tmp 2],c397⟩),(398,⟨[.tmp 2],c398⟩),(399,⟨[.tmp 4],c399⟩),(407,⟨[],c407⟩),(408,⟨[.tmp 2],c408⟩),(409,⟨[.cell 4<|some 6],c409⟩)]
def ZTw:List (Nat×AFun):=[(410,⟨[.tmp 4],c410⟩),(411,⟨[.tmp 6],c411⟩),(412,⟨[.tmp 6],c412⟩),(414,⟨[.tmp 6],c414⟩),(420,⟨[.tmp 2],c420⟩),(421,⟨[],c421⟩),(426,⟨[.cell 4<|some 2],c426⟩),(427,⟨[.tmp 4],c427⟩),(428,⟨[.tmp 4],c428⟩)]
def ZjW(f:Nat)(l:List<|Nat×AFun):Option AFun:=l.foldr (λp r=>bif Nat.beq f p.1 then some p.2 else r) none
def N0(f:Nat):Option AFun:=bif Nat.blt f 17 then ZjW f FN0 else bif Nat.blt f 33 then ZjW f FN1 else bif Nat.blt f 49 then ZjW f FN2 else bif Nat.blt f 68 then ZjW f FN3 else bif Nat.blt f 82 then ZjW f FN4 else bif Nat.blt f 100 then ZjW f FN5 else bif Nat.blt f 119 then ZjW f FN6 else bif Nat.blt f 143 then ZjW f FN7 else bif Nat.blt f 157 then ZjW f FN8 else bif Nat.blt f 171 then ZjW f FN9 else bif Nat.blt f 190 then ZjW f ZjY else bif Nat.blt f 236 then ZjW f ZjZ else bif Nat.blt f 250 then ZjW f Zk0 else bif Nat.blt f 269 then ZjW f Zsg else bif Nat.blt f 290 then ZjW f Zsh else bif Nat.blt f 324 then ZjW f ZCZ else bif Nat.blt f 373 then ZjW f ZTu else bif Nat.blt f 410 then ZjW f ZTv else ZjW f ZTw
def a97:AFun:=⟨[.tmp 2],c97⟩
def a99:AFun:=⟨[.tmp 2],c99⟩
def Zz9:List (Nat×AFun):=[(97,⟨[.tmp 2],c97⟩),(99,⟨[.tmp 2],c99⟩),(63,⟨[.tmp 5],c63⟩),(64,⟨[.tmp 2],c64⟩),(65,⟨[.tmp 4],c65⟩),(184,⟨[.tmp 5],c184⟩),(185,⟨[.tmp 4],c185⟩),(187,⟨[.tmp 5],c187⟩),(130,⟨[.tmp 2],c130⟩),(286,⟨[.tmp 2],c286⟩)]
def Zza(f:Nat):Option AFun:=ZjW f Zz9
def e0:Env:={fn:=Zza,gl:=λ_=>.bot,sum:=λ_=>none}
def ZGv:List (Nat×AFun):=[(96,⟨[.tmp 4],c96⟩),(98,⟨[.tmp 4],c98⟩)]
def ZGw(f:Nat):Option AFun:=ZjW f ZGv
end Go.AM
