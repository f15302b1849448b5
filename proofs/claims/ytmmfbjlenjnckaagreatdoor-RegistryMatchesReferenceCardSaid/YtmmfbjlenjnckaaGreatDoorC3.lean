/- The code of the abstract machine for the functions that the statement RegistryMatchesReference reaches. No condition. -/
import Derived.Test.YtmmfbjlenjnckaaGreatDoorQ3
import Derived.Test.YtmmfbjlenjnckaaGreatDoorProg
set_option linter.unusedVariables false
set_option linter.defProp false
set_option linter.unusedSimpArgs false
set_option linter.unusedSectionVars false
namespace Go.AM
open Go
inductive CoTy where
 |b|i (k:IntKind)|s|sl (e by':Nat)|st (fs:List Nat)|ar (n e:Nat)|mp (k v:Nat)|p|f|j|o
structure CoCx where
 T:Nat->CoTy
 e:ByteArray
 S:List<|Nat×ByteArray
 H:List<|Nat×Nat
 N:Nat->ACode
def ZvB{α:Type}(d:α):List α->Nat->α
 |[],_=>d
 |x::r,n=>bif n==0 then x else ZvB d r<|n-1
def Zwo(T:Nat->CoTy):Nat->Nat->Nat
 |0,_=>1
 |n+1,t=>match T t with
  | .st fs=>fs.foldr (λf s=>Zwo T n f+s) 0
  | .ar k e=>k*Zwo T n e
  |_=>1
def Zw0(T:Nat->CoTy)(e:ByteArray):Nat->Nat->List AV
 |0,_=>[]
 |n+1,t=>match T t with
  | .b=>[.bool false]
  | .i k=>[.int k 0]
  | .s=>[.str e]
  | .sl x _=>[.isl false false (Zwo T n x) []]
  | .st fs=>fs.foldr (λf s=>Zw0 T e n f++s) []
  | .ar k x=>(List.replicate k<|Zw0 T e n x).flatten
  | .mp _ _=>[.nilmap]
  | .p=>[.nilp]
  | .f=>[.nilfn]
  | .j=>[.nilif]
  | .o=>[.bot]
def ZvR(T:Nat->CoTy):Nat->Nat->List Nat
 |0,_=>[]
 |n+1,t=>match T t with
  | .b=>[0]
  | .i _=>[1]
  | .s=>[2]
  | .st fs=>fs.foldr (λf s=>ZvR T n f++s) []
  | .ar k x=>(List.replicate k<|ZvR T n x).flatten
  |_=>[]
def Zw1:CoTy->Bool
 | .st _| .ar _ _=>true
 |_=>false
def ZwJ(b:Bool):AV->AV
 | .isl w _ n l=>.isl w b n l
 |v=>v
def ZvK(X:CoCx)(top:Bool)(t:Nat):AV:=match X.T t with
 | .st _| .ar _ _=>.agg<|Zw0 X.T X.e 9 t
 |_=>ZwJ top<|ZvB .bot (Zw0 X.T X.e 9 t) 0
def ZxZ:AV->AV
 | .agg cs=>.agg<|cs.map<|ZwJ true
 |v=>ZwJ true v
def Zvk(X:CoCx)(t:Nat):Nat:=Zwo X.T 9 t
def ZwK(X:CoCx)(t:Nat):Option Nat:=bif Zw1 (X.T t)then some (Zvk X t)else none
def ZvC(X:CoCx)(t:Nat):Nat:=match X.T t with
 | .sl e _=>e
 | .ar _ e=>e
 |_=>0
def ZwL(X:CoCx)(t:Nat):Nat:=match X.T t with
 | .sl _ y=>y
 |_=>0
def Zwp(X:CoCx)(t:Nat):List Nat:=match X.T t with
 | .st fs=>fs
 |_=>[]
def ZwM(X:CoCx)(t i:Nat):Nat:=((Zwp X t).take i).foldr (λf s=>Zvk X f+s) 0
def ZFJ(e:ByteArray)(k:Nat):List (Nat×ByteArray)->ByteArray
 |[]=>e
 |p::r=>bif p.1==k then p.2 else ZFJ e k r
def Zzy(X:CoCx)(h:Nat)(ex:Bool)(t:Nat):Value->AV
 | .bool b=>.bool b
 | .int k n=>.int k n
 | .string s=>.str (match s.data.toList with|[]=>X.e|l=>ZFJ X.e (l.foldl (λn b=>256*n+b.toNat) 1) X.S)
 | .pointer _=>.nilp
 | .slice _ _ _=>.isl false ex (Zvk X<|ZvC X t) []
 | .map _=>.nilmap
 | .nilFunc=>.nilfn
 | .nilIface=>.nilif
 | .agg _=>ZvK X false t
 |_=>.bot
def Zr1(X:CoCx)(h:Nat)(ex:Bool)(t:Nat):Operand->Arg
 | .tmp t=>.t t
 | .const v=>.c<|Zzy X h ex t v
 | .func f=>.f f
 | .global g=>.g g
def Zw2(X:CoCx)(h:Nat)(ex:Bool):List Operand->List Nat->List Arg
 |x::r,t::ts=>Zr1 X h ex t x::Zw2 X h ex r ts
 |x::r,[]=>Zr1 X h ex 0 x::Zw2 X h ex r []
 |[],_=>[]
def Zzz(X:CoCx)(h:Nat)(c:Call):AOp:=
 let ts:=c.argTypes.toList
 let t:=ZvB 0 ts 0
 match c.callee,c.args.toList with
 | .builtin .len,[x]=>.len (match X.T t with| .s=>0| .sl _ _=>1|_=>2)<|Zr1 X h false t x
 | .builtin .min,[x,y]=>.mm false (Zr1 X h false t x)<|Zr1 X h false t y
 | .builtin .max,[x,y]=>.mm true (Zr1 X h false t x)<|Zr1 X h false t y
 | .builtin .append,[x,y]=>
  bif h%16==3 then .apa (Zvk X<|ZvC X t) (ZwL X t) (Zr1 X h true t x) (Zr1 X h false t y)else bif h%16==2 then .apr (Zvk X<|ZvC X t) (ZwL X t) (Zr1 X h true t x) (Zr1 X h false t y)else .app (h%16==1) (Zvk X<|ZvC X t) (ZwL X t) (Zr1 X h true t x)<|Zr1 X h false t y
 | .value (.func f),l=>.call (h%2==0) f<|Zw2 X h (h/2%2==1) l ts
 | .value x,l=>.callv (h%2==0) (Zr1 X h false 0 x)<|Zw2 X h false l ts
 |_,_=>.bad
def ZzA(X:CoCx)(h:Nat)(ty:Nat):Op->AOp
 | .move x| .assign x=>bif h%16==1 then .own (Zvk X<|ZvC X ty)else bif h%16==2 then .rel (Zr1 X h false ty x)else .mv<|Zr1 X h false ty x
 | .pick a b c=>.pick (Zr1 X h false 0 a) (Zr1 X h false ty b)<|Zr1 X h false ty c
 | .alloc t=>bif h%2==0 then .ibox (Zvk X t) (.c<|bif h/2%2==1 then ZxZ (ZvK X true t)else ZvK X true t)else .box (Zvk X t)<|.c<|bif h/2%2==1 then ZxZ (ZvK X true t)else ZvK X true t
 | .box t x=>bif h%2==0 then .ibox (Zvk X t) (Zr1 X h false t x)else .box (Zvk X t)<|Zr1 X h false t x
 | .build t ps=>match X.T t with
  | .ar _ e=>.build (Zw0 X.T X.e 9 t)<|ps.toList.map λp=>(p.1*Zvk X e,Zvk X e,Zr1 X h false e p.2)
  |_=>.build (bif h==1 then(Zw0 X.T X.e 9 t).map (ZwJ true)else bif Nat.blt 1 h then(Zw0 X.T X.e 9 t).set (h-2) .nilsl else Zw0 X.T X.e 9 t)<|ps.toList.map λp=>(ZwM X t p.1,Zvk X<|ZvB 0 (Zwp X t) p.1,Zr1 X h false (ZvB 0 (Zwp X t) p.1) p.2)
 | .buildSlice t n ps=>.bsl (h%2==0) (h/2%2==1) (Zvk X<|ZvC X t) (ZvK X false<|ZvC X t) n<|ps.toList.map λp=>(p.1,Zr1 X h false (ZvC X t) p.2)
 | .load t x=>bif h==0 then .load (ZwK X t) (Zr1 X h false 0 x)else .ldr (Zvk X t) h<|Zr1 X 0 false 0 x
 | .store t a x=>.store (Zvk X t) (Zr1 X h false 0 a)<|Zr1 X h false t x
 | .nilCheck x=>.nilck<|Zr1 X h false 0 x
 | .binOp op t x y _=>match op,X.T t with
  | .eql,.i _| .neq,.i _| .eql,.s| .neq,.s=>.bin op (Zr1 X h false t x)<|Zr1 X h false t y
  | .eql,.p=>.isn false<|Zr1 X h false t x
  | .neq,.p=>.isn true<|Zr1 X h false t x
  | .eql,k=>.eqv false (Zw1 k) (ZvR X.T 9 t) (Zr1 X h false t x)<|Zr1 X h false t y
  | .neq,k=>.eqv true (Zw1 k) (ZvR X.T 9 t) (Zr1 X h false t x)<|Zr1 X h false t y
  |_,_=>.bin op (Zr1 X h false t x)<|Zr1 X h false t y
 | .unOp op t x=>.un op<|Zr1 X h false t x
 | .convert _ d x=>.conv (match X.T d with| .i k=>some k|_=>none)<|Zr1 X h false d x
 | .field t x i=>.fld (ZwK X<|ZvB 0 (Zwp X t) i) (ZwM X t i)<|Zr1 X h false t x
 | .fieldAddr t x i=>.fadr (ZwM X t i)<|Zr1 X h false t x
 | .indexAddr t x i=>match X.T t with
  | .ar n e=>.aadr (Zvk X e) n (Zr1 X h false 0 x)<|Zr1 X h false 0 i
  |_=>.iadr (Zvk X<|ZvC X t) (Zr1 X h false t x)<|Zr1 X h false 0 i
 | .index t x i=>match X.T t with
  | .ar n e=>.aidx (ZwK X e) (Zvk X e) n (Zr1 X h false t x)<|Zr1 X h false 0 i
  |_=>.sidx (Zr1 X h false 0 x)<|Zr1 X h false 0 i
 | .extract x i=>.ext (Zr1 X h false 0 x) i
 | .makeFunc fn a b=>.mkf fn (Zw2 X h false a.toList [])<|Zw2 X h false b.toList []
 | .makeMap _ _=>.mkm
 | .insert t m k v=>match X.T t with
  | .mp a b=>.ins (Zw1<|X.T a) (ZvR X.T 9 a) (Zr1 X h false 0 m) (Zr1 X h false a k)<|Zr1 X h false b v
  |_=>.bad
 | .mapUpdate t m k v=>match X.T t with
  | .mp a b=>.mupd (Zw1<|X.T a) (ZvR X.T 9 a) (Zr1 X h false 0 m) (Zr1 X h false a k)<|Zr1 X h false b v
  |_=>.bad
 | .lookup t m k ok=>match X.T t with
  | .mp a b=>.lkp (Zw1<|X.T a) (ZvR X.T 9 a) ok (ZvK X (h==1) b) (Zr1 X h false 0 m)<|Zr1 X h false a k
  |_=>.bad
 | .makeSlice t l c=>.mks (Zvk X<|ZvC X t) (ZvK X false<|ZvC X t) (ZwL X t) (Zr1 X h false 0 l)<|Zr1 X h false 0 c
 | .slice t x a b c=>match X.T t with
  | .s=>.ssl (Zr1 X h false t x) (a.map<|Zr1 X h false 0)<|b.map<|Zr1 X h false 0
  |_=>.slc (Zvk X<|ZvC X t) (Zr1 X h false t x) (a.map<|Zr1 X h false 0) (b.map<|Zr1 X h false 0)<|c.map<|Zr1 X h false 0
 | .range _ x=>.rng<|Zr1 X h false 0 x
 | .next x _=>.nxt<|Zr1 X h false 0 x
 | .makeInterface t x=>.mkif t<|Zr1 X h false t x
 | .call c=>Zzz X h c
 |_=>.bad
def Zwq:Operand->Nat
 | .tmp t=>1 <<< t
 |_=>0
def ZwN(l:List Operand):Nat:=l.foldr (λx m=>Zwq x ||| m) 0
def ZzB:Op->List Operand
 | .call c=>(match c.callee with| .value f=>[f]|_=>[])++c.args.toList
 | .build _ ps| .buildSlice _ _ ps=>ps.toList.map (·.2)
 | .makeFunc _ a b=>a.toList++b.toList
 | .slice _ x a b c=>x::(a.toList++(b.toList++c.toList))
 | .makeMap _ r=>r.toList
 | .move x| .assign x| .box _ x| .load _ x| .nilCheck x| .unOp _ _ x| .convert _ _ x| .makeInterface _ x| .fieldAddr _ x _| .field _ x _| .range _ x| .next x _| .extract x _=>[x]
 | .pick c a b=>[c,a,b]
 | .store _ a v| .binOp _ _ a v _| .makeSlice _ a v| .indexAddr _ a v| .index _ a v| .lookup _ a v _=>[a,v]
 | .mapUpdate _ m k v| .insert _ m k v=>[m,k,v]
 |_=>[]
def ZwO(l:List Oper)(j:Nat):Option Nat:=match l with
 |[]=>none
 |o::r=>bif j==0 then o.dst else ZwO r<|j-1
def ZzC(ops:List Oper):Option (Nat×Bool)->Nat
 |some (j,_)=>(match ZwO ops j with|some d=>1 <<< d|none=>0)
 |none=>0
def Zy0(ops:List Oper)(o:Oper)(m:Nat):Nat:=
 (match o.dst with|some d=>(m ||| (1 <<< d)) ^^^ (1 <<< d)|none=>m) ||| (ZwN (ZzB o.op) ||| ZzC ops o.guard)
def ZvO:List (Nat×Nat)->Nat->Nat
 |[],_=>0
 |p::r,i=>bif p.1==i then p.2 else ZvO r i
def Zy1(f:Nat->Nat):Nat->Nat->Nat
 |0,l=>l
 |n+1,l=>(λm=>bif m==l then l else Zy1 f n m) (l ||| f l)
def ZzD(x:List<|Nat×Nat):Nat:=x.foldr (λp m=>p.2 ||| m) 0
def ZvD:List (Nat×Nat)->Nat->Code->Nat->Nat
 |_,_,.region _ ops _,out=>ops.toList.foldr (Zy0 ops.toList) out
 |x,rt,.seq a b,out=>ZvD x rt a<|ZvD x rt b out
 |x,rt,.cond c a b,out=>Zwq c ||| (ZvD x rt a out ||| ZvD x rt b out)
 |x,rt,.block id b,out=>ZvD ((id,out)::x) rt b out
 |x,rt,.loop b,_=>Zy1 (λl=>ZvD x rt b l) 8 0
 |x,rt,.rangeFunc f ps a b,out=>(λm=>Zwq f ||| (((m ||| ZwN (ps.toList.map .tmp)) ^^^ ZwN (ps.toList.map .tmp)) ||| (out ||| (ZzD x ||| rt)))) (ZvD [] 0 a<|ZvD [] 0 b 0)
 |x,_,.exit id,_=>ZvO x id
 |_,rt,.ret,_=>rt
 |_,_,_,out=>out
def Zw3:List (Nat×Nat)->Nat->Code->Nat
 |x,_,.exit i=>ZvO x i
 |_,rt,.ret=>rt
 |x,rt,.seq a b|x,rt,.cond _ a b|x,rt,.rangeFunc _ _ a b=>Zw3 x rt a ||| Zw3 x rt b
 |x,rt,.block id b=>Zw3 ((id,0)::x) rt b
 |x,rt,.loop b=>Zw3 x rt b
 |_,_,_=>0
def Zvs:Code->Nat
 | .seq a b| .cond _ a b=>Zvs a+Zvs b
 | .block _ b=>Zvs b
 | .loop b=>Zvs b+1
 | .rangeFunc _ _ a b=>Zvs a+Zvs b+1
 |_=>0
def ZwP:List Nat->Nat->Nat->List Nat->List Nat
 |[],o,m,acc=>bif m==0 then acc else o::acc
 |k::r,o,m,acc=>bif m==0 then acc else ZwP r o (m ^^^ ((m >>> k) <<< k))<|ZwP r (o+k) (m >>> k) acc
def Zw9(m:Nat):List Nat:=ZwP [512,256,128,64,32,16,8,4,2,1] 0 m []
def ZzE(ops:List Oper):Option (Nat×Bool)->Option (Nat×Bool)
 |some (j,b)=>(match ZwO ops j with|some d=>some (d,b)|none=>none)
 |none=>none
def ZwQ(X:CoCx)(ops:List Oper)(r:Nat):List Oper->Nat->List AOper
 |[],_=>[]
 |o::l,i=>⟨o.dst,ZzA X (ZvO X.H<|100*r+i) o.type o.op,ZzE ops o.guard⟩::ZwQ X ops r l (i+1)
def Zy2(ms:List Nat):Nat->Nat
 |0=>0
 |i+1=>bif ZvB 0 ms i%2 ^ i==2 ^ i-1 then Zy2 ms i else i+1
def ZwR(m:Nat)(q:AOp):List AOper->Nat->List Nat
 |[],_=>[]
 |p::l,j=>bif m%2==1||X3 q&&X3 p.op then ZwR (m/2) q l (j+1)else j::ZwR (m/2) q l (j+1)
def Zy3(ms:List Nat)(p1:List AOper):List AOper->Nat->List (List Nat)
 |[],_=>[]
 |q::l,i=>ZwR (ZvB 0 ms i) q.op (p1.take i) 0::Zy3 ms p1 l (i+1)
def ZzF(ms:List Nat)(qs:List AOper):ACode:=(λk=>.draw (Zy3 ms (qs.take k) (qs.take k) 0) (qs.take k)<|qs.drop k) (Zy2 ms qs.length)
def ZFK(n:Nat)(l:List<|Nat×Nat):List (Nat×Nat):=bif n==0 then l else(n/100-1,n%100)::l
def ZzG(X:CoCx)(r:Nat)(ops:List Oper)(out:Nat)(qs:List AOper):ACode:=
 bif ZvO X.H (100*r+99)==0 then(bif Nat.blt 2 qs.length then .keep (Zw9 out) (.region qs)else .region qs)else
 match qs,ops with
 |[⟨some d,.fadr off p,_⟩,⟨_,.store _ _<|.c<|.isl _ _ s _,_⟩],_=>.nils s d off p
 |[⟨some d,_,_⟩],[o]=>match o.op with
  | .alloc t=>.zbox d (Zvk X t) (ZvK X true t)<|ZFK (ZvO X.H<|100*r+99)<|ZFK (ZvO X.H<|100*r+98) []
  |_=>.bad
 |_,_=>.bad
def ZSv(g:Nat)(c:ACode):ACode:=bif g==0 then c else .ghost (g/10000) (g/100%100) (g%100) c
def ZvL(X:CoCx):List (Nat×Nat)->Nat->Nat->Code->Nat->ACode×Nat×List ACode
 |_,_,_,.skip,out=>(.skip,out,[])
 |_,_,_,.label _,out=>(.skip,out,[])
 |_,_,_,.region r ops d,out=>
  (bif d then .keep (Zw9 out) (ZzF (YS ops.toList [])<|ZwQ X ops.toList r ops.toList 0)else ZSv (ZvO X.H<|100*r+90)<|ZzG X r ops.toList out<|ZwQ X ops.toList r ops.toList 0,ops.toList.foldr (Zy0 ops.toList) out,[])
 |x,rt,k,.seq a b,out=>
  match ZvL X x rt (k+Zvs a) b out with
  |(cb,lb,db)=>match ZvL X x rt k a lb with
   |(ca,la,da)=>(.seq ca cb,la,da++db)
 |x,rt,k,.cond c a b,out=>
  match ZvL X x rt k a out,ZvL X x rt (k+Zvs a) b out with
  |(ca,la,da),(cb,lb,db)=>(.cond (Zr1 X 0 false 0 c) ca cb,Zwq c ||| (la ||| lb),da++db)
 |x,rt,k,.block id b,out=>
  match ZvL X ((id,out)::x) rt k b out with
  |(cb,lb,db)=>(.keep (Zw9<|out ||| Zw3 x rt (.block id b))<|.block id cb,lb,db)
 |x,rt,k,.loop b,_=>
  (λl=>match ZvL X x rt k b l with
   |(cb,_,db)=>(X.N<|2*(k+Zvs b)+1,l,db++[.keep (Zw9<|l ||| Zw3 x rt b) cb,.loop (Zw9 l)<|X.N<|2*(k+Zvs b)])) (ZvD x rt (.loop b) 0)
 |x,rt,k,.rangeFunc f ps a b,out=>
  match ZvL X [] 0 k a (ZvD [] 0 b 0),ZvL X [] 0 (k+Zvs a) b 0 with
  |(ca,_,da),(cb,_,db)=>(.rangeFunc (Zr1 X 0 false 0 f) ps.toList (X.N<|2*(k+Zvs a+Zvs b))<|X.N<|2*(k+Zvs a+Zvs b)+1,ZvD x rt (.rangeFunc f ps a b) out,da++(db++[ca,cb]))
 |x,_,_,.exit id,_=>(.exit id,ZvO x id,[])
 |_,rt,_,.ret,_=>(.ret,rt,[])
 |_,_,_,_,out=>(.bad,out,[])
def Zy4(f:Func):Nat:=f.results.toList.foldr (λr m=>(match r with| .tmp t=>1 <<< t| .cell t _=>1 <<< t) ||| m) 0
def ZzH(X:CoCx)(f:Func):List ACode:=
 match f.body with
 |some c=>match ZvL X [] (Zy4 f) 0 c (Zy4 f)with
  |(q,_,ds)=>ds++[q]
 |none=>[]
abbrev CoV{α:Type}(a:α):={c:α // a=c}
def coY(X:(Nat->ACode)->List ACode)(l:List ACode)(n:Nat):ACode:=ZvB .bad (X<|ZvB .bad l) n
def Zr2:ACode->List Nat->ACode
 |c,[]=>c
 | .seq a b,i::r=>bif i==0 then Zr2 a r else Zr2 b r
 | .cond _ a b,i::r=>bif i==0 then Zr2 a r else Zr2 b r
 | .block _ a,_::r=>Zr2 a r
 | .keep _ a,_::r=>Zr2 a r
 | .loop _ a,_::r=>Zr2 a r
 |c,_=>c
def Zvt(t:Nat):List (Nat×CoTy)->CoTy
 |[]=>.i .i64
 |p::r=>bif p.1==t then p.2 else Zvt t r
end Go.AM
set_option maxRecDepth 100000
namespace Go.AM
open Go Go.Proofs.Tryz
def coT(t:Nat):CoTy:=bif Nat.blt t 26 then Zvt t [(4,.b),(5,.i .u8),(9,.s),(21,.i .i32),(22,.sl 87 88),(23,.sl 91 80),(24,.sl 93 56),(25,.sl 69 184)]else bif Nat.blt t 37 then Zvt t [(26,.sl 71 72),(27,.sl 163 16),(29,.st [22,23,24,25,26,27,27]),(30,.sl 9 16),(31,.sl 187 40),(33,.st [3,9,3,3]),(35,.st [3,3]),(36,.sl 35 16)]else bif Nat.blt t 73 then Zvt t [(37,.sl 67 72),(39,.st [3,3,3,3,3,9,9,9,30,31,33,35,36,37]),(43,.o),(49,.sl 105 48),(63,.o),(67,.st [9,33,35]),(69,.st [9,9,9,3,33,35,3,3,30,3,3,9]),(71,.st [9,9,9,3,3,3])]else bif Nat.blt t 93 then Zvt t [(73,.f),(75,.f),(77,.p),(78,.ar 16 75),(81,.st [29,3,39,30]),(85,.p),(87,.st [9,3,3,36,31,3]),(91,.st [9,3,36,31,3])]else bif Nat.blt t 138 then Zvt t [(93,.st [9,3,36,3]),(98,.f),(105,.st [9,3,36]),(128,.f),(129,.sl 39 240),(132,.ar 16 73),(134,.f),(137,.p)]else bif Nat.blt t 156 then Zvt t [(138,.f),(141,.p),(142,.f),(146,.f),(149,.p),(150,.f),(152,.sl 3 8),(155,.p)]else bif Nat.blt t 179 then Zvt t [(156,.f),(159,.p),(160,.f),(163,.ar 2 3),(164,.mp 166 4),(166,.st [9,33]),(170,.f),(176,.mp 3 4)]else bif Nat.blt t 213 then Zvt t [(179,.sl 27 24),(181,.mp 9 4),(187,.st [9,3,9]),(188,.f),(193,.f),(195,.f),(197,.f),(202,.f)]else bif Nat.blt t 258 then Zvt t [(213,.sl 217 40),(214,.o),(217,.st [3,3,3,9]),(218,.sl 35 16),(224,.f),(226,.sl 33 40),(254,.ar 256 3),(257,.st [9,254])]else bif Nat.blt t 288 then Zvt t [(258,.o),(262,.f),(265,.mp 187 4),(268,.st [3,3]),(269,.ar 28 268),(272,.mp 33 4),(283,.f),(284,.p)]else Zvt t [(288,.j),(289,.o),(291,.f),(293,.st [35,35]),(295,.st [3,3]),(297,.st [293,295]),(299,.f)]
@[reducible] def cV{α:Type}(a:α)(h:CoV a:=by exact⟨_,by cbv⟩):α:=h.1
attribute [go_sem ↓] cV
abbrev CoX(e:ByteArray)(S:List<|Nat×ByteArray)(H:List<|Nat×Nat)(f:Func)(N:Nat->ACode):List ACode:=ZzH ⟨coT,e,S,H,N⟩ f
abbrev CoW(H:List<|Nat×Nat)(f:Func)(e:ByteArray):ACode:=coY (CoX e [] H f) [] 0
abbrev CoU(X:ByteArray->(Nat->ACode)->List ACode)(e:ByteArray)(l:List ACode)(n:Nat):ACode:=coY (X e) l n
def c3:=(λe=>cV<|CoW [(407,1),(507,1)] f3 e) emp
def c5:=(λe s0 s1 s2 s3 s4 s5=>cV<|coY (CoX e [(91442,s0),(91443,s1),(91441,s2),(90673,s3),(95025,s4),(91444,s5)] [(104,1),(211,1),(307,1),(407,1),(511,1),(606,1),(706,1),(806,1),(906,1),(1006,1),(1404,1)] f5) [] 0) emp (B [101,50]) (B [101,51]) (B [101,49]) (B [98,49]) (B [115,49]) (B [101,52])
def c6:=(λe=>cV<|CoW [] f6 e) emp
def Zxh(e)(N):=cV<|CoX e [] [(2,1),(301,1),(406,1),(505,1)] f7 N
def s7p0:=(λe=>cV<|Zr2 (CoU Zxh e [] 0) [0]) emp
def s7p1:=(λe=>cV<|Zr2 (CoU Zxh e [] 0) [1,0]) emp
def s7p2:=(λe=>cV<|Zr2 (CoU Zxh e [] 0) [1,1,0]) emp
def s7p3:=(λe=>cV<|Zr2 (CoU Zxh e [] 0) [1,1,1,0]) emp
def s7p4:=(λe=>cV<|Zr2 (CoU Zxh e [] 0) [1,1,1,1,0]) emp
def s7p5:=(λe=>cV<|Zr2 (CoU Zxh e [] 0) [1,1,1,1,1,0]) emp
def s7p6:=(λe=>cV<|Zr2 (CoU Zxh e [] 0) [1,1,1,1,1,1,0]) emp
def c7:ACode:=.seq s7p0<|.seq s7p1<|.seq s7p2<|.seq s7p3<|.seq s7p4<|.seq s7p5<|.seq s7p6 .ret
def c8:=(λe=>cV<|CoW [(2,1),(301,1),(302,1),(402,1)] f8 e) emp
def Zwi(e)(N):=cV<|CoX e [] [(302,1),(902,1),(1502,1),(2103,1),(2702,1)] f9 N
def c9L0b:=(λe=>cV<|CoU Zwi e [] 0) emp
def c9L0:=(λe a=>cV<|CoU Zwi e [a] 1) emp c9L0b
def c9L1b:=(λe a b=>cV<|CoU Zwi e [a,b] 2) emp c9L0b c9L0
def c9L1:=(λe a b c=>cV<|CoU Zwi e [a,b,c] 3) emp c9L0b c9L0 c9L1b
def c9L2b:=(λe a b c d=>cV<|CoU Zwi e [a,b,c,d] 4) emp c9L0b c9L0 c9L1b c9L1
def c9L2:=(λe a b c d g=>cV<|CoU Zwi e [a,b,c,d,g] 5) emp c9L0b c9L0 c9L1b c9L1 c9L2b
def c9L3b:=(λe a b c d g h=>cV<|CoU Zwi e [a,b,c,d,g,h] 6) emp c9L0b c9L0 c9L1b c9L1 c9L2b c9L2
def c9L3:=(λe a b c d g h i=>cV<|CoU Zwi e [a,b,c,d,g,h,i] 7) emp c9L0b c9L0 c9L1b c9L1 c9L2b c9L2 c9L3b
def c9L4b:=(λe a b c d g h i j=>cV<|CoU Zwi e [a,b,c,d,g,h,i,j] 8) emp c9L0b c9L0 c9L1b c9L1 c9L2b c9L2 c9L3b c9L3
def c9L4:=(λe a b c d g h i j k=>cV<|CoU Zwi e [a,b,c,d,g,h,i,j,k] 9) emp c9L0b c9L0 c9L1b c9L1 c9L2b c9L2 c9L3b c9L3 c9L4b
def c9:=(λe a b c d g h i j k l=>cV<|CoU Zwi e [a,b,c,d,g,h,i,j,k,l] 10) emp c9L0b c9L0 c9L1b c9L1 c9L2b c9L2 c9L3b c9L3 c9L4b c9L4
def X10(e)(N):=cV<|CoX e [] [(605,1),(1205,1),(1805,1),(2405,1),(3205,1)] f10 N
def c10L0b:=(λe=>cV<|CoU X10 e [] 0) emp
def c10L0:=(λe a=>cV<|CoU X10 e [a] 1) emp c10L0b
def c10L1b:=(λe a b=>cV<|CoU X10 e [a,b] 2) emp c10L0b c10L0
def c10L1:=(λe a b c=>cV<|CoU X10 e [a,b,c] 3) emp c10L0b c10L0 c10L1b
def c10L2b:=(λe a b c d=>cV<|CoU X10 e [a,b,c,d] 4) emp c10L0b c10L0 c10L1b c10L1
def c10L2:=(λe a b c d g=>cV<|CoU X10 e [a,b,c,d,g] 5) emp c10L0b c10L0 c10L1b c10L1 c10L2b
def c10L3b:=(λe a b c d g h=>cV<|CoU X10 e [a,b,c,d,g,h] 6) emp c10L0b c10L0 c10L1b c10L1 c10L2b c10L2
def c10L3:=(λe a b c d g h i=>cV<|CoU X10 e [a,b,c,d,g,h,i] 7) emp c10L0b c10L0 c10L1b c10L1 c10L2b c10L2 c10L3b
def c10L4b:=(λe a b c d g h i j=>cV<|CoU X10 e [a,b,c,d,g,h,i,j] 8) emp c10L0b c10L0 c10L1b c10L1 c10L2b c10L2 c10L3b c10L3
def c10L4:=(λe a b c d g h i j k=>cV<|CoU X10 e [a,b,c,d,g,h,i,j,k] 9) emp c10L0b c10L0 c10L1b c10L1 c10L2b c10L2 c10L3b c10L3 c10L4b
def c10:=(λe a b c d g h i j k l=>cV<|CoU X10 e [a,b,c,d,g,h,i,j,k,l] 10) emp c10L0b c10L0 c10L1b c10L1 c10L2b c10L2 c10L3b c10L3 c10L4b c10L4
def X11(e)(N):=cV<|CoX e [] [] f11 N
def c11L0b:=(λe=>cV<|CoU X11 e [] 0) emp
def c11L0:=(λe a=>cV<|CoU X11 e [a] 1) emp c11L0b
def c11L1b:=(λe a b=>cV<|CoU X11 e [a,b] 2) emp c11L0b c11L0
def c11L1:=(λe a b c=>cV<|CoU X11 e [a,b,c] 3) emp c11L0b c11L0 c11L1b
def c11L2b:=(λe a b c d=>cV<|CoU X11 e [a,b,c,d] 4) emp c11L0b c11L0 c11L1b c11L1
def c11L2:=(λe a b c d g=>cV<|CoU X11 e [a,b,c,d,g] 5) emp c11L0b c11L0 c11L1b c11L1 c11L2b
def c11L3b:=(λe a b c d g h=>cV<|CoU X11 e [a,b,c,d,g,h] 6) emp c11L0b c11L0 c11L1b c11L1 c11L2b c11L2
def c11L3:=(λe a b c d g h i=>cV<|CoU X11 e [a,b,c,d,g,h,i] 7) emp c11L0b c11L0 c11L1b c11L1 c11L2b c11L2 c11L3b
def c11L4b:=(λe a b c d g h i j=>cV<|CoU X11 e [a,b,c,d,g,h,i,j] 8) emp c11L0b c11L0 c11L1b c11L1 c11L2b c11L2 c11L3b c11L3
def c11L4:=(λe a b c d g h i j k=>cV<|CoU X11 e [a,b,c,d,g,h,i,j,k] 9) emp c11L0b c11L0 c11L1b c11L1 c11L2b c11L2 c11L3b c11L3 c11L4b
def c11:=(λe a b c d g h i j k l=>cV<|CoU X11 e [a,b,c,d,g,h,i,j,k,l] 10) emp c11L0b c11L0 c11L1b c11L1 c11L2b c11L2 c11L3b c11L3 c11L4b c11L4
def c12:=(λe=>cV<|CoW [] f12 e) emp
def X13(e)(N):=cV<|CoX e [] [] f13 N
def c13L0b:=(λe=>cV<|CoU X13 e [] 0) emp
def c13L0:=(λe a=>cV<|CoU X13 e [a] 1) emp c13L0b
def c13:=(λe a b=>cV<|CoU X13 e [a,b] 2) emp c13L0b c13L0
def X14(e)(N):=cV<|CoX e [] [] f14 N
def c14L0b:=(λe=>cV<|CoU X14 e [] 0) emp
def c14L0:=(λe a=>cV<|CoU X14 e [a] 1) emp c14L0b
def c14:=(λe a b=>cV<|CoU X14 e [a,b] 2) emp c14L0b c14L0
def X15(e)(N):=cV<|CoX e [] [(100,1),(402,1)] f15 N
def c15L0b:=(λe=>cV<|CoU X15 e [] 0) emp
def c15L0:=(λe a=>cV<|CoU X15 e [a] 1) emp c15L0b
def c15:=(λe a b=>cV<|CoU X15 e [a,b] 2) emp c15L0b c15L0
def X16(e)(N):=cV<|CoX e [] [(100,1)] f16 N
def c16L0b:=(λe=>cV<|CoU X16 e [] 0) emp
def c16L0:=(λe a=>cV<|CoU X16 e [a] 1) emp c16L0b
def c16:=(λe a b=>cV<|CoU X16 e [a,b] 2) emp c16L0b c16L0
def X27(e)(s0)(s1)(s2)(s3)(s4)(N):=cV<|CoX e [(95025,s0),(90673,s1),(91441,s2),(95537,s3),(78412,s4)] [(0,1),(101,1),(609,1)] f27 N
def c27L0b:=(λe s0 s1 s2 s3 s4=>cV<|coY (X27 e s0 s1 s2 s3 s4) [] 0) emp (B [115,49]) (B [98,49]) (B [101,49]) (B [117,49]) (B [50,76])
def c27L0:=(λe s0 s1 s2 s3 s4 a=>cV<|coY (X27 e s0 s1 s2 s3 s4) [a] 1) emp (B [115,49]) (B [98,49]) (B [101,49]) (B [117,49]) (B [50,76]) c27L0b
def c27:=(λe s0 s1 s2 s3 s4 a b=>cV<|coY (X27 e s0 s1 s2 s3 s4) [a,b] 2) emp (B [115,49]) (B [98,49]) (B [101,49]) (B [117,49]) (B [50,76]) c27L0b c27L0
def c28:=(λe=>cV<|CoW [(0,1)] f28 e) emp
def c29:=(λe=>cV<|CoW [] f29 e) emp
def X30(e)(N):=cV<|CoX e [] [(2105,1)] f30 N
def c30L0b:=(λe=>cV<|CoU X30 e [] 0) emp
def c30L0:=(λe a=>cV<|CoU X30 e [a] 1) emp c30L0b
def c30L1b:=(λe a b=>cV<|CoU X30 e [a,b] 2) emp c30L0b c30L0
def c30L1:=(λe a b c=>cV<|CoU X30 e [a,b,c] 3) emp c30L0b c30L0 c30L1b
def c30L2b:=(λe a b c d=>cV<|CoU X30 e [a,b,c,d] 4) emp c30L0b c30L0 c30L1b c30L1
def c30L2:=(λe a b c d g=>cV<|CoU X30 e [a,b,c,d,g] 5) emp c30L0b c30L0 c30L1b c30L1 c30L2b
def c30L3b:=(λe a b c d g h=>cV<|CoU X30 e [a,b,c,d,g,h] 6) emp c30L0b c30L0 c30L1b c30L1 c30L2b c30L2
def c30L3:=(λe a b c d g h i=>cV<|CoU X30 e [a,b,c,d,g,h,i] 7) emp c30L0b c30L0 c30L1b c30L1 c30L2b c30L2 c30L3b
def c30L4b:=(λe a b c d g h i j=>cV<|CoU X30 e [a,b,c,d,g,h,i,j] 8) emp c30L0b c30L0 c30L1b c30L1 c30L2b c30L2 c30L3b c30L3
def c30L4:=(λe a b c d g h i j k=>cV<|CoU X30 e [a,b,c,d,g,h,i,j,k] 9) emp c30L0b c30L0 c30L1b c30L1 c30L2b c30L2 c30L3b c30L3 c30L4b
def c30:=(λe a b c d g h i j k l=>cV<|CoU X30 e [a,b,c,d,g,h,i,j,k,l] 10) emp c30L0b c30L0 c30L1b c30L1 c30L2b c30L2 c30L3b c30L3 c30L4b c30L4
def X31(e)(N):=cV<|CoX e [] [] f31 N
def c31L0b:=(λe=>cV<|CoU X31 e [] 0) emp
def c31L0:=(λe a=>cV<|CoU X31 e [a] 1) emp c31L0b
def c31:=(λe a b=>cV<|CoU X31 e [a,b] 2) emp c31L0b c31L0
def c32:=(λe=>cV<|CoW [] f32 e) emp
def c33:=(λe=>cV<|CoW [(302,1)] f33 e) emp
def c34:=(λe=>cV<|CoW [(528,1)] f34 e) emp
def c35:=(λe=>cV<|CoW [(323,1)] f35 e) emp
def c36:=(λe=>cV<|CoW [] f36 e) emp
def c37:=(λe=>cV<|CoW [(618,1),(619,1)] f37 e) emp
def c38:=(λe=>cV<|CoW [(323,1)] f38 e) emp
def c39:=(λe=>cV<|CoW [(827,1)] f39 e) emp
def c40:=(λe=>cV<|CoW [(829,1)] f40 e) emp
def X41(e)(N):=cV<|CoX e [] [(1002,1)] f41 N
def c41L0b:=(λe=>cV<|CoU X41 e [] 0) emp
def c41L0:=(λe a=>cV<|CoU X41 e [a] 1) emp c41L0b
def c41:=(λe a b=>cV<|CoU X41 e [a,b] 2) emp c41L0b c41L0
def X42(e)(N):=cV<|CoX e [] [(100,1),(402,1),(1408,1),(1702,1),(1812,1),(2002,2),(2003,1)] f42 N
def c42L0b:=(λe=>cV<|CoU X42 e [] 0) emp
def c42L0:=(λe a=>cV<|CoU X42 e [a] 1) emp c42L0b
def c42L1b:=(λe a b=>cV<|CoU X42 e [a,b] 2) emp c42L0b c42L0
def c42L1:=(λe a b c=>cV<|CoU X42 e [a,b,c] 3) emp c42L0b c42L0 c42L1b
def c42:=(λe a b c d=>cV<|CoU X42 e [a,b,c,d] 4) emp c42L0b c42L0 c42L1b c42L1
def X43(e)(N):=cV<|CoX e [] [(300,1),(1110,1),(1508,1),(1921,1),(2308,1)] f43 N
def c43L0b:=(λe=>cV<|CoU X43 e [] 0) emp
def c43L0:=(λe a=>cV<|CoU X43 e [a] 1) emp c43L0b
def c43L1b:=(λe a b=>cV<|CoU X43 e [a,b] 2) emp c43L0b c43L0
def c43L1:=(λe a b c=>cV<|CoU X43 e [a,b,c] 3) emp c43L0b c43L0 c43L1b
def c43L2b:=(λe a b c d=>cV<|CoU X43 e [a,b,c,d] 4) emp c43L0b c43L0 c43L1b c43L1
def c43L2:=(λe a b c d g=>cV<|CoU X43 e [a,b,c,d,g] 5) emp c43L0b c43L0 c43L1b c43L1 c43L2b
def c43:=(λe a b c d g h=>cV<|CoU X43 e [a,b,c,d,g,h] 6) emp c43L0b c43L0 c43L1b c43L1 c43L2b c43L2
def X44(e)(N):=cV<|CoX e [] [(903,1),(1102,1)] f44 N
def c44L0b:=(λe=>cV<|CoU X44 e [] 0) emp
def c44L0:=(λe a=>cV<|CoU X44 e [a] 1) emp c44L0b
def c44:=(λe a b=>cV<|CoU X44 e [a,b] 2) emp c44L0b c44L0
def X45(e)(N):=cV<|CoX e [] [(105,1),(1402,1)] f45 N
def s45p0:=(λe=>cV<|Zr2 (CoU X45 e [] 0) [0]) emp
def s45p1:=(λe=>cV<|Zr2 (CoU X45 e [] 0) [1,0]) emp
def s45p2:=(λe=>cV<|Zr2 (CoU X45 e [] 0) [1,1,0]) emp
def s45p3:=(λe=>cV<|Zr2 (CoU X45 e [] 0) [1,1,1,0]) emp
def s45p4:=(λe=>cV<|Zr2 (CoU X45 e [] 0) [1,1,1,1,0]) emp
def s45p5:=(λe=>cV<|Zr2 (CoU X45 e [] 0) [1,1,1,1,1,0]) emp
def s45p6:=(λe=>cV<|Zr2 (CoU X45 e [] 0) [1,1,1,1,1,1,0]) emp
def s45p7:=(λe=>cV<|Zr2 (CoU X45 e [] 0) [1,1,1,1,1,1,1,0]) emp
def c45:ACode:=.seq s45p0<|.seq s45p1<|.seq s45p2<|.seq s45p3<|.seq s45p4<|.seq s45p5<|.seq s45p6<|.seq s45p7 .ret
def X46(e)(N):=cV<|CoX e [] [(819,1)] f46 N
def c46L0b:=(λe=>cV<|CoU X46 e [] 0) emp
def c46L0:=(λe a=>cV<|CoU X46 e [a] 1) emp c46L0b
def c46:=(λe a b=>cV<|CoU X46 e [a,b] 2) emp c46L0b c46L0
def c47:=(λe=>cV<|CoW [(119,1)] f47 e) emp
def c48:=(λe=>cV<|CoW [(317,1)] f48 e) emp
def X49(e)(N):=cV<|CoX e [] [(100,1),(402,1),(902,1),(1402,1),(1902,1),(2402,1)] f49 N
def c49L0b:=(λe=>cV<|CoU X49 e [] 0) emp
def c49L0:=(λe a=>cV<|CoU X49 e [a] 1) emp c49L0b
def c49L1b:=(λe a b=>cV<|CoU X49 e [a,b] 2) emp c49L0b c49L0
def c49L1:=(λe a b c=>cV<|CoU X49 e [a,b,c] 3) emp c49L0b c49L0 c49L1b
def c49L2b:=(λe a b c d=>cV<|CoU X49 e [a,b,c,d] 4) emp c49L0b c49L0 c49L1b c49L1
def c49L2:=(λe a b c d g=>cV<|CoU X49 e [a,b,c,d,g] 5) emp c49L0b c49L0 c49L1b c49L1 c49L2b
def c49L3b:=(λe a b c d g h=>cV<|CoU X49 e [a,b,c,d,g,h] 6) emp c49L0b c49L0 c49L1b c49L1 c49L2b c49L2
def c49L3:=(λe a b c d g h i=>cV<|CoU X49 e [a,b,c,d,g,h,i] 7) emp c49L0b c49L0 c49L1b c49L1 c49L2b c49L2 c49L3b
def c49L4b:=(λe a b c d g h i j=>cV<|CoU X49 e [a,b,c,d,g,h,i,j] 8) emp c49L0b c49L0 c49L1b c49L1 c49L2b c49L2 c49L3b c49L3
def c49L4:=(λe a b c d g h i j k=>cV<|CoU X49 e [a,b,c,d,g,h,i,j,k] 9) emp c49L0b c49L0 c49L1b c49L1 c49L2b c49L2 c49L3b c49L3 c49L4b
def c49:=(λe a b c d g h i j k l=>cV<|CoU X49 e [a,b,c,d,g,h,i,j,k,l] 10) emp c49L0b c49L0 c49L1b c49L1 c49L2b c49L2 c49L3b c49L3 c49L4b c49L4
def X50(e)(N):=cV<|CoX e [] [(402,1),(505,1)] f50 N
def c50L0b:=(λe=>cV<|CoU X50 e [] 0) emp
def c50L0:=(λe a=>cV<|CoU X50 e [a] 1) emp c50L0b
def c50:=(λe a b=>cV<|CoU X50 e [a,b] 2) emp c50L0b c50L0
def c51:=(λe=>cV<|CoW [] f51 e) emp
def c52:=(λe=>cV<|CoW [(2413,1)] f52 e) emp
def c53:=(λe=>cV<|CoW [(1,1),(100,3),(104,3),(108,3),(112,3),(116,3),(120,3),(124,3)] f53 e) emp
def XqB(f:Func):Code:=match f.body with |some c=>c |none=>.skip
def XqG:Code->List Nat->Code
 |c,[]=>c
 | .seq a b,i::r=>bif i==0 then XqG a r else XqG b r
 | .cond _ a b,i::r=>bif i==0 then XqG a r else XqG b r
 | .block _ a,_::r=>XqG a r
 |c,_=>c
def XqH:Code->List Nat->Code
 |_,[]=>.exit 9999
 | .seq a b,i::r=>bif i==0 then .seq (XqH a r) b else .seq a (XqH b r)
 | .cond c a b,i::r=>bif i==0 then .cond c (XqH a r) b else .cond c a (XqH b r)
 | .block k a,_::r=>.block k (XqH a r)
 |c,_=>c
def XqQ(v:ACode):ACode->ACode
 | .exit i=>bif i==9999 then v else .exit i
 | .seq a b=>.seq (XqQ v a) (XqQ v b)
 | .cond c a b=>.cond c (XqQ v a) (XqQ v b)
 | .block k a=>.block k (XqQ v a)
 | .keep l (.block k a)=>.keep (bif k==0 then [6] else l) (.block k (XqQ v a))
 | .keep l a=>.keep l (XqQ v a)
 |c=>c
def XqL(H:List (Nat×Nat))(e:ByteArray)(N:Nat->ACode)(x:List (Nat×Nat))(rt:Nat)(c:Code)(out:Nat):ACode×Nat×List ACode:=ZvL ⟨coT,e,[],H,N⟩ x rt 0 c out
def XqD1:Code:=cV<|XqH (XqB f54) [1,0,1,0,1,1,1,1,1,1,1,1]
def XqD2:Code:=cV<|XqG (XqB f54) [1,0,1,0,1,1,1,1,1,1,1,1]
def XqD3:Code:=cV<|XqH XqD2 [1,1,1,1,1,1]
def XqD4:Code:=cV<|XqG XqD2 [1,1,1,1,1,1]
def XqY3(e:ByteArray)(N:Nat->ACode):=cV<|XqL [(3805,2),(5214,1),(6302,1),(6503,1),(6703,1),(7903,1),(8102,1)] e N [(0,0)] 64 XqD4 0
def XqY2(e:ByteArray)(N:Nat->ACode):=cV<|XqL [(3805,2),(5214,1),(6302,1),(6503,1),(6703,1),(7903,1),(8102,1)] e N [(9999,1048611),(0,0)] 64 XqD3 0
def XqY1(e:ByteArray)(N:Nat->ACode):=cV<|XqL [(3805,2),(5214,1),(6302,1),(6503,1),(6703,1),(7903,1),(8102,1)] e N [(9999,1048611)] 64 XqD1 64
def X54(e)(N):=cV<|(XqY3 e N).2.2++[XqQ (XqQ (XqY3 e N).1 (XqY2 e N).1) (XqY1 e N).1]
def c54L0b:=(λe=>cV<|CoU X54 e [] 0) emp
def c54L0:=(λe a=>cV<|CoU X54 e [a] 1) emp c54L0b
def c54L1b:=(λe a b=>cV<|CoU X54 e [a,b] 2) emp c54L0b c54L0
def c54L1:=(λe a b c=>cV<|CoU X54 e [a,b,c] 3) emp c54L0b c54L0 c54L1b
def c54:=(λe a b c d=>cV<|CoU X54 e [a,b,c,d] 4) emp c54L0b c54L0 c54L1b c54L1
def X55(e)(N):=cV<|CoX e [] [(705,1),(805,1)] f55 N
def c55L0b:=(λe=>cV<|CoU X55 e [] 0) emp
def c55L0:=(λe a=>cV<|CoU X55 e [a] 1) emp c55L0b
def c55L1b:=(λe a b=>cV<|CoU X55 e [a,b] 2) emp c55L0b c55L0
def c55L1:=(λe a b c=>cV<|CoU X55 e [a,b,c] 3) emp c55L0b c55L0 c55L1b
def c55:=(λe a b c d=>cV<|CoU X55 e [a,b,c,d] 4) emp c55L0b c55L0 c55L1b c55L1
def c56:=(λe s0=>cV<|coY (CoX e [(376,s0)] [(104,2)] f56) [] 0) emp (B [120])
def c57:=(λe=>cV<|CoW [(0,1)] f57 e) emp
def X58(e)(N):=cV<|CoX e [] [(105,1)] f58 N
def c58L0b:=(λe=>cV<|CoU X58 e [] 0) emp
def c58L0:=(λe a=>cV<|CoU X58 e [a] 1) emp c58L0b
def s58p0:=(λe a b=>cV<|Zr2 (CoU X58 e [a,b] 2) [0]) emp c58L0b c58L0
def s58p1:=(λe a b=>cV<|Zr2 (CoU X58 e [a,b] 2) [1,0]) emp c58L0b c58L0
def s58p2:=(λe a b=>cV<|Zr2 (CoU X58 e [a,b] 2) [1,1,0]) emp c58L0b c58L0
def s58p3:=(λe a b=>cV<|Zr2 (CoU X58 e [a,b] 2) [1,1,1,0]) emp c58L0b c58L0
def s58p4:=(λe a b=>cV<|Zr2 (CoU X58 e [a,b] 2) [1,1,1,1,0]) emp c58L0b c58L0
def s58p5:=(λe a b=>cV<|Zr2 (CoU X58 e [a,b] 2) [1,1,1,1,1,0]) emp c58L0b c58L0
def s58p6:=(λe a b=>cV<|Zr2 (CoU X58 e [a,b] 2) [1,1,1,1,1,1,0]) emp c58L0b c58L0
def s58p7:=(λe a b=>cV<|Zr2 (CoU X58 e [a,b] 2) [1,1,1,1,1,1,1,0]) emp c58L0b c58L0
def s58p8:=(λe a b=>cV<|Zr2 (CoU X58 e [a,b] 2) [1,1,1,1,1,1,1,1,0]) emp c58L0b c58L0
def s58p9:=(λe a b=>cV<|Zr2 (CoU X58 e [a,b] 2) [1,1,1,1,1,1,1,1,1,0]) emp c58L0b c58L0
def s58p10:=(λe a b=>cV<|Zr2 (CoU X58 e [a,b] 2) [1,1,1,1,1,1,1,1,1,1,0]) emp c58L0b c58L0
def c58:ACode:=.seq s58p0<|.seq s58p1<|.seq s58p2<|.seq s58p3<|.seq s58p4<|.seq s58p5<|.seq s58p6<|.seq s58p7<|.seq s58p8<|.seq s58p9<|.seq s58p10 .ret
def c59:=(λe=>cV<|CoW [(100,2),(101,1),(301,1),(401,1)] f59 e) emp
def X60(e)(N):=cV<|CoX e [] [(702,1),(1502,1)] f60 N
def c60L0b:=(λe=>cV<|CoU X60 e [] 0) emp
def c60L0:=(λe a=>cV<|CoU X60 e [a] 1) emp c60L0b
def c60L1b:=(λe a b=>cV<|CoU X60 e [a,b] 2) emp c60L0b c60L0
def c60L1:=(λe a b c=>cV<|CoU X60 e [a,b,c] 3) emp c60L0b c60L0 c60L1b
def c60L2b:=(λe a b c d=>cV<|CoU X60 e [a,b,c,d] 4) emp c60L0b c60L0 c60L1b c60L1
def c60L2:=(λe a b c d g=>cV<|CoU X60 e [a,b,c,d,g] 5) emp c60L0b c60L0 c60L1b c60L1 c60L2b
def c60L3b:=(λe a b c d g h=>cV<|CoU X60 e [a,b,c,d,g,h] 6) emp c60L0b c60L0 c60L1b c60L1 c60L2b c60L2
def c60L3:=(λe a b c d g h i=>cV<|CoU X60 e [a,b,c,d,g,h,i] 7) emp c60L0b c60L0 c60L1b c60L1 c60L2b c60L2 c60L3b
def c60:=(λe a b c d g h i j=>cV<|CoU X60 e [a,b,c,d,g,h,i,j] 8) emp c60L0b c60L0 c60L1b c60L1 c60L2b c60L2 c60L3b c60L3
def X61(e)(N):=cV<|CoX e [] [(100,1)] f61 N
def c61L0b:=(λe=>cV<|CoU X61 e [] 0) emp
def c61L0:=(λe a=>cV<|CoU X61 e [a] 1) emp c61L0b
def c61L1b:=(λe a b=>cV<|CoU X61 e [a,b] 2) emp c61L0b c61L0
def c61L1:=(λe a b c=>cV<|CoU X61 e [a,b,c] 3) emp c61L0b c61L0 c61L1b
def c61L2b:=(λe a b c d=>cV<|CoU X61 e [a,b,c,d] 4) emp c61L0b c61L0 c61L1b c61L1
def c61L2:=(λe a b c d g=>cV<|CoU X61 e [a,b,c,d,g] 5) emp c61L0b c61L0 c61L1b c61L1 c61L2b
def c61L3b:=(λe a b c d g h=>cV<|CoU X61 e [a,b,c,d,g,h] 6) emp c61L0b c61L0 c61L1b c61L1 c61L2b c61L2
def c61L3:=(λe a b c d g h i=>cV<|CoU X61 e [a,b,c,d,g,h,i] 7) emp c61L0b c61L0 c61L1b c61L1 c61L2b c61L2 c61L3b
def c61L4b:=(λe a b c d g h i j=>cV<|CoU X61 e [a,b,c,d,g,h,i,j] 8) emp c61L0b c61L0 c61L1b c61L1 c61L2b c61L2 c61L3b c61L3
def c61L4:=(λe a b c d g h i j k=>cV<|CoU X61 e [a,b,c,d,g,h,i,j,k] 9) emp c61L0b c61L0 c61L1b c61L1 c61L2b c61L2 c61L3b c61L3 c61L4b
def c61L5b:=(λe a b c d g h i j k l=>cV<|CoU X61 e [a,b,c,d,g,h,i,j,k,l] 10) emp c61L0b c61L0 c61L1b c61L1 c61L2b c61L2 c61L3b c61L3 c61L4b c61L4
def c61L5:=(λe a b c d g h i j k l m=>cV<|CoU X61 e [a,b,c,d,g,h,i,j,k,l,m] 11) emp c61L0b c61L0 c61L1b c61L1 c61L2b c61L2 c61L3b c61L3 c61L4b c61L4 c61L5b
def c61L6b:=(λe a b c d g h i j k l m n=>cV<|CoU X61 e [a,b,c,d,g,h,i,j,k,l,m,n] 12) emp c61L0b c61L0 c61L1b c61L1 c61L2b c61L2 c61L3b c61L3 c61L4b c61L4 c61L5b c61L5
def c61L6:=(λe a b c d g h i j k l m n o=>cV<|CoU X61 e [a,b,c,d,g,h,i,j,k,l,m,n,o] 13) emp c61L0b c61L0 c61L1b c61L1 c61L2b c61L2 c61L3b c61L3 c61L4b c61L4 c61L5b c61L5 c61L6b
def c61:=(λe a b c d g h i j k l m n o p=>cV<|CoU X61 e [a,b,c,d,g,h,i,j,k,l,m,n,o,p] 14) emp c61L0b c61L0 c61L1b c61L1 c61L2b c61L2 c61L3b c61L3 c61L4b c61L4 c61L5b c61L5 c61L6b c61L6
def X62(e)(N):=cV<|CoX e [] [(405,1),(1005,1)] f62 N
def c62L0b:=(λe=>cV<|CoU X62 e [] 0) emp
def c62L0:=(λe a=>cV<|CoU X62 e [a] 1) emp c62L0b
def c62L1b:=(λe a b=>cV<|CoU X62 e [a,b] 2) emp c62L0b c62L0
def c62L1:=(λe a b c=>cV<|CoU X62 e [a,b,c] 3) emp c62L0b c62L0 c62L1b
def c62L2b:=(λe a b c d=>cV<|CoU X62 e [a,b,c,d] 4) emp c62L0b c62L0 c62L1b c62L1
def c62L2:=(λe a b c d g=>cV<|CoU X62 e [a,b,c,d,g] 5) emp c62L0b c62L0 c62L1b c62L1 c62L2b
def c62L3b:=(λe a b c d g h=>cV<|CoU X62 e [a,b,c,d,g,h] 6) emp c62L0b c62L0 c62L1b c62L1 c62L2b c62L2
def c62L3:=(λe a b c d g h i=>cV<|CoU X62 e [a,b,c,d,g,h,i] 7) emp c62L0b c62L0 c62L1b c62L1 c62L2b c62L2 c62L3b
def c62L4b:=(λe a b c d g h i j=>cV<|CoU X62 e [a,b,c,d,g,h,i,j] 8) emp c62L0b c62L0 c62L1b c62L1 c62L2b c62L2 c62L3b c62L3
def c62L4:=(λe a b c d g h i j k=>cV<|CoU X62 e [a,b,c,d,g,h,i,j,k] 9) emp c62L0b c62L0 c62L1b c62L1 c62L2b c62L2 c62L3b c62L3 c62L4b
def c62:=(λe a b c d g h i j k l=>cV<|CoU X62 e [a,b,c,d,g,h,i,j,k,l] 10) emp c62L0b c62L0 c62L1b c62L1 c62L2b c62L2 c62L3b c62L3 c62L4b c62L4
def c63:=(λe=>cV<|CoW [] f63 e) emp
def c64:=(λe s0=>cV<|coY (CoX e [(376,s0)] [(104,2)] f64) [] 0) emp (B [120])
def X65(e)(N):=cV<|CoX e [] [(105,1)] f65 N
def c65L0b:=(λe=>cV<|CoU X65 e [] 0) emp
def c65L0:=(λe a=>cV<|CoU X65 e [a] 1) emp c65L0b
def c65L1b:=(λe a b=>cV<|CoU X65 e [a,b] 2) emp c65L0b c65L0
def c65L1:=(λe a b c=>cV<|CoU X65 e [a,b,c] 3) emp c65L0b c65L0 c65L1b
def c65:=(λe a b c d=>cV<|CoU X65 e [a,b,c,d] 4) emp c65L0b c65L0 c65L1b c65L1
def c66:=(λe=>cV<|CoW [] f66 e) emp
def c67:=(λe=>cV<|CoW [] f67 e) emp
def c68:=(λe=>cV<|CoW [] f68 e) emp
def c69:=(λe=>cV<|CoW [] f69 e) emp
def c70:=(λe=>cV<|CoW [] f70 e) emp
def X71(e)(N):=cV<|CoX e [] [] f71 N
def c71L0b:=(λe=>cV<|CoU X71 e [] 0) emp
def c71L0:=(λe a=>cV<|CoU X71 e [a] 1) emp c71L0b
def c71:=(λe a b=>cV<|CoU X71 e [a,b] 2) emp c71L0b c71L0
def c72:=(λe=>cV<|CoW [(100,2)] f72 e) emp
def c73:=(λe=>cV<|CoW [] f73 e) emp
def X74(e)(N):=cV<|CoX e [] [] f74 N
def c74L0b:=(λe=>cV<|CoU X74 e [] 0) emp
def c74L0:=(λe a=>cV<|CoU X74 e [a] 1) emp c74L0b
def c74:=(λe a b=>cV<|CoU X74 e [a,b] 2) emp c74L0b c74L0
def X88(e)(N):=cV<|CoX e [] [] f88 N
def c88L0b:=(λe=>cV<|CoU X88 e [] 0) emp
def c88L0:=(λe a=>cV<|CoU X88 e [a] 1) emp c88L0b
def c88:=(λe a b=>cV<|CoU X88 e [a,b] 2) emp c88L0b c88L0
def X90(e)(N):=cV<|CoX e [] [] f90 N
def c90L0b:=(λe=>cV<|CoU X90 e [] 0) emp
def c90L0:=(λe a=>cV<|CoU X90 e [a] 1) emp c90L0b
def c90:=(λe a b=>cV<|CoU X90 e [a,b] 2) emp c90L0b c90L0
def X91(e)(N):=cV<|CoX e [] [] f91 N
def c91L0b:=(λe=>cV<|CoU X91 e [] 0) emp
def c91L0:=(λe a=>cV<|CoU X91 e [a] 1) emp c91L0b
def c91:=(λe a b=>cV<|CoU X91 e [a,b] 2) emp c91L0b c91L0
def X92(e)(N):=cV<|CoX e [] [] f92 N
def c92L0b:=(λe=>cV<|CoU X92 e [] 0) emp
def c92L0:=(λe a=>cV<|CoU X92 e [a] 1) emp c92L0b
def c92:=(λe a b=>cV<|CoU X92 e [a,b] 2) emp c92L0b c92L0
def X93(e)(N):=cV<|CoX e [] [] f93 N
def c93L0b:=(λe=>cV<|CoU X93 e [] 0) emp
def c93L0:=(λe a=>cV<|CoU X93 e [a] 1) emp c93L0b
def c93:=(λe a b=>cV<|CoU X93 e [a,b] 2) emp c93L0b c93L0
def c94:=(λe=>cV<|CoW [] f94 e) emp
def c95:=(λe=>cV<|CoW [] f95 e) emp
def c96:=(λe=>cV<|CoW [(0,1),(1,1),(102,1)] f96 e) emp
def c97:=(λe=>cV<|CoW [(0,1),(100,1)] f97 e) emp
def c98:=(λe=>cV<|CoW [] f98 e) emp
def c99:=(λe=>cV<|CoW [] f99 e) emp
def c100:=(λe=>cV<|CoW [] f100 e) emp
def c101:=(λe=>cV<|CoW [(100,2),(101,1),(204,1)] f101 e) emp
def c102:=(λe=>cV<|CoW [] f102 e) emp
def c103:=(λe=>cV<|CoW [] f103 e) emp
def c104:=(λe=>cV<|CoW [] f104 e) emp
def c105:=(λe=>cV<|CoW [] f105 e) emp
def c106:=(λe=>cV<|CoW [(100,2),(101,1),(204,1)] f106 e) emp
def c107:=(λe=>cV<|CoW [] f107 e) emp
def c108:=(λe=>cV<|CoW [] f108 e) emp
def c109:=(λe=>cV<|CoW [] f109 e) emp
def c110:=(λe=>cV<|CoW [] f110 e) emp
def c111:=(λe=>cV<|CoW [] f111 e) emp
def c112:=(λe=>cV<|CoW [(0,1),(209,1)] f112 e) emp
def c113:=(λe=>cV<|CoW [] f113 e) emp
def c114:=(λe=>cV<|CoW [] f114 e) emp
def c115:=(λe=>cV<|CoW [(100,2)] f115 e) emp
def c116:=(λe=>cV<|CoW [(114,1)] f116 e) emp
def c117:=(λe=>cV<|CoW [(100,2),(101,1),(204,1)] f117 e) emp
def c118:=(λe=>cV<|CoW [] f118 e) emp
def ZLD(e)(N):=cV<|CoX e [] [(503,1)] f119 N
def c119L0b:=(λe=>cV<|CoU ZLD e [] 0) emp
def c119L0:=(λe a=>cV<|CoU ZLD e [a] 1) emp c119L0b
def c119:=(λe a b=>cV<|CoU ZLD e [a,b] 2) emp c119L0b c119L0
def c120:=(λe=>cV<|CoW [(100,2)] f120 e) emp
def c121:=(λe=>cV<|CoW [(100,2),(101,1),(204,1)] f121 e) emp
def c122:=(λe=>cV<|CoW [] f122 e) emp
def c123:=(λe=>cV<|CoW [] f123 e) emp
def c124:=(λe=>cV<|CoW [(100,2)] f124 e) emp
def c125:=(λe=>cV<|CoW [] f125 e) emp
def c126:=(λe=>cV<|CoW [] f126 e) emp
def c127:=(λe=>cV<|CoW [] f127 e) emp
def c128:=(λe=>cV<|CoW [(100,2),(101,1),(204,1)] f128 e) emp
def c129:=(λe=>cV<|CoW [] f129 e) emp
def c130:=(λe=>cV<|CoW [] f130 e) emp
def c131:=(λe=>cV<|CoW [] f131 e) emp
def ZPr(e)(N):=cV<|CoX e [] [] f132 N
def c132L0b:=(λe=>cV<|CoU ZPr e [] 0) emp
def c132L0:=(λe a=>cV<|CoU ZPr e [a] 1) emp c132L0b
def c132L1b:=(λe a b=>cV<|CoU ZPr e [a,b] 2) emp c132L0b c132L0
def c132L1:=(λe a b c=>cV<|CoU ZPr e [a,b,c] 3) emp c132L0b c132L0 c132L1b
def c132:=(λe a b c d=>cV<|CoU ZPr e [a,b,c,d] 4) emp c132L0b c132L0 c132L1b c132L1
def c133:=(λe=>cV<|CoW [(1,1),(107,1)] f133 e) emp
def ZQw(e)(N):=cV<|CoX e [] [] f134 N
def c134L0b:=(λe=>cV<|CoU ZQw e [] 0) emp
def c134L0:=(λe a=>cV<|CoU ZQw e [a] 1) emp c134L0b
def c134:=(λe a b=>cV<|CoU ZQw e [a,b] 2) emp c134L0b c134L0
def ZLF(e)(N):=cV<|CoX e [] [] f135 N
def c135L0b:=(λe=>cV<|CoU ZLF e [] 0) emp
def c135L0:=(λe a=>cV<|CoU ZLF e [a] 1) emp c135L0b
def c135L1b:=(λe a b=>cV<|CoU ZLF e [a,b] 2) emp c135L0b c135L0
def c135L1:=(λe a b c=>cV<|CoU ZLF e [a,b,c] 3) emp c135L0b c135L0 c135L1b
def c135:=(λe a b c d=>cV<|CoU ZLF e [a,b,c,d] 4) emp c135L0b c135L0 c135L1b c135L1
def ZQx(e)(N):=cV<|CoX e [] [] f136 N
def c136L0b:=(λe=>cV<|CoU ZQx e [] 0) emp
def c136L0:=(λe a=>cV<|CoU ZQx e [a] 1) emp c136L0b
def c136:=(λe a b=>cV<|CoU ZQx e [a,b] 2) emp c136L0b c136L0
def ZLG(e)(N):=cV<|CoX e [] [] f137 N
def c137L0b:=(λe=>cV<|CoU ZLG e [] 0) emp
def c137L0:=(λe a=>cV<|CoU ZLG e [a] 1) emp c137L0b
def c137L1b:=(λe a b=>cV<|CoU ZLG e [a,b] 2) emp c137L0b c137L0
def c137L1:=(λe a b c=>cV<|CoU ZLG e [a,b,c] 3) emp c137L0b c137L0 c137L1b
def c137:=(λe a b c d=>cV<|CoU ZLG e [a,b,c,d] 4) emp c137L0b c137L0 c137L1b c137L1
def ZPs(e)(N):=cV<|CoX e [] [] f138 N
def c138L0b:=(λe=>cV<|CoU ZPs e [] 0) emp
def c138L0:=(λe a=>cV<|CoU ZPs e [a] 1) emp c138L0b
def c138L1b:=(λe a b=>cV<|CoU ZPs e [a,b] 2) emp c138L0b c138L0
def c138L1:=(λe a b c=>cV<|CoU ZPs e [a,b,c] 3) emp c138L0b c138L0 c138L1b
def c138:=(λe a b c d=>cV<|CoU ZPs e [a,b,c,d] 4) emp c138L0b c138L0 c138L1b c138L1
def c139:=(λe s0 s1=>cV<|coY (CoX e [(353,s0),(378,s1)] [] f139) [] 0) emp (B [97]) (B [122])
def c140:=(λe=>cV<|CoW [] f140 e) emp
def ZQy(e)(N):=cV<|CoX e [] [] f141 N
def c141L0b:=(λe=>cV<|CoU ZQy e [] 0) emp
def c141L0:=(λe a=>cV<|CoU ZQy e [a] 1) emp c141L0b
def c141:=(λe a b=>cV<|CoU ZQy e [a,b] 2) emp c141L0b c141L0
def ZPt(e)(N):=cV<|CoX e [] [(100,1),(1500,2)] f142 N
def c142L0b:=(λe=>cV<|CoU ZPt e [] 0) emp
def c142L0:=(λe a=>cV<|CoU ZPt e [a] 1) emp c142L0b
def c142L1b:=(λe a b=>cV<|CoU ZPt e [a,b] 2) emp c142L0b c142L0
def c142L1:=(λe a b c=>cV<|CoU ZPt e [a,b,c] 3) emp c142L0b c142L0 c142L1b
def c142:=(λe a b c d=>cV<|CoU ZPt e [a,b,c,d] 4) emp c142L0b c142L0 c142L1b c142L1
def c143:=(λe=>cV<|CoW [] f143 e) emp
def ZQz(e)(N):=cV<|CoX e [] [] f144 N
def c144L0b:=(λe=>cV<|CoU ZQz e [] 0) emp
def c144L0:=(λe a=>cV<|CoU ZQz e [a] 1) emp c144L0b
def c144:=(λe a b=>cV<|CoU ZQz e [a,b] 2) emp c144L0b c144L0
def ZQA(e)(N):=cV<|CoX e [] [] f145 N
def c145L0b:=(λe=>cV<|CoU ZQA e [] 0) emp
def c145L0:=(λe a=>cV<|CoU ZQA e [a] 1) emp c145L0b
def c145:=(λe a b=>cV<|CoU ZQA e [a,b] 2) emp c145L0b c145L0
def c146:=(λe=>cV<|CoW [] f146 e) emp
def ZLH(e)(N):=cV<|CoX e [] [] f147 N
def c147L0b:=(λe=>cV<|CoU ZLH e [] 0) emp
def c147L0:=(λe a=>cV<|CoU ZLH e [a] 1) emp c147L0b
def c147:=(λe a b=>cV<|CoU ZLH e [a,b] 2) emp c147L0b c147L0
def ZQB(e)(N):=cV<|CoX e [] [] f148 N
def c148L0b:=(λe=>cV<|CoU ZQB e [] 0) emp
def c148L0:=(λe a=>cV<|CoU ZQB e [a] 1) emp c148L0b
def c148:=(λe a b=>cV<|CoU ZQB e [a,b] 2) emp c148L0b c148L0
def c149:=(λe=>cV<|CoW [] f149 e) emp
def ZPu(e)(N):=cV<|CoX e [] [] f150 N
def c150L0b:=(λe=>cV<|CoU ZPu e [] 0) emp
def c150L0:=(λe a=>cV<|CoU ZPu e [a] 1) emp c150L0b
def c150L1b:=(λe a b=>cV<|CoU ZPu e [a,b] 2) emp c150L0b c150L0
def c150L1:=(λe a b c=>cV<|CoU ZPu e [a,b,c] 3) emp c150L0b c150L0 c150L1b
def c150:=(λe a b c d=>cV<|CoU ZPu e [a,b,c,d] 4) emp c150L0b c150L0 c150L1b c150L1
def ZPv(e)(N):=cV<|CoX e [] [(100,1),(1628,1),(1703,2),(1704,1)] f151 N
def c151L0b:=(λe=>cV<|CoU ZPv e [] 0) emp
def c151L0:=(λe a=>cV<|CoU ZPv e [a] 1) emp c151L0b
def c151L1b:=(λe a b=>cV<|CoU ZPv e [a,b] 2) emp c151L0b c151L0
def c151L1:=(λe a b c=>cV<|CoU ZPv e [a,b,c] 3) emp c151L0b c151L0 c151L1b
def c151:=(λe a b c d=>cV<|CoU ZPv e [a,b,c,d] 4) emp c151L0b c151L0 c151L1b c151L1
def ZP6(e)(N):=cV<|CoX e [] [(814,1),(1215,1),(1510,1),(1914,1)] f152 N
def c152L0b:=(λe=>cV<|CoU ZP6 e [] 0) emp
def c152L0:=(λe a=>cV<|CoU ZP6 e [a] 1) emp c152L0b
def c152L1b:=(λe a b=>cV<|CoU ZP6 e [a,b] 2) emp c152L0b c152L0
def c152L1:=(λe a b c=>cV<|CoU ZP6 e [a,b,c] 3) emp c152L0b c152L0 c152L1b
def c152L2b:=(λe a b c d=>cV<|CoU ZP6 e [a,b,c,d] 4) emp c152L0b c152L0 c152L1b c152L1
def c152L2:=(λe a b c d g=>cV<|CoU ZP6 e [a,b,c,d,g] 5) emp c152L0b c152L0 c152L1b c152L1 c152L2b
def c152:=(λe a b c d g h=>cV<|CoU ZP6 e [a,b,c,d,g,h] 6) emp c152L0b c152L0 c152L1b c152L1 c152L2b c152L2
def ZQC(e)(N):=cV<|CoX e [] [] f153 N
def c153L0b:=(λe=>cV<|CoU ZQC e [] 0) emp
def c153L0:=(λe a=>cV<|CoU ZQC e [a] 1) emp c153L0b
def c153:=(λe a b=>cV<|CoU ZQC e [a,b] 2) emp c153L0b c153L0
def ZQD(e)(N):=cV<|CoX e [] [(2203,1)] f154 N
def c154L0b:=(λe=>cV<|CoU ZQD e [] 0) emp
def c154L0:=(λe a=>cV<|CoU ZQD e [a] 1) emp c154L0b
def c154:=(λe a b=>cV<|CoU ZQD e [a,b] 2) emp c154L0b c154L0
def ZFn(e)(N):=cV<|CoX e [] [] f155 N
def c155L0b:=(λe=>cV<|CoU ZFn e [] 0) emp
def c155L0:=(λe a=>cV<|CoU ZFn e [a] 1) emp c155L0b
def c155:=(λe a b=>cV<|CoU ZFn e [a,b] 2) emp c155L0b c155L0
def ZFo(e)(N):=cV<|CoX e [] [] f159 N
def c159L0b:=(λe=>cV<|CoU ZFo e [] 0) emp
def c159L0:=(λe a=>cV<|CoU ZFo e [a] 1) emp c159L0b
def c159:=(λe a b=>cV<|CoU ZFo e [a,b] 2) emp c159L0b c159L0
def Zxn(e)(N):=cV<|CoX e [] [] f160 N
def c160L0b:=(λe=>cV<|CoU Zxn e [] 0) emp
def c160L0:=(λe a=>cV<|CoU Zxn e [a] 1) emp c160L0b
def c160:=(λe a b=>cV<|CoU Zxn e [a,b] 2) emp c160L0b c160L0
def c168:=(λe=>cV<|CoW [(100,2)] f168 e) emp
def c169:=(λe=>cV<|CoW [] f169 e) emp
def c170:=(λe=>cV<|CoW [] f170 e) emp
def c171:=(λe=>cV<|CoW [] f171 e) emp
def c172:=(λe=>cV<|CoW [] f172 e) emp
def c173:=(λe=>cV<|CoW [] f173 e) emp
def c174:=(λe=>cV<|CoW [(219,2)] f174 e) emp
def c175:=(λe=>cV<|CoW [] f175 e) emp
def ZQE(e)(N):=cV<|CoX e [] [(303,1)] f176 N
def c176L0b:=(λe=>cV<|CoU ZQE e [] 0) emp
def c176L0:=(λe a=>cV<|CoU ZQE e [a] 1) emp c176L0b
def c176:=(λe a b=>cV<|CoU ZQE e [a,b] 2) emp c176L0b c176L0
def c177:=(λe=>cV<|CoW [] f177 e) emp
def ZQF(e)(N):=cV<|CoX e [] [(100,1),(402,1),(1004,2)] f178 N
def c178L0b:=(λe=>cV<|CoU ZQF e [] 0) emp
def c178L0:=(λe a=>cV<|CoU ZQF e [a] 1) emp c178L0b
def c178:=(λe a b=>cV<|CoU ZQF e [a,b] 2) emp c178L0b c178L0
def c179:=(λe=>cV<|CoW [] f179 e) emp
def c180:=(λe=>cV<|CoW [(103,2)] f180 e) emp
def c181:=(λe=>cV<|CoW [] f181 e) emp
def c182:=(λe=>cV<|CoW [] f182 e) emp
def c183:=(λe=>cV<|CoW [] f183 e) emp
def c184:=(λe=>cV<|CoW [] f184 e) emp
def c185:=(λe=>cV<|CoW [] f185 e) emp
def c186:=(λe=>cV<|CoW [] f186 e) emp
def c187:=(λe=>cV<|CoW [(112,2)] f187 e) emp
def ZQG(e)(N):=cV<|CoX e [] [(100,1),(402,1),(900,2),(903,2)] f188 N
def c188L0b:=(λe=>cV<|CoU ZQG e [] 0) emp
def c188L0:=(λe a=>cV<|CoU ZQG e [a] 1) emp c188L0b
def c188:=(λe a b=>cV<|CoU ZQG e [a,b] 2) emp c188L0b c188L0
def c189:=(λe=>cV<|CoW [(100,2)] f189 e) emp
def c190:=(λe=>cV<|CoW [(109,1)] f190 e) emp
def c191:=(λe=>cV<|CoW [(107,1)] f191 e) emp
def c192:=(λe=>cV<|CoW [] f192 e) emp
def c193:=(λe=>cV<|CoW [] f193 e) emp
def c194:=(λe=>cV<|CoW [(100,2)] f194 e) emp
def c195:=(λe=>cV<|CoW [] f195 e) emp
def c196:=(λe=>cV<|CoW [(100,2)] f196 e) emp
def c198:=(λe=>cV<|CoW [(100,2)] f198 e) emp
def c199:=(λe=>cV<|CoW [] f199 e) emp
def c201:=(λe=>cV<|CoW [(100,2)] f201 e) emp
def c202:=(λe=>cV<|CoW [] f202 e) emp
def c203:=(λe=>cV<|CoW [] f203 e) emp
def ZLO(e)(N):=cV<|CoX e [] [] f204 N
def c204L0b:=(λe=>cV<|CoU ZLO e [] 0) emp
def c204L0:=(λe a=>cV<|CoU ZLO e [a] 1) emp c204L0b
def c204:=(λe a b=>cV<|CoU ZLO e [a,b] 2) emp c204L0b c204L0
def c206:=(λe=>cV<|CoW [] f206 e) emp
def c207:=(λe=>cV<|CoW [] f207 e) emp
def ZFw(e)(N):=cV<|CoX e [] [] f208 N
def c208L0b:=(λe=>cV<|CoU ZFw e [] 0) emp
def c208L0:=(λe a=>cV<|CoU ZFw e [a] 1) emp c208L0b
def c208:=(λe a b=>cV<|CoU ZFw e [a,b] 2) emp c208L0b c208L0
def c210:=(λe=>cV<|CoW [(100,2)] f210 e) emp
def c211:=(λe=>cV<|CoW [] f211 e) emp
def c213:=(λe=>cV<|CoW [(100,2)] f213 e) emp
def c214:=(λe=>cV<|CoW [] f214 e) emp
def Zxx(e)(N):=cV<|CoX e [] [] f215 N
def c215L0b:=(λe=>cV<|CoU Zxx e [] 0) emp
def c215L0:=(λe a=>cV<|CoU Zxx e [a] 1) emp c215L0b
def c215:=(λe a b=>cV<|CoU Zxx e [a,b] 2) emp c215L0b c215L0
def ZQH(e)(N):=cV<|CoX e [] [] f216 N
def c216L0b:=(λe=>cV<|CoU ZQH e [] 0) emp
def c216L0:=(λe a=>cV<|CoU ZQH e [a] 1) emp c216L0b
def c216:=(λe a b=>cV<|CoU ZQH e [a,b] 2) emp c216L0b c216L0
def c217:=(λe=>cV<|CoW [] f217 e) emp
def c218:=(λe=>cV<|CoW [] f218 e) emp
def Zwj(e)(N):=cV<|CoX e [] [] f219 N
def c219L0b:=(λe=>cV<|CoU Zwj e [] 0) emp
def c219L0:=(λe a=>cV<|CoU Zwj e [a] 1) emp c219L0b
def c219:=(λe a b=>cV<|CoU Zwj e [a,b] 2) emp c219L0b c219L0
def ZQI(e)(N):=cV<|CoX e [] [(504,1),(603,1)] f220 N
def c220L0b:=(λe=>cV<|CoU ZQI e [] 0) emp
def c220L0:=(λe a=>cV<|CoU ZQI e [a] 1) emp c220L0b
def c220:=(λe a b=>cV<|CoU ZQI e [a,b] 2) emp c220L0b c220L0
def c221:=(λe=>cV<|CoW [] f221 e) emp
def c222:=(λe=>cV<|CoW [] f222 e) emp
def c223:=(λe=>cV<|CoW [(0,1)] f223 e) emp
def c224:=(λe=>cV<|CoW [] f224 e) emp
def ZFz(e)(N):=cV<|CoX e [] [] f225 N
def c225L0b:=(λe=>cV<|CoU ZFz e [] 0) emp
def c225L0:=(λe a=>cV<|CoU ZFz e [a] 1) emp c225L0b
def c225:=(λe a b=>cV<|CoU ZFz e [a,b] 2) emp c225L0b c225L0
def ZQJ(e)(N):=cV<|CoX e [] [(303,1),(400,1),(806,1)] f231 N
def c231L0b:=(λe=>cV<|CoU ZQJ e [] 0) emp
def c231L0:=(λe a=>cV<|CoU ZQJ e [a] 1) emp c231L0b
def c231:=(λe a b=>cV<|CoU ZQJ e [a,b] 2) emp c231L0b c231L0
def c232:=(λe=>cV<|CoW [(100,2)] f232 e) emp
def c233:=(λe=>cV<|CoW [] f233 e) emp
def ZQK(e)(N):=cV<|CoX e [] [(100,1),(200,2),(201,1),(300,1),(400,1)] f234 N
def c234R0a:=(λe=>cV<|CoU ZQK e [] 0) emp
def c234R0b:=(λe a=>cV<|CoU ZQK e [a] 1) emp c234R0a
def c234:=(λe a b=>cV<|CoU ZQK e [a,b] 2) emp c234R0a c234R0b
def ZPw(e)(N):=cV<|CoX e [] [(511,1),(512,1)] f235 N
def c235L0b:=(λe=>cV<|CoU ZPw e [] 0) emp
def c235L0:=(λe a=>cV<|CoU ZPw e [a] 1) emp c235L0b
def c235L1b:=(λe a b=>cV<|CoU ZPw e [a,b] 2) emp c235L0b c235L0
def c235L1:=(λe a b c=>cV<|CoU ZPw e [a,b,c] 3) emp c235L0b c235L0 c235L1b
def c235:=(λe a b c d=>cV<|CoU ZPw e [a,b,c,d] 4) emp c235L0b c235L0 c235L1b c235L1
def c236:=(λe s0=>cV<|coY (CoX e [(288,s0)] [] f236) [] 0) emp (B [32])
def ZQL(e)(N):=cV<|CoX e [] [(402,1)] f237 N
def c237L0b:=(λe=>cV<|CoU ZQL e [] 0) emp
def c237L0:=(λe a=>cV<|CoU ZQL e [a] 1) emp c237L0b
def c237:=(λe a b=>cV<|CoU ZQL e [a,b] 2) emp c237L0b c237L0
def ZxE(e)(N):=cV<|CoX e [] [] f238 N
def c238L0b:=(λe=>cV<|CoU ZxE e [] 0) emp
def c238L0:=(λe a=>cV<|CoU ZxE e [a] 1) emp c238L0b
def c238:=(λe a b=>cV<|CoU ZxE e [a,b] 2) emp c238L0b c238L0
def c239:=(λe=>cV<|CoW [(100,2)] f239 e) emp
def c240:=(λe=>cV<|CoW [] f240 e) emp
def c241:=(λe=>cV<|CoW [] f241 e) emp
def ZQM(e)(N):=cV<|CoX e [] [(302,1)] f242 N
def c242L0b:=(λe=>cV<|CoU ZQM e [] 0) emp
def c242L0:=(λe a=>cV<|CoU ZQM e [a] 1) emp c242L0b
def c242:=(λe a b=>cV<|CoU ZQM e [a,b] 2) emp c242L0b c242L0
def c243:=(λe=>cV<|CoW [] f243 e) emp
def c244:=(λe=>cV<|CoW [] f244 e) emp
def ZxG(e)(N):=cV<|CoX e [] [(402,1)] f245 N
def c245L0b:=(λe=>cV<|CoU ZxG e [] 0) emp
def c245L0:=(λe a=>cV<|CoU ZxG e [a] 1) emp c245L0b
def c245:=(λe a b=>cV<|CoU ZxG e [a,b] 2) emp c245L0b c245L0
def c246:=(λe=>cV<|CoW [] f246 e) emp
def c247:=(λe=>cV<|CoW [] f247 e) emp
def ZQN(e)(N):=cV<|CoX e [] [] f248 N
def c248L0b:=(λe=>cV<|CoU ZQN e [] 0) emp
def c248L0:=(λe a=>cV<|CoU ZQN e [a] 1) emp c248L0b
def c248:=(λe a b=>cV<|CoU ZQN e [a,b] 2) emp c248L0b c248L0
def ZQO(e)(N):=cV<|CoX e [] [] f249 N
def c249L0b:=(λe=>cV<|CoU ZQO e [] 0) emp
def c249L0:=(λe a=>cV<|CoU ZQO e [a] 1) emp c249L0b
def c249:=(λe a b=>cV<|CoU ZQO e [a,b] 2) emp c249L0b c249L0
def ZLR(e)(N):=cV<|CoX e [] [] f250 N
def c250L0b:=(λe=>cV<|CoU ZLR e [] 0) emp
def c250L0:=(λe a=>cV<|CoU ZLR e [a] 1) emp c250L0b
def c250:=(λe a b=>cV<|CoU ZLR e [a,b] 2) emp c250L0b c250L0
def ZQP(e)(N):=cV<|CoX e [] [] f251 N
def c251L0b:=(λe=>cV<|CoU ZQP e [] 0) emp
def c251L0:=(λe a=>cV<|CoU ZQP e [a] 1) emp c251L0b
def c251:=(λe a b=>cV<|CoU ZQP e [a,b] 2) emp c251L0b c251L0
def ZQQ(e)(N):=cV<|CoX e [] [] f252 N
def c252L0b:=(λe=>cV<|CoU ZQQ e [] 0) emp
def c252L0:=(λe a=>cV<|CoU ZQQ e [a] 1) emp c252L0b
def c252:=(λe a b=>cV<|CoU ZQQ e [a,b] 2) emp c252L0b c252L0
def c253:=(λe=>cV<|CoW [] f253 e) emp
def c254:=(λe=>cV<|CoW [] f254 e) emp
def c255:=(λe=>cV<|CoW [] f255 e) emp
def c256:=(λe=>cV<|CoW [] f256 e) emp
def c284:=(λe s0 s1 s2 s3 s4 s5 s6 s7 s8=>cV<|coY (CoX e [(233606820031262824291793228925311306333649869794303002079163341563213949795593257878683467579756910891606622701420032317479258,s0),(1436506918544312769132601,s1),(351,s2),(18876682,s3),(291,s4),(290,s5),(289,s6),(80958,s7),(24970544417651213645683474901805,s8)] [(0,1),(100,1),(301,1),(401,1),(501,1),(601,1),(701,1),(801,1),(901,1),(1001,1),(1101,1)] f284) [] 0) emp (B [97,98,99,100,101,102,103,104,105,106,107,108,109,110,111,112,113,114,115,116,117,118,119,120,121,122,65,66,67,68,69,70,71,72,73,74,75,76,77,78,79,80,81,82,83,84,85,86,87,88,89,90]) (B [48,49,50,51,52,53,54,55,56,57]) (B [95]) (B [32,9,10]) (B [35]) (B [34]) (B [33]) (B [60,62]) (B [59,44,46,58,40,41,91,93,123,125,61,43,45])
def ZQR(e)(N):=cV<|CoX e [] [] f285 N
def c285L0b:=(λe=>cV<|CoU ZQR e [] 0) emp
def c285L0:=(λe a=>cV<|CoU ZQR e [a] 1) emp c285L0b
def c285:=(λe a b=>cV<|CoU ZQR e [a,b] 2) emp c285L0b c285L0
def c286:=(λe s0 s1=>cV<|coY (CoX e [(74250,s0),(317,s1)] [(0,1)] f286) [] 0) emp (B [34,10]) (B [61])
def ZQS(e)(N):=cV<|CoX e [] [] f287 N
def c287L0b:=(λe=>cV<|CoU ZQS e [] 0) emp
def c287L0:=(λe a=>cV<|CoU ZQS e [a] 1) emp c287L0b
def c287:=(λe a b=>cV<|CoU ZQS e [a,b] 2) emp c287L0b c287L0
def c288:=(λe=>cV<|CoW [] f288 e) emp
def c289:=(λe=>cV<|CoW [] f289 e) emp
def c290:=(λe=>cV<|CoW [(106,1),(107,1)] f290 e) emp
def c292:=(λe=>cV<|CoW [] f292 e) emp
def ZQT(e)(N):=cV<|CoX e [] [] f293 N
def c293L0b:=(λe=>cV<|CoU ZQT e [] 0) emp
def c293L0:=(λe a=>cV<|CoU ZQT e [a] 1) emp c293L0b
def c293:=(λe a b=>cV<|CoU ZQT e [a,b] 2) emp c293L0b c293L0
def c294:=(λe=>cV<|CoW [(0,1)] f294 e) emp
def c295:=(λe=>cV<|CoW [] f295 e) emp
def ZQU(e)(N):=cV<|CoX e [] [] f307 N
def c307L0b:=(λe=>cV<|CoU ZQU e [] 0) emp
def c307L0:=(λe a=>cV<|CoU ZQU e [a] 1) emp c307L0b
def c307:=(λe a b=>cV<|CoU ZQU e [a,b] 2) emp c307L0b c307L0
def ZQV(e)(N):=cV<|CoX e [] [] f308 N
def c308L0b:=(λe=>cV<|CoU ZQV e [] 0) emp
def c308L0:=(λe a=>cV<|CoU ZQV e [a] 1) emp c308L0b
def c308:=(λe a b=>cV<|CoU ZQV e [a,b] 2) emp c308L0b c308L0
def c309:=(λe=>cV<|CoW [] f309 e) emp
def c313:=(λe=>cV<|CoW [] f313 e) emp
def ZQW(e)(N):=cV<|CoX e [] [(203,1),(310,1)] f314 N
def c314L0b:=(λe=>cV<|CoU ZQW e [] 0) emp
def c314L0:=(λe a=>cV<|CoU ZQW e [a] 1) emp c314L0b
def c314:=(λe a b=>cV<|CoU ZQW e [a,b] 2) emp c314L0b c314L0
def ZQX(e)(N):=cV<|CoX e [] [(302,1)] f315 N
def c315L0b:=(λe=>cV<|CoU ZQX e [] 0) emp
def c315L0:=(λe a=>cV<|CoU ZQX e [a] 1) emp c315L0b
def c315:=(λe a b=>cV<|CoU ZQX e [a,b] 2) emp c315L0b c315L0
def c316:=(λe=>cV<|CoW [(2,1)] f316 e) emp
def c317:=(λe=>cV<|CoW [] f317 e) emp
def c318:=(λe=>cV<|CoW [(503,1)] f318 e) emp
def c319:=(λe=>cV<|CoW [] f319 e) emp
def ZQY(e)(N):=cV<|CoX e [] [] f321 N
def c321L0b:=(λe=>cV<|CoU ZQY e [] 0) emp
def c321L0:=(λe a=>cV<|CoU ZQY e [a] 1) emp c321L0b
def c321:=(λe a b=>cV<|CoU ZQY e [a,b] 2) emp c321L0b c321L0
def c332:=(λe=>cV<|CoW [] f332 e) emp
def c333:=(λe=>cV<|CoW [(2,1)] f333 e) emp
def c334:=(λe=>cV<|CoW [] f334 e) emp
def c335:=(λe=>cV<|CoW [] f335 e) emp
def FN0:List (Nat×AFun):=[(3,⟨[.tmp 8],c3⟩),(5,⟨[.tmp 0],c5⟩),(6,⟨[.tmp 4],c6⟩),(7,⟨[.cell 6<|some 7,.tmp 7],c7⟩),(8,⟨[.cell 6<|some 7,.tmp 7],c8⟩),(9,⟨[.tmp 2],c9⟩),(10,⟨[.tmp 2],c10⟩),(11,⟨[.tmp 4],c11⟩),(12,⟨[.tmp 4],c12⟩),(13,⟨[.tmp 4],c13⟩),(14,⟨[.tmp 4],c14⟩),(15,⟨[.tmp 2],c15⟩),(16,⟨[.tmp 2],c16⟩),(27,⟨[.cell 0<|some 7,.tmp 1],c27⟩)]
def FN1:List (Nat×AFun):=[(28,⟨[.cell 2<|some 4],c28⟩),(29,⟨[.tmp 4],c29⟩),(30,⟨[.tmp 2],c30⟩),(31,⟨[.tmp 2],c31⟩),(32,⟨[.tmp 6],c32⟩),(33,⟨[.tmp 2],c33⟩),(34,⟨[.tmp 2],c34⟩),(35,⟨[.tmp 2],c35⟩),(36,⟨[.tmp 2],c36⟩),(37,⟨[.tmp 2],c37⟩),(38,⟨[.tmp 2],c38⟩),(39,⟨[.tmp 2],c39⟩),(40,⟨[.tmp 2],c40⟩),(41,⟨[.tmp 2],c41⟩)]
def FN2:List (Nat×AFun):=[(42,⟨[.tmp 2],c42⟩),(43,⟨[.tmp 2],c43⟩),(44,⟨[.tmp 2],c44⟩),(45,⟨[.tmp 2],c45⟩),(46,⟨[.tmp 2],c46⟩),(47,⟨[.tmp 2],c47⟩),(48,⟨[.tmp 2],c48⟩),(49,⟨[.tmp 2],c49⟩),(50,⟨[.tmp 2],c50⟩),(51,⟨[.tmp 2],c51⟩),(52,⟨[.tmp 2],c52⟩),(53,⟨[.cell 2<|some 7],c53⟩),(54,⟨[.tmp 6],c54⟩),(55,⟨[.tmp 2],c55⟩)]
def FN3:List (Nat×AFun):=[(56,⟨[.tmp 2],c56⟩),(57,⟨[.tmp 4],c57⟩),(58,⟨[.tmp 4],c58⟩),(59,⟨[.tmp 2],c59⟩),(60,⟨[.tmp 2],c60⟩),(61,⟨[.tmp 2],c61⟩),(62,⟨[.tmp 2],c62⟩),(63,⟨[.tmp 4],c63⟩),(64,⟨[.tmp 2],c64⟩),(65,⟨[.tmp 4],c65⟩),(66,⟨[.tmp 4],c66⟩),(67,⟨[.tmp 2],c67⟩),(68,⟨[.tmp 4],c68⟩),(69,⟨[.tmp 4],c69⟩)]
def FN4:List (Nat×AFun):=[(70,⟨[.tmp 4],c70⟩),(71,⟨[.tmp 4],c71⟩),(72,⟨[.tmp 4],c72⟩),(73,⟨[.tmp 3],c73⟩),(74,⟨[.tmp 4],c74⟩),(88,⟨[.tmp 4],c88⟩),(90,⟨[.tmp 4],c90⟩),(91,⟨[.tmp 4],c91⟩),(92,⟨[.tmp 2],c92⟩),(93,⟨[.tmp 2],c93⟩),(94,⟨[.tmp 6],c94⟩),(95,⟨[.tmp 6],c95⟩),(96,⟨[.cell 2<|some 18],c96⟩),(97,⟨[.cell 0<|some 16],c97⟩)]
def FN5:List (Nat×AFun):=[(98,⟨[.tmp 4],c98⟩),(99,⟨[.tmp 4],c99⟩),(100,⟨[.tmp 2],c100⟩),(101,⟨[.tmp 6],c101⟩),(102,⟨[],c102⟩),(103,⟨[.tmp 2],c103⟩),(104,⟨[.tmp 4],c104⟩),(105,⟨[],c105⟩),(106,⟨[.tmp 6],c106⟩),(107,⟨[],c107⟩),(108,⟨[],c108⟩),(109,⟨[],c109⟩),(110,⟨[.tmp 2],c110⟩),(111,⟨[.tmp 4],c111⟩)]
def FN6:List (Nat×AFun):=[(112,⟨[],c112⟩),(113,⟨[.tmp 2],c113⟩),(114,⟨[.tmp 3],c114⟩),(115,⟨[.tmp 4],c115⟩),(116,⟨[.tmp 3],c116⟩),(117,⟨[.tmp 6],c117⟩),(118,⟨[],c118⟩),(119,⟨[],c119⟩),(120,⟨[.tmp 4],c120⟩),(121,⟨[.tmp 6],c121⟩),(122,⟨[],c122⟩),(123,⟨[],c123⟩),(124,⟨[.tmp 4],c124⟩),(125,⟨[.tmp 3],c125⟩)]
def FN7:List (Nat×AFun):=[(126,⟨[],c126⟩),(127,⟨[.tmp 4],c127⟩),(128,⟨[.tmp 6],c128⟩),(129,⟨[],c129⟩),(130,⟨[.tmp 4],c130⟩),(131,⟨[.tmp 2],c131⟩),(132,⟨[.tmp 4],c132⟩),(133,⟨[.cell 2<|some 18],c133⟩),(134,⟨[.tmp 2],c134⟩),(135,⟨[.tmp 2],c135⟩),(136,⟨[.tmp 2],c136⟩),(137,⟨[.tmp 2],c137⟩),(138,⟨[.tmp 2],c138⟩),(139,⟨[.tmp 2],c139⟩)]
def FN8:List (Nat×AFun):=[(140,⟨[.tmp 2],c140⟩),(141,⟨[.tmp 8],c141⟩),(142,⟨[.tmp 6],c142⟩),(143,⟨[.tmp 2],c143⟩),(144,⟨[.tmp 2],c144⟩),(145,⟨[.tmp 4],c145⟩),(146,⟨[.tmp 4],c146⟩),(147,⟨[.tmp 4],c147⟩),(148,⟨[.tmp 4],c148⟩),(149,⟨[],c149⟩),(150,⟨[.tmp 4],c150⟩),(151,⟨[.tmp 6],c151⟩),(152,⟨[.tmp 6],c152⟩),(153,⟨[],c153⟩)]
def FN9:List (Nat×AFun):=[(154,⟨[.tmp 4],c154⟩),(155,⟨[.tmp 4],c155⟩),(159,⟨[.tmp 4],c159⟩),(160,⟨[.tmp 4],c160⟩),(168,⟨[.tmp 3],c168⟩),(169,⟨[.tmp 2],c169⟩),(170,⟨[.tmp 2],c170⟩),(171,⟨[.tmp 2],c171⟩),(172,⟨[.tmp 4],c172⟩),(173,⟨[.tmp 3],c173⟩),(174,⟨[.tmp 2],c174⟩),(175,⟨[.tmp 3],c175⟩),(176,⟨[.tmp 2],c176⟩),(177,⟨[.tmp 3],c177⟩)]
def ZjY:List (Nat×AFun):=[(178,⟨[.tmp 2],c178⟩),(179,⟨[.tmp 2],c179⟩),(180,⟨[.tmp 2],c180⟩),(181,⟨[.tmp 3],c181⟩),(182,⟨[.tmp 2],c182⟩),(183,⟨[.tmp 2],c183⟩),(184,⟨[.tmp 2],c184⟩),(185,⟨[.tmp 2],c185⟩),(186,⟨[.tmp 4],c186⟩),(187,⟨[.tmp 3],c187⟩),(188,⟨[.tmp 4],c188⟩),(189,⟨[.tmp 4],c189⟩),(190,⟨[.tmp 2],c190⟩),(191,⟨[.tmp 2],c191⟩)]
def ZjZ:List (Nat×AFun):=[(192,⟨[.tmp 3],c192⟩),(193,⟨[.tmp 2],c193⟩),(194,⟨[.tmp 4],c194⟩),(195,⟨[.tmp 3],c195⟩),(196,⟨[.tmp 4],c196⟩),(198,⟨[.tmp 4],c198⟩),(199,⟨[.tmp 3],c199⟩),(201,⟨[.tmp 4],c201⟩),(202,⟨[.tmp 3],c202⟩),(203,⟨[.tmp 2],c203⟩),(204,⟨[.tmp 4],c204⟩),(206,⟨[],c206⟩),(207,⟨[],c207⟩),(208,⟨[.tmp 4],c208⟩)]
def Zk0:List (Nat×AFun):=[(210,⟨[.tmp 4],c210⟩),(211,⟨[.tmp 3],c211⟩),(213,⟨[.tmp 4],c213⟩),(214,⟨[.tmp 3],c214⟩),(215,⟨[.tmp 4],c215⟩),(216,⟨[.tmp 4],c216⟩),(217,⟨[.tmp 2],c217⟩),(218,⟨[.tmp 2],c218⟩),(219,⟨[.tmp 2],c219⟩),(220,⟨[.tmp 2],c220⟩),(221,⟨[.tmp 6],c221⟩),(222,⟨[.tmp 8],c222⟩),(223,⟨[.cell 4<|some 2],c223⟩),(224,⟨[.tmp 2],c224⟩)]
def Zsg:List (Nat×AFun):=[(225,⟨[.tmp 4],c225⟩),(231,⟨[.tmp 2,.tmp 3,.tmp 4],c231⟩),(232,⟨[.tmp 4],c232⟩),(233,⟨[.tmp 2],c233⟩),(234,⟨[.tmp 2],c234⟩),(235,⟨[.tmp 2],c235⟩),(236,⟨[.tmp 2],c236⟩),(237,⟨[.tmp 2],c237⟩),(238,⟨[.tmp 2],c238⟩),(239,⟨[.tmp 4],c239⟩),(240,⟨[.tmp 2],c240⟩),(241,⟨[.tmp 2],c241⟩),(242,⟨[.tmp 4],c242⟩),(243,⟨[.tmp 2],c243⟩)]
def Zsh:List (Nat×AFun):=[(244,⟨[.tmp 4],c244⟩),(245,⟨[.tmp 2],c245⟩),(246,⟨[.tmp 3],c246⟩),(247,⟨[.tmp 2],c247⟩),(248,⟨[.tmp 4],c248⟩),(249,⟨[.tmp 4],c249⟩),(250,⟨[.tmp 4],c250⟩),(251,⟨[.tmp 4],c251⟩),(252,⟨[.tmp 4],c252⟩),(253,⟨[.tmp 2],c253⟩),(254,⟨[.tmp 2],c254⟩),(255,⟨[.tmp 6],c255⟩),(256,⟨[.tmp 6],c256⟩),(284,⟨[.cell 0<|some 256],c284⟩)]
def ZCZ:List (Nat×AFun):=[(285,⟨[.tmp 4],c285⟩),(286,⟨[.cell 4<|some 4,.tmp 5,.tmp 6],c286⟩),(287,⟨[.tmp 4],c287⟩),(288,⟨[.tmp 2],c288⟩),(289,⟨[.tmp 6],c289⟩),(290,⟨[.tmp 8],c290⟩),(292,⟨[.tmp 2],c292⟩),(293,⟨[.tmp 4],c293⟩),(294,⟨[.cell 0<|some 56],c294⟩),(295,⟨[.tmp 4],c295⟩),(307,⟨[],c307⟩),(308,⟨[.tmp 6],c308⟩),(309,⟨[.tmp 4],c309⟩),(313,⟨[.tmp 4],c313⟩)]
def ZSk:List (Nat×AFun):=[(314,⟨[],c314⟩),(315,⟨[.tmp 2],c315⟩),(316,⟨[.cell 4<|some 6],c316⟩),(317,⟨[.tmp 4],c317⟩),(318,⟨[.tmp 6],c318⟩),(319,⟨[.tmp 6],c319⟩),(321,⟨[.tmp 6],c321⟩),(332,⟨[.tmp 4],c332⟩),(333,⟨[.cell 4<|some 2],c333⟩),(334,⟨[.tmp 4],c334⟩),(335,⟨[.tmp 4],c335⟩)]
def ZjW(f:Nat)(l:List<|Nat×AFun):Option AFun:=l.foldr (λp r=>bif Nat.beq f p.1 then some p.2 else r) none
def N0(f:Nat):Option AFun:=bif Nat.blt f 28 then ZjW f FN0 else bif Nat.blt f 42 then ZjW f FN1 else bif Nat.blt f 56 then ZjW f FN2 else bif Nat.blt f 70 then ZjW f FN3 else bif Nat.blt f 98 then ZjW f FN4 else bif Nat.blt f 112 then ZjW f FN5 else bif Nat.blt f 126 then ZjW f FN6 else bif Nat.blt f 140 then ZjW f FN7 else bif Nat.blt f 154 then ZjW f FN8 else bif Nat.blt f 178 then ZjW f FN9 else bif Nat.blt f 192 then ZjW f ZjY else bif Nat.blt f 210 then ZjW f ZjZ else bif Nat.blt f 225 then ZjW f Zk0 else bif Nat.blt f 244 then ZjW f Zsg else bif Nat.blt f 285 then ZjW f Zsh else bif Nat.blt f 314 then ZjW f ZCZ else ZjW f ZSk
end Go.AM
