/- The code of the abstract machine for the functions that the statement WatchMatchesReference reaches. No condition. -/
import Derived.Test.YtbnmnkpkjmoehabGreatDoorQ3
import Derived.Test.YtbnmnkpkjmoehabGreatDoorProg
set_option linter.unusedVariables false
set_option linter.defProp false
set_option linter.unusedSimpArgs false
set_option linter.unusedSectionVars false
namespace Go.AM
open Go
inductive CoTy where
 |b|i (k:IntKind)|s|sl (e by':Nat)|st (fs:List Nat)|ar (n e:Nat)|mp (k v:Nat)|p|f|j|o
structure CoCx where
 T:Nat->CoTy
 e:ByteArray
 S:List<|Nat×ByteArray
 H:List<|Nat×Nat
 N:Nat->ACode
def ZvB{α:Type}(d:α):List α->Nat->α
 |[],_=>d
 |x::r,n=>bif n==0 then x else ZvB d r<|n-1
def Zwo(T:Nat->CoTy):Nat->Nat->Nat
 |0,_=>1
 |n+1,t=>match T t with
  | .st fs=>fs.foldr (λf s=>Zwo T n f+s) 0
  | .ar k e=>k*Zwo T n e
  |_=>1
def Zw0(T:Nat->CoTy)(e:ByteArray):Nat->Nat->List AV
 |0,_=>[]
 |n+1,t=>match T t with
  | .b=>[.bool false]
  | .i k=>[.int k 0]
  | .s=>[.str e]
  | .sl x _=>[.isl false false (Zwo T n x) []]
  | .st fs=>fs.foldr (λf s=>Zw0 T e n f++s) []
  | .ar k x=>(List.replicate k<|Zw0 T e n x).flatten
  | .mp _ _=>[.nilmap]
  | .p=>[.nilp]
  | .f=>[.nilfn]
  | .j=>[.nilif]
  | .o=>[.bot]
def ZvR(T:Nat->CoTy):Nat->Nat->List Nat
 |0,_=>[]
 |n+1,t=>match T t with
  | .b=>[0]
  | .i _=>[1]
  | .s=>[2]
  | .st fs=>fs.foldr (λf s=>ZvR T n f++s) []
  | .ar k x=>(List.replicate k<|ZvR T n x).flatten
  |_=>[]
def Zw1:CoTy->Bool
 | .st _| .ar _ _=>true
 |_=>false
def ZwJ(b:Bool):AV->AV
 | .isl w _ n l=>.isl w b n l
 |v=>v
def ZvK(X:CoCx)(top:Bool)(t:Nat):AV:=match X.T t with
 | .st _| .ar _ _=>.agg<|Zw0 X.T X.e 9 t
 |_=>ZwJ top<|ZvB .bot (Zw0 X.T X.e 9 t) 0
def ZxZ:AV->AV
 | .agg cs=>.agg<|cs.map<|ZwJ true
 |v=>ZwJ true v
def Zvk(X:CoCx)(t:Nat):Nat:=Zwo X.T 9 t
def ZwK(X:CoCx)(t:Nat):Option Nat:=bif Zw1 (X.T t)then some (Zvk X t)else none
def ZvC(X:CoCx)(t:Nat):Nat:=match X.T t with
 | .sl e _=>e
 | .ar _ e=>e
 |_=>0
def ZwL(X:CoCx)(t:Nat):Nat:=match X.T t with
 | .sl _ y=>y
 |_=>0
def Zwp(X:CoCx)(t:Nat):List Nat:=match X.T t with
 | .st fs=>fs
 |_=>[]
def ZwM(X:CoCx)(t i:Nat):Nat:=((Zwp X t).take i).foldr (λf s=>Zvk X f+s) 0
def ZFJ(e:ByteArray)(k:Nat):List (Nat×ByteArray)->ByteArray
 |[]=>e
 |p::r=>bif p.1==k then p.2 else ZFJ e k r
def Zzy(X:CoCx)(h:Nat)(ex:Bool)(t:Nat):Value->AV
 | .bool b=>.bool b
 | .int k n=>.int k n
 | .string s=>.str (match s.data.toList with|[]=>X.e|l=>ZFJ X.e (l.foldl (λn b=>256*n+b.toNat) 1) X.S)
 | .pointer _=>.nilp
 | .slice _ _ _=>.isl false ex (Zvk X<|ZvC X t) []
 | .map _=>.nilmap
 | .nilFunc=>.nilfn
 | .nilIface=>.nilif
 | .agg _=>ZvK X false t
 |_=>.bot
def Zr1(X:CoCx)(h:Nat)(ex:Bool)(t:Nat):Operand->Arg
 | .tmp t=>.t t
 | .const v=>.c<|Zzy X h ex t v
 | .func f=>.f f
 | .global g=>.g g
def Zw2(X:CoCx)(h:Nat)(ex:Bool):List Operand->List Nat->List Arg
 |x::r,t::ts=>Zr1 X h ex t x::Zw2 X h ex r ts
 |x::r,[]=>Zr1 X h ex 0 x::Zw2 X h ex r []
 |[],_=>[]
def Zzz(X:CoCx)(h:Nat)(c:Call):AOp:=
 let ts:=c.argTypes.toList
 let t:=ZvB 0 ts 0
 match c.callee,c.args.toList with
 | .builtin .len,[x]=>.len (match X.T t with| .s=>0| .sl _ _=>1|_=>2)<|Zr1 X h false t x
 | .builtin .min,[x,y]=>.mm false (Zr1 X h false t x)<|Zr1 X h false t y
 | .builtin .max,[x,y]=>.mm true (Zr1 X h false t x)<|Zr1 X h false t y
 | .builtin .append,[x,y]=>
  bif h%16==3 then .apa (Zvk X<|ZvC X t) (ZwL X t) (Zr1 X h true t x) (Zr1 X h false t y)else bif h%16==2 then .apr (Zvk X<|ZvC X t) (ZwL X t) (Zr1 X h true t x) (Zr1 X h false t y)else .app (h%16==1) (Zvk X<|ZvC X t) (ZwL X t) (Zr1 X h true t x)<|Zr1 X h false t y
 | .value (.func f),l=>.call (h%2==0) f<|Zw2 X h (h/2%2==1) l ts
 | .value x,l=>.callv (h%2==0) (Zr1 X h false 0 x)<|Zw2 X h false l ts
 |_,_=>.bad
def ZzA(X:CoCx)(h:Nat)(ty:Nat):Op->AOp
 | .move x| .assign x=>bif h%16==1 then .own (Zvk X<|ZvC X ty)else bif h%16==2 then .rel (Zr1 X h false ty x)else .mv<|Zr1 X h false ty x
 | .pick a b c=>.pick (Zr1 X h false 0 a) (Zr1 X h false ty b)<|Zr1 X h false ty c
 | .alloc t=>bif h%2==0 then .ibox (Zvk X t) (.c<|bif h/2%2==1 then ZxZ (ZvK X true t)else ZvK X true t)else .box (Zvk X t)<|.c<|bif h/2%2==1 then ZxZ (ZvK X true t)else ZvK X true t
 | .box t x=>bif h%2==0 then .ibox (Zvk X t) (Zr1 X h false t x)else .box (Zvk X t)<|Zr1 X h false t x
 | .build t ps=>match X.T t with
  | .ar _ e=>.build (Zw0 X.T X.e 9 t)<|ps.toList.map λp=>(p.1*Zvk X e,Zvk X e,Zr1 X h false e p.2)
  |_=>.build (bif h==1 then(Zw0 X.T X.e 9 t).map (ZwJ true)else bif Nat.blt 1 h then(Zw0 X.T X.e 9 t).set (h-2) .nilsl else Zw0 X.T X.e 9 t)<|ps.toList.map λp=>(ZwM X t p.1,Zvk X<|ZvB 0 (Zwp X t) p.1,Zr1 X h false (ZvB 0 (Zwp X t) p.1) p.2)
 | .buildSlice t n ps=>.bsl (h%2==0) (h/2%2==1) (Zvk X<|ZvC X t) (ZvK X false<|ZvC X t) n<|ps.toList.map λp=>(p.1,Zr1 X h false (ZvC X t) p.2)
 | .load t x=>bif h==0 then .load (ZwK X t) (Zr1 X h false 0 x)else .ldr (Zvk X t) h<|Zr1 X 0 false 0 x
 | .store t a x=>.store (Zvk X t) (Zr1 X h false 0 a)<|Zr1 X h false t x
 | .nilCheck x=>.nilck<|Zr1 X h false 0 x
 | .binOp op t x y _=>match op,X.T t with
  | .eql,.i _| .neq,.i _| .eql,.s| .neq,.s=>.bin op (Zr1 X h false t x)<|Zr1 X h false t y
  | .eql,.p=>.isn false<|Zr1 X h false t x
  | .neq,.p=>.isn true<|Zr1 X h false t x
  | .eql,k=>.eqv false (Zw1 k) (ZvR X.T 9 t) (Zr1 X h false t x)<|Zr1 X h false t y
  | .neq,k=>.eqv true (Zw1 k) (ZvR X.T 9 t) (Zr1 X h false t x)<|Zr1 X h false t y
  |_,_=>.bin op (Zr1 X h false t x)<|Zr1 X h false t y
 | .unOp op t x=>.un op<|Zr1 X h false t x
 | .convert _ d x=>.conv (match X.T d with| .i k=>some k|_=>none)<|Zr1 X h false d x
 | .field t x i=>.fld (ZwK X<|ZvB 0 (Zwp X t) i) (ZwM X t i)<|Zr1 X h false t x
 | .fieldAddr t x i=>.fadr (ZwM X t i)<|Zr1 X h false t x
 | .indexAddr t x i=>match X.T t with
  | .ar n e=>.aadr (Zvk X e) n (Zr1 X h false 0 x)<|Zr1 X h false 0 i
  |_=>.iadr (Zvk X<|ZvC X t) (Zr1 X h false t x)<|Zr1 X h false 0 i
 | .index t x i=>match X.T t with
  | .ar n e=>.aidx (ZwK X e) (Zvk X e) n (Zr1 X h false t x)<|Zr1 X h false 0 i
  |_=>.sidx (Zr1 X h false 0 x)<|Zr1 X h false 0 i
 | .extract x i=>.ext (Zr1 X h false 0 x) i
 | .makeFunc fn a b=>.mkf fn (Zw2 X h false a.toList [])<|Zw2 X h false b.toList []
 | .makeMap _ _=>.mkm
 | .insert t m k v=>match X.T t with
  | .mp a b=>.ins (Zw1<|X.T a) (ZvR X.T 9 a) (Zr1 X h false 0 m) (Zr1 X h false a k)<|Zr1 X h false b v
  |_=>.bad
 | .mapUpdate t m k v=>match X.T t with
  | .mp a b=>.mupd (Zw1<|X.T a) (ZvR X.T 9 a) (Zr1 X h false 0 m) (Zr1 X h false a k)<|Zr1 X h false b v
  |_=>.bad
 | .lookup t m k ok=>match X.T t with
  | .mp a b=>.lkp (Zw1<|X.T a) (ZvR X.T 9 a) ok (ZvK X (h==1) b) (Zr1 X h false 0 m)<|Zr1 X h false a k
  |_=>.bad
 | .makeSlice t l c=>.mks (Zvk X<|ZvC X t) (ZvK X false<|ZvC X t) (ZwL X t) (Zr1 X h false 0 l)<|Zr1 X h false 0 c
 | .slice t x a b c=>match X.T t with
  | .s=>.ssl (Zr1 X h false t x) (a.map<|Zr1 X h false 0)<|b.map<|Zr1 X h false 0
  |_=>.slc (Zvk X<|ZvC X t) (Zr1 X h false t x) (a.map<|Zr1 X h false 0) (b.map<|Zr1 X h false 0)<|c.map<|Zr1 X h false 0
 | .range _ x=>.rng<|Zr1 X h false 0 x
 | .next x _=>.nxt<|Zr1 X h false 0 x
 | .makeInterface t x=>.mkif t<|Zr1 X h false t x
 | .call c=>Zzz X h c
 |_=>.bad
def Zwq:Operand->Nat
 | .tmp t=>1 <<< t
 |_=>0
def ZwN(l:List Operand):Nat:=l.foldr (λx m=>Zwq x ||| m) 0
def ZzB:Op->List Operand
 | .call c=>(match c.callee with| .value f=>[f]|_=>[])++c.args.toList
 | .build _ ps| .buildSlice _ _ ps=>ps.toList.map (·.2)
 | .makeFunc _ a b=>a.toList++b.toList
 | .slice _ x a b c=>x::(a.toList++(b.toList++c.toList))
 | .makeMap _ r=>r.toList
 | .move x| .assign x| .box _ x| .load _ x| .nilCheck x| .unOp _ _ x| .convert _ _ x| .makeInterface _ x| .fieldAddr _ x _| .field _ x _| .range _ x| .next x _| .extract x _=>[x]
 | .pick c a b=>[c,a,b]
 | .store _ a v| .binOp _ _ a v _| .makeSlice _ a v| .indexAddr _ a v| .index _ a v| .lookup _ a v _=>[a,v]
 | .mapUpdate _ m k v| .insert _ m k v=>[m,k,v]
 |_=>[]
def ZwO(l:List Oper)(j:Nat):Option Nat:=match l with
 |[]=>none
 |o::r=>bif j==0 then o.dst else ZwO r<|j-1
def ZzC(ops:List Oper):Option (Nat×Bool)->Nat
 |some (j,_)=>(match ZwO ops j with|some d=>1 <<< d|none=>0)
 |none=>0
def Zy0(ops:List Oper)(o:Oper)(m:Nat):Nat:=
 (match o.dst with|some d=>(m ||| (1 <<< d)) ^^^ (1 <<< d)|none=>m) ||| (ZwN (ZzB o.op) ||| ZzC ops o.guard)
def ZvO:List (Nat×Nat)->Nat->Nat
 |[],_=>0
 |p::r,i=>bif p.1==i then p.2 else ZvO r i
def Zy1(f:Nat->Nat):Nat->Nat->Nat
 |0,l=>l
 |n+1,l=>(λm=>bif m==l then l else Zy1 f n m) (l ||| f l)
def ZzD(x:List<|Nat×Nat):Nat:=x.foldr (λp m=>p.2 ||| m) 0
def ZvD:List (Nat×Nat)->Nat->Code->Nat->Nat
 |_,_,.region _ ops _,out=>ops.toList.foldr (Zy0 ops.toList) out
 |x,rt,.seq a b,out=>ZvD x rt a<|ZvD x rt b out
 |x,rt,.cond c a b,out=>Zwq c ||| (ZvD x rt a out ||| ZvD x rt b out)
 |x,rt,.block id b,out=>ZvD ((id,out)::x) rt b out
 |x,rt,.loop b,_=>Zy1 (λl=>ZvD x rt b l) 8 0
 |x,rt,.rangeFunc f ps a b,out=>(λm=>Zwq f ||| (((m ||| ZwN (ps.toList.map .tmp)) ^^^ ZwN (ps.toList.map .tmp)) ||| (out ||| (ZzD x ||| rt)))) (ZvD [] 0 a<|ZvD [] 0 b 0)
 |x,_,.exit id,_=>ZvO x id
 |_,rt,.ret,_=>rt
 |_,_,_,out=>out
def Zw3:List (Nat×Nat)->Nat->Code->Nat
 |x,_,.exit i=>ZvO x i
 |_,rt,.ret=>rt
 |x,rt,.seq a b|x,rt,.cond _ a b|x,rt,.rangeFunc _ _ a b=>Zw3 x rt a ||| Zw3 x rt b
 |x,rt,.block id b=>Zw3 ((id,0)::x) rt b
 |x,rt,.loop b=>Zw3 x rt b
 |_,_,_=>0
def Zvs:Code->Nat
 | .seq a b| .cond _ a b=>Zvs a+Zvs b
 | .block _ b=>Zvs b
 | .loop b=>Zvs b+1
 | .rangeFunc _ _ a b=>Zvs a+Zvs b+1
 |_=>0
def ZwP:List Nat->Nat->Nat->List Nat->List Nat
 |[],o,m,acc=>bif m==0 then acc else o::acc
 |k::r,o,m,acc=>bif m==0 then acc else ZwP r o (m ^^^ ((m >>> k) <<< k))<|ZwP r (o+k) (m >>> k) acc
def Zw9(m:Nat):List Nat:=ZwP [256,128,64,32,16,8,4,2,1] 0 m []
def ZzE(ops:List Oper):Option (Nat×Bool)->Option (Nat×Bool)
 |some (j,b)=>(match ZwO ops j with|some d=>some (d,b)|none=>none)
 |none=>none
def ZwQ(X:CoCx)(ops:List Oper)(r:Nat):List Oper->Nat->List AOper
 |[],_=>[]
 |o::l,i=>⟨o.dst,ZzA X (ZvO X.H<|100*r+i) o.type o.op,ZzE ops o.guard⟩::ZwQ X ops r l (i+1)
def Zy2(ms:List Nat):Nat->Nat
 |0=>0
 |i+1=>bif ZvB 0 ms i%2 ^ i==2 ^ i-1 then Zy2 ms i else i+1
def ZwR(m:Nat)(q:AOp):List AOper->Nat->List Nat
 |[],_=>[]
 |p::l,j=>bif m%2==1||X3 q&&X3 p.op then ZwR (m/2) q l (j+1)else j::ZwR (m/2) q l (j+1)
def Zy3(ms:List Nat)(p1:List AOper):List AOper->Nat->List (List Nat)
 |[],_=>[]
 |q::l,i=>ZwR (ZvB 0 ms i) q.op (p1.take i) 0::Zy3 ms p1 l (i+1)
def ZzF(ms:List Nat)(qs:List AOper):ACode:=(λk=>.draw (Zy3 ms (qs.take k) (qs.take k) 0) (qs.take k)<|qs.drop k) (Zy2 ms qs.length)
def ZFK(n:Nat)(l:List<|Nat×Nat):List (Nat×Nat):=bif n==0 then l else(n/100-1,n%100)::l
def ZzG(X:CoCx)(r:Nat)(ops:List Oper)(out:Nat)(qs:List AOper):ACode:=
 bif ZvO X.H (100*r+99)==0 then(bif Nat.blt 2 qs.length then .keep (Zw9 out) (.region qs)else .region qs)else
 match qs,ops with
 |[⟨some d,.fadr off p,_⟩,⟨_,.store _ _<|.c<|.isl _ _ s _,_⟩],_=>.nils s d off p
 |[⟨some d,_,_⟩],[o]=>match o.op with
  | .alloc t=>.zbox d (Zvk X t) (ZvK X true t)<|ZFK (ZvO X.H<|100*r+99)<|ZFK (ZvO X.H<|100*r+98) []
  |_=>.bad
 |_,_=>.bad
def ZT7(g:Nat)(c:ACode):ACode:=bif g==0 then c else .ghost (g/10000) (g/100%100) (g%100) c
def ZvL(X:CoCx):List (Nat×Nat)->Nat->Nat->Code->Nat->ACode×Nat×List ACode
 |_,_,_,.skip,out=>(.skip,out,[])
 |_,_,_,.label _,out=>(.skip,out,[])
 |_,_,_,.region r ops d,out=>
  (bif d then .keep (Zw9 out) (ZzF (YS ops.toList [])<|ZwQ X ops.toList r ops.toList 0)else ZT7 (ZvO X.H<|100*r+90)<|ZzG X r ops.toList out<|ZwQ X ops.toList r ops.toList 0,ops.toList.foldr (Zy0 ops.toList) out,[])
 |x,rt,k,.seq a b,out=>
  match ZvL X x rt (k+Zvs a) b out with
  |(cb,lb,db)=>match ZvL X x rt k a lb with
   |(ca,la,da)=>(.seq ca cb,la,da++db)
 |x,rt,k,.cond c a b,out=>
  match ZvL X x rt k a out,ZvL X x rt (k+Zvs a) b out with
  |(ca,la,da),(cb,lb,db)=>(.cond (Zr1 X 0 false 0 c) ca cb,Zwq c ||| (la ||| lb),da++db)
 |x,rt,k,.block id b,out=>
  match ZvL X ((id,out)::x) rt k b out with
  |(cb,lb,db)=>(.keep (Zw9<|out ||| Zw3 x rt (.block id b))<|.block id cb,lb,db)
 |x,rt,k,.loop b,_=>
  (λl=>match ZvL X x rt k b l with
   |(cb,_,db)=>(X.N<|2*(k+Zvs b)+1,l,db++[.keep (Zw9<|l ||| Zw3 x rt b) cb,.loop (Zw9 l)<|X.N<|2*(k+Zvs b)])) (ZvD x rt (.loop b) 0)
 |x,rt,k,.rangeFunc f ps a b,out=>
  match ZvL X [] 0 k a (ZvD [] 0 b 0),ZvL X [] 0 (k+Zvs a) b 0 with
  |(ca,_,da),(cb,_,db)=>(.rangeFunc (Zr1 X 0 false 0 f) ps.toList (X.N<|2*(k+Zvs a+Zvs b))<|X.N<|2*(k+Zvs a+Zvs b)+1,ZvD x rt (.rangeFunc f ps a b) out,da++(db++[ca,cb]))
 |x,_,_,.exit id,_=>(.exit id,ZvO x id,[])
 |_,rt,_,.ret,_=>(.ret,rt,[])
 |_,_,_,_,out=>(.bad,out,[])
def Zy4(f:Func):Nat:=f.results.toList.foldr (λr m=>(match r with| .tmp t=>1 <<< t| .cell t _=>1 <<< t) ||| m) 0
def ZzH(X:CoCx)(f:Func):List ACode:=
 match f.body with
 |some c=>match ZvL X [] (Zy4 f) 0 c (Zy4 f)with
  |(q,_,ds)=>ds++[q]
 |none=>[]
abbrev CoV{α:Type}(a:α):={c:α // a=c}
def coY(X:(Nat->ACode)->List ACode)(l:List ACode)(n:Nat):ACode:=ZvB .bad (X<|ZvB .bad l) n
def Zr2:ACode->List Nat->ACode
 |c,[]=>c
 | .seq a b,i::r=>bif i==0 then Zr2 a r else Zr2 b r
 | .cond _ a b,i::r=>bif i==0 then Zr2 a r else Zr2 b r
 | .block _ a,_::r=>Zr2 a r
 | .keep _ a,_::r=>Zr2 a r
 | .loop _ a,_::r=>Zr2 a r
 |c,_=>c
def Zvt(t:Nat):List (Nat×CoTy)->CoTy
 |[]=>.i .i64
 |p::r=>bif p.1==t then p.2 else Zvt t r
end Go.AM
set_option maxRecDepth 100000
namespace Go.AM
open Go Go.Proofs.Tryz
def coT(t:Nat):CoTy:=bif Nat.blt t 148 then bif Nat.blt t 80 then bif Nat.blt t 36 then Zvt t [(4,.b),(5,.i .u8),(9,.s),(21,.i .i32),(22,.sl 96 88),(23,.sl 80 80),(24,.sl 82 56),(25,.sl 84 184),(26,.sl 99 72),(27,.sl 136 16),(29,.st [22,23,24,25,26,27,27]),(30,.sl 65 32),(31,.sl 9 16),(32,.sl 76 32),(34,.st [31,32]),(35,.sl 57 136)]else Zvt t [(36,.sl 61 168),(41,.o),(43,.o),(49,.o),(53,.st [3,9,3,3]),(55,.st [3,3]),(57,.st [9,9,9,9,9,53,55]),(58,.o),(61,.st [9,34,34,4,35,35]),(65,.st [9,9]),(67,.st [34,35]),(70,.f),(71,.o),(76,.st [9,3,3]),(77,.sl 55 16),(78,.sl 128 40)]else bif Nat.blt t 118 then Zvt t [(80,.st [9,3,77,78,3]),(82,.st [9,3,77,3]),(84,.st [9,9,9,3,53,55,3,3,31,3,3,9]),(85,.o),(88,.st [9,53,55]),(89,.sl 88 72),(91,.st [3,3,3,3,3,9,9,9,31,78,53,55,77,89]),(96,.st [9,3,3,77,78,3]),(99,.st [9,9,9,3,3,3]),(105,.mp 9 4),(106,.f),(107,.o),(112,.f),(114,.f),(115,.f),(117,.p)]else Zvt t [(118,.ar 16 115),(120,.st [29,3,91,31]),(122,.sl 196 48),(124,.o),(126,.f),(128,.st [9,3,9]),(129,.mp 3 4),(132,.mp 134 4),(134,.st [9,53]),(135,.sl 27 24),(136,.ar 2 3),(138,.sl 142 40),(139,.o),(142,.st [3,3,3,9]),(145,.f),(146,.f)]else bif Nat.blt t 242 then bif Nat.blt t 192 then Zvt t [(148,.st [29,146]),(151,.f),(153,.f),(158,.f),(162,.sl 4 1),(166,.ar 16 112),(170,.p),(171,.f),(174,.p),(175,.f),(179,.f),(182,.p),(183,.f),(185,.sl 3 8),(188,.p),(189,.f)]else Zvt t [(192,.p),(193,.f),(196,.st [9,3,77]),(197,.o),(200,.f),(202,.f),(207,.f),(208,.ar 256 3),(211,.st [9,208]),(213,.o),(216,.f),(218,.f),(225,.o),(228,.f),(233,.f),(239,.f)]else bif Nat.blt t 335 then Zvt t [(242,.f),(252,.o),(258,.f),(259,.p),(263,.j),(264,.o),(269,.sl 55 16),(275,.f),(277,.sl 53 40),(280,.f),(306,.f),(309,.mp 128 4),(312,.st [3,3]),(313,.ar 28 312),(316,.mp 53 4),(333,.f)]else Zvt t [(335,.st [55,55]),(337,.st [3,3]),(339,.st [335,337]),(341,.f)]
@[reducible] def cV{α:Type}(a:α)(h:CoV a:=by exact⟨_,by cbv⟩):α:=h.1
attribute [go_sem ↓] cV
abbrev CoX(e:ByteArray)(S:List<|Nat×ByteArray)(H:List<|Nat×Nat)(f:Func)(N:Nat->ACode):List ACode:=ZzH ⟨coT,e,S,H,N⟩ f
abbrev CoW(H:List<|Nat×Nat)(f:Func)(e:ByteArray):ACode:=coY (CoX e [] H f) [] 0
abbrev CoU(X:ByteArray->(Nat->ACode)->List ACode)(e:ByteArray)(l:List ACode)(n:Nat):ACode:=coY (X e) l n
def c3:=(λe=>cV<|CoW [(502,2),(608,1),(701,2),(702,2),(708,1),(807,2),(808,2),(822,2),(823,2)] f3 e) emp
def c4:=(λe s0 s1 s2 s3 s4=>cV<|coY (CoX e [(91441,s0),(91442,s1),(91443,s2),(96049,s3),(96050,s4)] [(104,1),(105,1),(602,1),(702,1),(805,1),(910,1),(1008,1)] f4) [] 0) emp (B [101,49]) (B [101,50]) (B [101,51]) (B [119,49]) (B [119,50])
def c5:=(λe=>cV<|CoW [(107,2)] f5 e) emp
def c6:=(λe=>cV<|CoW [] f6 e) emp
def Zxh(e)(N):=cV<|CoX e [] [(399,108),(300,1),(702,1),(802,1)] f7 N
def c7L0b:=(λe=>cV<|CoU Zxh e [] 0) emp
def c7L0:=(λe a=>cV<|CoU Zxh e [a] 1) emp c7L0b
def c7:=(λe a b=>cV<|CoU Zxh e [a,b] 2) emp c7L0b c7L0
def Zvz(e)(N):=cV<|CoX e [] [(300,1),(710,1),(810,1)] f8 N
def c8L0b:=(λe=>cV<|CoU Zvz e [] 0) emp
def c8L0:=(λe a=>cV<|CoU Zvz e [a] 1) emp c8L0b
def c8:=(λe a b=>cV<|CoU Zvz e [a,b] 2) emp c8L0b c8L0
def Zwi(e)(N):=cV<|CoX e [] [(1,1),(101,2),(103,1),(402,1)] f9 N
def c9L0b:=(λe=>cV<|CoU Zwi e [] 0) emp
def c9L0:=(λe a=>cV<|CoU Zwi e [a] 1) emp c9L0b
def c9:=(λe a b=>cV<|CoU Zwi e [a,b] 2) emp c9L0b c9L0
def X10(e)(N):=cV<|CoX e [] [(0,1),(1,1)] f10 N
def c10L0b:=(λe=>cV<|CoU X10 e [] 0) emp
def c10L0:=(λe a=>cV<|CoU X10 e [a] 1) emp c10L0b
def c10:=(λe a b=>cV<|CoU X10 e [a,b] 2) emp c10L0b c10L0
def X11(e)(N):=cV<|CoX e [] [] f11 N
def c11L0b:=(λe=>cV<|CoU X11 e [] 0) emp
def c11L0:=(λe a=>cV<|CoU X11 e [a] 1) emp c11L0b
def c11:=(λe a b=>cV<|CoU X11 e [a,b] 2) emp c11L0b c11L0
def X12(e)(N):=cV<|CoX e [] [] f12 N
def c12L0b:=(λe=>cV<|CoU X12 e [] 0) emp
def c12L0:=(λe a=>cV<|CoU X12 e [a] 1) emp c12L0b
def c12:=(λe a b=>cV<|CoU X12 e [a,b] 2) emp c12L0b c12L0
def X13(e)(N):=cV<|CoX e [] [] f13 N
def c13L0b:=(λe=>cV<|CoU X13 e [] 0) emp
def c13L0:=(λe a=>cV<|CoU X13 e [a] 1) emp c13L0b
def c13:=(λe a b=>cV<|CoU X13 e [a,b] 2) emp c13L0b c13L0
def c14:=(λe s0 s1 s2 s3 s4 s5 s6=>cV<|coY (CoX e [(371,s0),(354,s1),(91441,s2),(360,s3),(376,s4),(91442,s5),(91443,s6)] [(0,1),(1,1),(204,2),(212,1),(311,1)] f14) [] 0) emp (B [115]) (B [98]) (B [101,49]) (B [104]) (B [120]) (B [101,50]) (B [101,51])
def c15:=(λe s0 s1 s2 s3 s4 s5=>cV<|coY (CoX e [(96049,s0),(91441,s1),(96050,s2),(91442,s3),(96051,s4),(360,s5)] [] f15) [] 0) emp (B [119,49]) (B [101,49]) (B [119,50]) (B [101,50]) (B [119,51]) (B [104])
def c16:=(λe=>cV<|CoW [(1,1)] f16 e) emp
def X17(e)(N):=cV<|CoX e [] [(2105,1)] f17 N
def c17L0b:=(λe=>cV<|CoU X17 e [] 0) emp
def c17L0:=(λe a=>cV<|CoU X17 e [a] 1) emp c17L0b
def c17L1b:=(λe a b=>cV<|CoU X17 e [a,b] 2) emp c17L0b c17L0
def c17L1:=(λe a b c=>cV<|CoU X17 e [a,b,c] 3) emp c17L0b c17L0 c17L1b
def c17L2b:=(λe a b c d=>cV<|CoU X17 e [a,b,c,d] 4) emp c17L0b c17L0 c17L1b c17L1
def c17L2:=(λe a b c d g=>cV<|CoU X17 e [a,b,c,d,g] 5) emp c17L0b c17L0 c17L1b c17L1 c17L2b
def c17L3b:=(λe a b c d g h=>cV<|CoU X17 e [a,b,c,d,g,h] 6) emp c17L0b c17L0 c17L1b c17L1 c17L2b c17L2
def c17L3:=(λe a b c d g h i=>cV<|CoU X17 e [a,b,c,d,g,h,i] 7) emp c17L0b c17L0 c17L1b c17L1 c17L2b c17L2 c17L3b
def c17L4b:=(λe a b c d g h i j=>cV<|CoU X17 e [a,b,c,d,g,h,i,j] 8) emp c17L0b c17L0 c17L1b c17L1 c17L2b c17L2 c17L3b c17L3
def c17L4:=(λe a b c d g h i j k=>cV<|CoU X17 e [a,b,c,d,g,h,i,j,k] 9) emp c17L0b c17L0 c17L1b c17L1 c17L2b c17L2 c17L3b c17L3 c17L4b
def c17:=(λe a b c d g h i j k l=>cV<|CoU X17 e [a,b,c,d,g,h,i,j,k,l] 10) emp c17L0b c17L0 c17L1b c17L1 c17L2b c17L2 c17L3b c17L3 c17L4b c17L4
def X18(e)(N):=cV<|CoX e [] [] f18 N
def c18L0b:=(λe=>cV<|CoU X18 e [] 0) emp
def c18L0:=(λe a=>cV<|CoU X18 e [a] 1) emp c18L0b
def c18:=(λe a b=>cV<|CoU X18 e [a,b] 2) emp c18L0b c18L0
def X19(e)(N):=cV<|CoX e [] [(302,1),(902,1),(1502,1),(2103,1),(2702,1)] f19 N
def c19L0b:=(λe=>cV<|CoU X19 e [] 0) emp
def c19L0:=(λe a=>cV<|CoU X19 e [a] 1) emp c19L0b
def c19L1b:=(λe a b=>cV<|CoU X19 e [a,b] 2) emp c19L0b c19L0
def c19L1:=(λe a b c=>cV<|CoU X19 e [a,b,c] 3) emp c19L0b c19L0 c19L1b
def c19L2b:=(λe a b c d=>cV<|CoU X19 e [a,b,c,d] 4) emp c19L0b c19L0 c19L1b c19L1
def c19L2:=(λe a b c d g=>cV<|CoU X19 e [a,b,c,d,g] 5) emp c19L0b c19L0 c19L1b c19L1 c19L2b
def c19L3b:=(λe a b c d g h=>cV<|CoU X19 e [a,b,c,d,g,h] 6) emp c19L0b c19L0 c19L1b c19L1 c19L2b c19L2
def c19L3:=(λe a b c d g h i=>cV<|CoU X19 e [a,b,c,d,g,h,i] 7) emp c19L0b c19L0 c19L1b c19L1 c19L2b c19L2 c19L3b
def c19L4b:=(λe a b c d g h i j=>cV<|CoU X19 e [a,b,c,d,g,h,i,j] 8) emp c19L0b c19L0 c19L1b c19L1 c19L2b c19L2 c19L3b c19L3
def c19L4:=(λe a b c d g h i j k=>cV<|CoU X19 e [a,b,c,d,g,h,i,j,k] 9) emp c19L0b c19L0 c19L1b c19L1 c19L2b c19L2 c19L3b c19L3 c19L4b
def c19:=(λe a b c d g h i j k l=>cV<|CoU X19 e [a,b,c,d,g,h,i,j,k,l] 10) emp c19L0b c19L0 c19L1b c19L1 c19L2b c19L2 c19L3b c19L3 c19L4b c19L4
def X20(e)(N):=cV<|CoX e [] [(402,1)] f20 N
def c20L0b:=(λe=>cV<|CoU X20 e [] 0) emp
def c20L0:=(λe a=>cV<|CoU X20 e [a] 1) emp c20L0b
def c20:=(λe a b=>cV<|CoU X20 e [a,b] 2) emp c20L0b c20L0
def c21:=(λe=>cV<|CoW [(108,1),(109,1)] f21 e) emp
def X22(e)(N):=cV<|CoX e [] [(1,1),(199,311),(100,1),(606,1)] f22 N
def c22L0b:=(λe=>cV<|CoU X22 e [] 0) emp
def c22L0:=(λe a=>cV<|CoU X22 e [a] 1) emp c22L0b
def c22:=(λe a b=>cV<|CoU X22 e [a,b] 2) emp c22L0b c22L0
def c23:=(λe=>cV<|CoW [] f23 e) emp
def c24:=(λe=>cV<|CoW [(100,2),(101,2)] f24 e) emp
def X25(e)(N):=cV<|CoX e [] [(605,1),(1205,1),(1805,1),(2405,1),(3205,1)] f25 N
def c25L0b:=(λe=>cV<|CoU X25 e [] 0) emp
def c25L0:=(λe a=>cV<|CoU X25 e [a] 1) emp c25L0b
def c25L1b:=(λe a b=>cV<|CoU X25 e [a,b] 2) emp c25L0b c25L0
def c25L1:=(λe a b c=>cV<|CoU X25 e [a,b,c] 3) emp c25L0b c25L0 c25L1b
def c25L2b:=(λe a b c d=>cV<|CoU X25 e [a,b,c,d] 4) emp c25L0b c25L0 c25L1b c25L1
def c25L2:=(λe a b c d g=>cV<|CoU X25 e [a,b,c,d,g] 5) emp c25L0b c25L0 c25L1b c25L1 c25L2b
def c25L3b:=(λe a b c d g h=>cV<|CoU X25 e [a,b,c,d,g,h] 6) emp c25L0b c25L0 c25L1b c25L1 c25L2b c25L2
def c25L3:=(λe a b c d g h i=>cV<|CoU X25 e [a,b,c,d,g,h,i] 7) emp c25L0b c25L0 c25L1b c25L1 c25L2b c25L2 c25L3b
def c25L4b:=(λe a b c d g h i j=>cV<|CoU X25 e [a,b,c,d,g,h,i,j] 8) emp c25L0b c25L0 c25L1b c25L1 c25L2b c25L2 c25L3b c25L3
def c25L4:=(λe a b c d g h i j k=>cV<|CoU X25 e [a,b,c,d,g,h,i,j,k] 9) emp c25L0b c25L0 c25L1b c25L1 c25L2b c25L2 c25L3b c25L3 c25L4b
def c25:=(λe a b c d g h i j k l=>cV<|CoU X25 e [a,b,c,d,g,h,i,j,k,l] 10) emp c25L0b c25L0 c25L1b c25L1 c25L2b c25L2 c25L3b c25L3 c25L4b c25L4
def X26(e)(N):=cV<|CoX e [] [] f26 N
def c26L0b:=(λe=>cV<|CoU X26 e [] 0) emp
def c26L0:=(λe a=>cV<|CoU X26 e [a] 1) emp c26L0b
def c26L1b:=(λe a b=>cV<|CoU X26 e [a,b] 2) emp c26L0b c26L0
def c26L1:=(λe a b c=>cV<|CoU X26 e [a,b,c] 3) emp c26L0b c26L0 c26L1b
def c26:=(λe a b c d=>cV<|CoU X26 e [a,b,c,d] 4) emp c26L0b c26L0 c26L1b c26L1
def X27(e)(N):=cV<|CoX e [] [(1,1),(106,1),(400,1),(810,1)] f27 N
def c27L0b:=(λe=>cV<|CoU X27 e [] 0) emp
def c27L0:=(λe a=>cV<|CoU X27 e [a] 1) emp c27L0b
def c27:=(λe a b=>cV<|CoU X27 e [a,b] 2) emp c27L0b c27L0
def c28:=(λe=>cV<|CoW [] f28 e) emp
def X29(e)(N):=cV<|CoX e [] [] f29 N
def c29L0b:=(λe=>cV<|CoU X29 e [] 0) emp
def c29L0:=(λe a=>cV<|CoU X29 e [a] 1) emp c29L0b
def c29:=(λe a b=>cV<|CoU X29 e [a,b] 2) emp c29L0b c29L0
def c30:=(λe=>cV<|CoW [(2,1),(301,1),(406,1),(505,1)] f30 e) emp
def c31:=(λe=>cV<|CoW [] f31 e) emp
def c32:=(λe=>cV<|CoW [(2,1),(102,1)] f32 e) emp
def X33(e)(N):=cV<|CoX e [] [] f33 N
def c33L0b:=(λe=>cV<|CoU X33 e [] 0) emp
def c33L0:=(λe a=>cV<|CoU X33 e [a] 1) emp c33L0b
def c33:=(λe a b=>cV<|CoU X33 e [a,b] 2) emp c33L0b c33L0
def X34(e)(N):=cV<|CoX e [] [] f34 N
def c34L0b:=(λe=>cV<|CoU X34 e [] 0) emp
def c34L0:=(λe a=>cV<|CoU X34 e [a] 1) emp c34L0b
def c34:=(λe a b=>cV<|CoU X34 e [a,b] 2) emp c34L0b c34L0
def c35:=(λe=>cV<|CoW [] f35 e) emp
def c36:=(λe s0=>cV<|coY (CoX e [(376,s0)] [(104,2)] f36) [] 0) emp (B [120])
def c37:=(λe=>cV<|CoW [(0,1)] f37 e) emp
def X38(e)(N):=cV<|CoX e [] [(105,1)] f38 N
def c38L0b:=(λe=>cV<|CoU X38 e [] 0) emp
def c38L0:=(λe a=>cV<|CoU X38 e [a] 1) emp c38L0b
def s38p0:=(λe a b=>cV<|Zr2 (CoU X38 e [a,b] 2) [0]) emp c38L0b c38L0
def s38p1:=(λe a b=>cV<|Zr2 (CoU X38 e [a,b] 2) [1,0]) emp c38L0b c38L0
def s38p2:=(λe a b=>cV<|Zr2 (CoU X38 e [a,b] 2) [1,1,0]) emp c38L0b c38L0
def s38p3:=(λe a b=>cV<|Zr2 (CoU X38 e [a,b] 2) [1,1,1,0]) emp c38L0b c38L0
def s38p4:=(λe a b=>cV<|Zr2 (CoU X38 e [a,b] 2) [1,1,1,1,0]) emp c38L0b c38L0
def s38p5:=(λe a b=>cV<|Zr2 (CoU X38 e [a,b] 2) [1,1,1,1,1,0]) emp c38L0b c38L0
def s38p6:=(λe a b=>cV<|Zr2 (CoU X38 e [a,b] 2) [1,1,1,1,1,1,0]) emp c38L0b c38L0
def s38p7:=(λe a b=>cV<|Zr2 (CoU X38 e [a,b] 2) [1,1,1,1,1,1,1,0]) emp c38L0b c38L0
def s38p8:=(λe a b=>cV<|Zr2 (CoU X38 e [a,b] 2) [1,1,1,1,1,1,1,1,0]) emp c38L0b c38L0
def s38p9:=(λe a b=>cV<|Zr2 (CoU X38 e [a,b] 2) [1,1,1,1,1,1,1,1,1,0]) emp c38L0b c38L0
def s38p10:=(λe a b=>cV<|Zr2 (CoU X38 e [a,b] 2) [1,1,1,1,1,1,1,1,1,1,0]) emp c38L0b c38L0
def c38:ACode:=.seq s38p0<|.seq s38p1<|.seq s38p2<|.seq s38p3<|.seq s38p4<|.seq s38p5<|.seq s38p6<|.seq s38p7<|.seq s38p8<|.seq s38p9<|.seq s38p10 .ret
def c39:=(λe=>cV<|CoW [(100,2),(101,1),(301,1),(401,1)] f39 e) emp
def X40(e)(N):=cV<|CoX e [] [(100,1),(402,1),(902,1),(1402,1),(1902,1),(2402,1)] f40 N
def c40L0b:=(λe=>cV<|CoU X40 e [] 0) emp
def c40L0:=(λe a=>cV<|CoU X40 e [a] 1) emp c40L0b
def c40L1b:=(λe a b=>cV<|CoU X40 e [a,b] 2) emp c40L0b c40L0
def c40L1:=(λe a b c=>cV<|CoU X40 e [a,b,c] 3) emp c40L0b c40L0 c40L1b
def c40L2b:=(λe a b c d=>cV<|CoU X40 e [a,b,c,d] 4) emp c40L0b c40L0 c40L1b c40L1
def c40L2:=(λe a b c d g=>cV<|CoU X40 e [a,b,c,d,g] 5) emp c40L0b c40L0 c40L1b c40L1 c40L2b
def c40L3b:=(λe a b c d g h=>cV<|CoU X40 e [a,b,c,d,g,h] 6) emp c40L0b c40L0 c40L1b c40L1 c40L2b c40L2
def c40L3:=(λe a b c d g h i=>cV<|CoU X40 e [a,b,c,d,g,h,i] 7) emp c40L0b c40L0 c40L1b c40L1 c40L2b c40L2 c40L3b
def c40L4b:=(λe a b c d g h i j=>cV<|CoU X40 e [a,b,c,d,g,h,i,j] 8) emp c40L0b c40L0 c40L1b c40L1 c40L2b c40L2 c40L3b c40L3
def c40L4:=(λe a b c d g h i j k=>cV<|CoU X40 e [a,b,c,d,g,h,i,j,k] 9) emp c40L0b c40L0 c40L1b c40L1 c40L2b c40L2 c40L3b c40L3 c40L4b
def c40:=(λe a b c d g h i j k l=>cV<|CoU X40 e [a,b,c,d,g,h,i,j,k,l] 10) emp c40L0b c40L0 c40L1b c40L1 c40L2b c40L2 c40L3b c40L3 c40L4b c40L4
def X41(e)(N):=cV<|CoX e [] [(402,1),(505,1)] f41 N
def c41L0b:=(λe=>cV<|CoU X41 e [] 0) emp
def c41L0:=(λe a=>cV<|CoU X41 e [a] 1) emp c41L0b
def c41:=(λe a b=>cV<|CoU X41 e [a,b] 2) emp c41L0b c41L0
def X42(e)(N):=cV<|CoX e [] [(702,1),(1502,1)] f42 N
def c42L0b:=(λe=>cV<|CoU X42 e [] 0) emp
def c42L0:=(λe a=>cV<|CoU X42 e [a] 1) emp c42L0b
def c42L1b:=(λe a b=>cV<|CoU X42 e [a,b] 2) emp c42L0b c42L0
def c42L1:=(λe a b c=>cV<|CoU X42 e [a,b,c] 3) emp c42L0b c42L0 c42L1b
def c42L2b:=(λe a b c d=>cV<|CoU X42 e [a,b,c,d] 4) emp c42L0b c42L0 c42L1b c42L1
def c42L2:=(λe a b c d g=>cV<|CoU X42 e [a,b,c,d,g] 5) emp c42L0b c42L0 c42L1b c42L1 c42L2b
def c42L3b:=(λe a b c d g h=>cV<|CoU X42 e [a,b,c,d,g,h] 6) emp c42L0b c42L0 c42L1b c42L1 c42L2b c42L2
def c42L3:=(λe a b c d g h i=>cV<|CoU X42 e [a,b,c,d,g,h,i] 7) emp c42L0b c42L0 c42L1b c42L1 c42L2b c42L2 c42L3b
def c42:=(λe a b c d g h i j=>cV<|CoU X42 e [a,b,c,d,g,h,i,j] 8) emp c42L0b c42L0 c42L1b c42L1 c42L2b c42L2 c42L3b c42L3
def c43:=(λe=>cV<|CoW [] f43 e) emp
def X44(e)(N):=cV<|CoX e [] [(1,1),(499,101),(498,203),(400,1),(503,1),(600,1),(1102,1),(1105,1)] f44 N
def c44R0a:=(λe=>cV<|CoU X44 e [] 0) emp
def c44R0b:=(λe a=>cV<|CoU X44 e [a] 1) emp c44R0a
def c44:=(λe a b=>cV<|CoU X44 e [a,b] 2) emp c44R0a c44R0b
def c45:=(λe=>cV<|CoW [(100,2),(101,2)] f45 e) emp
def c46:=(λe=>cV<|CoW [(100,2),(101,2)] f46 e) emp
def X47(e)(N):=cV<|CoX e [] [] f47 N
def c47L0b:=(λe=>cV<|CoU X47 e [] 0) emp
def c47L0:=(λe a=>cV<|CoU X47 e [a] 1) emp c47L0b
def c47:=(λe a b=>cV<|CoU X47 e [a,b] 2) emp c47L0b c47L0
def X48(e)(N):=cV<|CoX e [] [(100,1)] f48 N
def c48L0b:=(λe=>cV<|CoU X48 e [] 0) emp
def c48L0:=(λe a=>cV<|CoU X48 e [a] 1) emp c48L0b
def c48L1b:=(λe a b=>cV<|CoU X48 e [a,b] 2) emp c48L0b c48L0
def c48L1:=(λe a b c=>cV<|CoU X48 e [a,b,c] 3) emp c48L0b c48L0 c48L1b
def c48L2b:=(λe a b c d=>cV<|CoU X48 e [a,b,c,d] 4) emp c48L0b c48L0 c48L1b c48L1
def c48L2:=(λe a b c d g=>cV<|CoU X48 e [a,b,c,d,g] 5) emp c48L0b c48L0 c48L1b c48L1 c48L2b
def c48L3b:=(λe a b c d g h=>cV<|CoU X48 e [a,b,c,d,g,h] 6) emp c48L0b c48L0 c48L1b c48L1 c48L2b c48L2
def c48L3:=(λe a b c d g h i=>cV<|CoU X48 e [a,b,c,d,g,h,i] 7) emp c48L0b c48L0 c48L1b c48L1 c48L2b c48L2 c48L3b
def c48L4b:=(λe a b c d g h i j=>cV<|CoU X48 e [a,b,c,d,g,h,i,j] 8) emp c48L0b c48L0 c48L1b c48L1 c48L2b c48L2 c48L3b c48L3
def c48L4:=(λe a b c d g h i j k=>cV<|CoU X48 e [a,b,c,d,g,h,i,j,k] 9) emp c48L0b c48L0 c48L1b c48L1 c48L2b c48L2 c48L3b c48L3 c48L4b
def c48L5b:=(λe a b c d g h i j k l=>cV<|CoU X48 e [a,b,c,d,g,h,i,j,k,l] 10) emp c48L0b c48L0 c48L1b c48L1 c48L2b c48L2 c48L3b c48L3 c48L4b c48L4
def c48L5:=(λe a b c d g h i j k l m=>cV<|CoU X48 e [a,b,c,d,g,h,i,j,k,l,m] 11) emp c48L0b c48L0 c48L1b c48L1 c48L2b c48L2 c48L3b c48L3 c48L4b c48L4 c48L5b
def c48L6b:=(λe a b c d g h i j k l m n=>cV<|CoU X48 e [a,b,c,d,g,h,i,j,k,l,m,n] 12) emp c48L0b c48L0 c48L1b c48L1 c48L2b c48L2 c48L3b c48L3 c48L4b c48L4 c48L5b c48L5
def c48L6:=(λe a b c d g h i j k l m n o=>cV<|CoU X48 e [a,b,c,d,g,h,i,j,k,l,m,n,o] 13) emp c48L0b c48L0 c48L1b c48L1 c48L2b c48L2 c48L3b c48L3 c48L4b c48L4 c48L5b c48L5 c48L6b
def c48:=(λe a b c d g h i j k l m n o p=>cV<|CoU X48 e [a,b,c,d,g,h,i,j,k,l,m,n,o,p] 14) emp c48L0b c48L0 c48L1b c48L1 c48L2b c48L2 c48L3b c48L3 c48L4b c48L4 c48L5b c48L5 c48L6b c48L6
def X49(e)(N):=cV<|CoX e [] [(405,1),(1005,1)] f49 N
def c49L0b:=(λe=>cV<|CoU X49 e [] 0) emp
def c49L0:=(λe a=>cV<|CoU X49 e [a] 1) emp c49L0b
def c49L1b:=(λe a b=>cV<|CoU X49 e [a,b] 2) emp c49L0b c49L0
def c49L1:=(λe a b c=>cV<|CoU X49 e [a,b,c] 3) emp c49L0b c49L0 c49L1b
def c49L2b:=(λe a b c d=>cV<|CoU X49 e [a,b,c,d] 4) emp c49L0b c49L0 c49L1b c49L1
def c49L2:=(λe a b c d g=>cV<|CoU X49 e [a,b,c,d,g] 5) emp c49L0b c49L0 c49L1b c49L1 c49L2b
def c49L3b:=(λe a b c d g h=>cV<|CoU X49 e [a,b,c,d,g,h] 6) emp c49L0b c49L0 c49L1b c49L1 c49L2b c49L2
def c49L3:=(λe a b c d g h i=>cV<|CoU X49 e [a,b,c,d,g,h,i] 7) emp c49L0b c49L0 c49L1b c49L1 c49L2b c49L2 c49L3b
def c49L4b:=(λe a b c d g h i j=>cV<|CoU X49 e [a,b,c,d,g,h,i,j] 8) emp c49L0b c49L0 c49L1b c49L1 c49L2b c49L2 c49L3b c49L3
def c49L4:=(λe a b c d g h i j k=>cV<|CoU X49 e [a,b,c,d,g,h,i,j,k] 9) emp c49L0b c49L0 c49L1b c49L1 c49L2b c49L2 c49L3b c49L3 c49L4b
def c49:=(λe a b c d g h i j k l=>cV<|CoU X49 e [a,b,c,d,g,h,i,j,k,l] 10) emp c49L0b c49L0 c49L1b c49L1 c49L2b c49L2 c49L3b c49L3 c49L4b c49L4
def X50(e)(N):=cV<|CoX e [] [(705,1),(805,1)] f50 N
def c50L0b:=(λe=>cV<|CoU X50 e [] 0) emp
def c50L0:=(λe a=>cV<|CoU X50 e [a] 1) emp c50L0b
def c50L1b:=(λe a b=>cV<|CoU X50 e [a,b] 2) emp c50L0b c50L0
def c50L1:=(λe a b c=>cV<|CoU X50 e [a,b,c] 3) emp c50L0b c50L0 c50L1b
def c50:=(λe a b c d=>cV<|CoU X50 e [a,b,c,d] 4) emp c50L0b c50L0 c50L1b c50L1
def c51:=(λe=>cV<|CoW [] f51 e) emp
def c52:=(λe=>cV<|CoW [] f52 e) emp
def c53:=(λe s0=>cV<|coY (CoX e [(376,s0)] [(104,2)] f53) [] 0) emp (B [120])
def c54:=(λe=>cV<|CoW [(2413,1)] f54 e) emp
def X55(e)(N):=cV<|CoX e [] [(105,1)] f55 N
def c55L0b:=(λe=>cV<|CoU X55 e [] 0) emp
def c55L0:=(λe a=>cV<|CoU X55 e [a] 1) emp c55L0b
def c55L1b:=(λe a b=>cV<|CoU X55 e [a,b] 2) emp c55L0b c55L0
def c55L1:=(λe a b c=>cV<|CoU X55 e [a,b,c] 3) emp c55L0b c55L0 c55L1b
def c55:=(λe a b c d=>cV<|CoU X55 e [a,b,c,d] 4) emp c55L0b c55L0 c55L1b c55L1
def c56:=(λe=>cV<|CoW [] f56 e) emp
def c57:=(λe=>cV<|CoW [] f57 e) emp
def X58(e)(N):=cV<|CoX e [] [] f58 N
def c58L0b:=(λe=>cV<|CoU X58 e [] 0) emp
def c58L0:=(λe a=>cV<|CoU X58 e [a] 1) emp c58L0b
def c58:=(λe a b=>cV<|CoU X58 e [a,b] 2) emp c58L0b c58L0
def X59(e)(N):=cV<|CoX e [] [] f59 N
def c59L0b:=(λe=>cV<|CoU X59 e [] 0) emp
def c59L0:=(λe a=>cV<|CoU X59 e [a] 1) emp c59L0b
def c59:=(λe a b=>cV<|CoU X59 e [a,b] 2) emp c59L0b c59L0
def X60(e)(N):=cV<|CoX e [] [(1,1),(601,1),(1005,1)] f60 N
def c60L0b:=(λe=>cV<|CoU X60 e [] 0) emp
def c60L0:=(λe a=>cV<|CoU X60 e [a] 1) emp c60L0b
def c60:=(λe a b=>cV<|CoU X60 e [a,b] 2) emp c60L0b c60L0
def c61:=(λe=>cV<|CoW [(1,1),(605,1),(1400,2)] f61 e) emp
def c62:=(λe=>cV<|CoW [(302,1)] f62 e) emp
def c63:=(λe=>cV<|CoW [(528,1)] f63 e) emp
def c64:=(λe=>cV<|CoW [(323,1)] f64 e) emp
def c65:=(λe=>cV<|CoW [] f65 e) emp
def c66:=(λe=>cV<|CoW [(618,1),(619,1)] f66 e) emp
def c67:=(λe=>cV<|CoW [(323,1)] f67 e) emp
def c68:=(λe=>cV<|CoW [(827,1)] f68 e) emp
def c69:=(λe=>cV<|CoW [(829,1)] f69 e) emp
def X70(e)(N):=cV<|CoX e [] [(1002,1)] f70 N
def c70L0b:=(λe=>cV<|CoU X70 e [] 0) emp
def c70L0:=(λe a=>cV<|CoU X70 e [a] 1) emp c70L0b
def c70:=(λe a b=>cV<|CoU X70 e [a,b] 2) emp c70L0b c70L0
def X71(e)(N):=cV<|CoX e [] [(100,1),(402,1),(1408,1),(1702,1),(1812,1),(2002,2),(2003,1)] f71 N
def c71L0b:=(λe=>cV<|CoU X71 e [] 0) emp
def c71L0:=(λe a=>cV<|CoU X71 e [a] 1) emp c71L0b
def c71L1b:=(λe a b=>cV<|CoU X71 e [a,b] 2) emp c71L0b c71L0
def c71L1:=(λe a b c=>cV<|CoU X71 e [a,b,c] 3) emp c71L0b c71L0 c71L1b
def c71:=(λe a b c d=>cV<|CoU X71 e [a,b,c,d] 4) emp c71L0b c71L0 c71L1b c71L1
def X72(e)(N):=cV<|CoX e [] [(300,1),(1110,1),(1508,1),(1921,1),(2308,1)] f72 N
def c72L0b:=(λe=>cV<|CoU X72 e [] 0) emp
def c72L0:=(λe a=>cV<|CoU X72 e [a] 1) emp c72L0b
def c72L1b:=(λe a b=>cV<|CoU X72 e [a,b] 2) emp c72L0b c72L0
def c72L1:=(λe a b c=>cV<|CoU X72 e [a,b,c] 3) emp c72L0b c72L0 c72L1b
def c72L2b:=(λe a b c d=>cV<|CoU X72 e [a,b,c,d] 4) emp c72L0b c72L0 c72L1b c72L1
def c72L2:=(λe a b c d g=>cV<|CoU X72 e [a,b,c,d,g] 5) emp c72L0b c72L0 c72L1b c72L1 c72L2b
def c72:=(λe a b c d g h=>cV<|CoU X72 e [a,b,c,d,g,h] 6) emp c72L0b c72L0 c72L1b c72L1 c72L2b c72L2
def X73(e)(N):=cV<|CoX e [] [(903,1),(1102,1)] f73 N
def c73L0b:=(λe=>cV<|CoU X73 e [] 0) emp
def c73L0:=(λe a=>cV<|CoU X73 e [a] 1) emp c73L0b
def c73:=(λe a b=>cV<|CoU X73 e [a,b] 2) emp c73L0b c73L0
def c74:=(λe=>cV<|CoW [(105,1),(1402,1)] f74 e) emp
def X75(e)(N):=cV<|CoX e [] [(819,1)] f75 N
def c75L0b:=(λe=>cV<|CoU X75 e [] 0) emp
def c75L0:=(λe a=>cV<|CoU X75 e [a] 1) emp c75L0b
def c75:=(λe a b=>cV<|CoU X75 e [a,b] 2) emp c75L0b c75L0
def c76:=(λe=>cV<|CoW [(119,1)] f76 e) emp
def c77:=(λe=>cV<|CoW [(317,1)] f77 e) emp
def c78:=(λe=>cV<|CoW [(100,2)] f78 e) emp
def c79:=(λe=>cV<|CoW [] f79 e) emp
def X80(e)(N):=cV<|CoX e [] [(100,1),(402,1)] f80 N
def c80L0b:=(λe=>cV<|CoU X80 e [] 0) emp
def c80L0:=(λe a=>cV<|CoU X80 e [a] 1) emp c80L0b
def c80:=(λe a b=>cV<|CoU X80 e [a,b] 2) emp c80L0b c80L0
def c81:=(λe=>cV<|CoW [] f81 e) emp
def c82:=(λe=>cV<|CoW [(100,2)] f82 e) emp
def c83:=(λe=>cV<|CoW [] f83 e) emp
def c84:=(λe=>cV<|CoW [] f84 e) emp
def c85:=(λe=>cV<|CoW [] f85 e) emp
def c89:=(λe=>cV<|CoW [] f89 e) emp
def X90(e)(N):=cV<|CoX e [] [(303,1),(400,1),(806,1)] f90 N
def c90L0b:=(λe=>cV<|CoU X90 e [] 0) emp
def c90L0:=(λe a=>cV<|CoU X90 e [a] 1) emp c90L0b
def c90:=(λe a b=>cV<|CoU X90 e [a,b] 2) emp c90L0b c90L0
def c91:=(λe=>cV<|CoW [] f91 e) emp
def c92:=(λe=>cV<|CoW [] f92 e) emp
def c93:=(λe=>cV<|CoW [] f93 e) emp
def c94:=(λe=>cV<|CoW [(102,1)] f94 e) emp
def c95:=(λe=>cV<|CoW [] f95 e) emp
def c96:=(λe=>cV<|CoW [(102,1)] f96 e) emp
def c97:=(λe=>cV<|CoW [] f97 e) emp
def X98(e)(N):=cV<|CoX e [] [] f98 N
def c98L0b:=(λe=>cV<|CoU X98 e [] 0) emp
def c98L0:=(λe a=>cV<|CoU X98 e [a] 1) emp c98L0b
def c98:=(λe a b=>cV<|CoU X98 e [a,b] 2) emp c98L0b c98L0
def X99(e)(N):=cV<|CoX e [] [] f99 N
def c99L0b:=(λe=>cV<|CoU X99 e [] 0) emp
def c99L0:=(λe a=>cV<|CoU X99 e [a] 1) emp c99L0b
def c99:=(λe a b=>cV<|CoU X99 e [a,b] 2) emp c99L0b c99L0
def ZFk(e)(N):=cV<|CoX e [] [] f100 N
def c100L0b:=(λe=>cV<|CoU ZFk e [] 0) emp
def c100L0:=(λe a=>cV<|CoU ZFk e [a] 1) emp c100L0b
def c100:=(λe a b=>cV<|CoU ZFk e [a,b] 2) emp c100L0b c100L0
def ZPz(e)(N):=cV<|CoX e [] [] f101 N
def c101L0b:=(λe=>cV<|CoU ZPz e [] 0) emp
def c101L0:=(λe a=>cV<|CoU ZPz e [a] 1) emp c101L0b
def c101L1b:=(λe a b=>cV<|CoU ZPz e [a,b] 2) emp c101L0b c101L0
def c101L1:=(λe a b c=>cV<|CoU ZPz e [a,b,c] 3) emp c101L0b c101L0 c101L1b
def c101:=(λe a b c d=>cV<|CoU ZPz e [a,b,c,d] 4) emp c101L0b c101L0 c101L1b c101L1
def c102:=(λe=>cV<|CoW [(1,1),(107,1)] f102 e) emp
def Zxi(e)(N):=cV<|CoX e [] [] f103 N
def c103L0b:=(λe=>cV<|CoU Zxi e [] 0) emp
def c103L0:=(λe a=>cV<|CoU Zxi e [a] 1) emp c103L0b
def c103L1b:=(λe a b=>cV<|CoU Zxi e [a,b] 2) emp c103L0b c103L0
def c103L1:=(λe a b c=>cV<|CoU Zxi e [a,b,c] 3) emp c103L0b c103L0 c103L1b
def c103:=(λe a b c d=>cV<|CoU Zxi e [a,b,c,d] 4) emp c103L0b c103L0 c103L1b c103L1
def Zxj(e)(N):=cV<|CoX e [] [] f104 N
def c104L0b:=(λe=>cV<|CoU Zxj e [] 0) emp
def c104L0:=(λe a=>cV<|CoU Zxj e [a] 1) emp c104L0b
def c104:=(λe a b=>cV<|CoU Zxj e [a,b] 2) emp c104L0b c104L0
def ZPA(e)(N):=cV<|CoX e [] [] f105 N
def c105L0b:=(λe=>cV<|CoU ZPA e [] 0) emp
def c105L0:=(λe a=>cV<|CoU ZPA e [a] 1) emp c105L0b
def c105L1b:=(λe a b=>cV<|CoU ZPA e [a,b] 2) emp c105L0b c105L0
def c105L1:=(λe a b c=>cV<|CoU ZPA e [a,b,c] 3) emp c105L0b c105L0 c105L1b
def c105:=(λe a b c d=>cV<|CoU ZPA e [a,b,c,d] 4) emp c105L0b c105L0 c105L1b c105L1
def ZPB(e)(N):=cV<|CoX e [] [] f106 N
def c106L0b:=(λe=>cV<|CoU ZPB e [] 0) emp
def c106L0:=(λe a=>cV<|CoU ZPB e [a] 1) emp c106L0b
def c106L1b:=(λe a b=>cV<|CoU ZPB e [a,b] 2) emp c106L0b c106L0
def c106L1:=(λe a b c=>cV<|CoU ZPB e [a,b,c] 3) emp c106L0b c106L0 c106L1b
def c106:=(λe a b c d=>cV<|CoU ZPB e [a,b,c,d] 4) emp c106L0b c106L0 c106L1b c106L1
def c107:=(λe s0 s1=>cV<|coY (CoX e [(353,s0),(378,s1)] [] f107) [] 0) emp (B [97]) (B [122])
def c108:=(λe=>cV<|CoW [] f108 e) emp
def ZQK(e)(N):=cV<|CoX e [] [] f109 N
def c109L0b:=(λe=>cV<|CoU ZQK e [] 0) emp
def c109L0:=(λe a=>cV<|CoU ZQK e [a] 1) emp c109L0b
def c109:=(λe a b=>cV<|CoU ZQK e [a,b] 2) emp c109L0b c109L0
def ZPC(e)(N):=cV<|CoX e [] [(100,1),(1500,2)] f110 N
def c110L0b:=(λe=>cV<|CoU ZPC e [] 0) emp
def c110L0:=(λe a=>cV<|CoU ZPC e [a] 1) emp c110L0b
def c110L1b:=(λe a b=>cV<|CoU ZPC e [a,b] 2) emp c110L0b c110L0
def c110L1:=(λe a b c=>cV<|CoU ZPC e [a,b,c] 3) emp c110L0b c110L0 c110L1b
def c110:=(λe a b c d=>cV<|CoU ZPC e [a,b,c,d] 4) emp c110L0b c110L0 c110L1b c110L1
def c111:=(λe=>cV<|CoW [] f111 e) emp
def ZLB(e)(N):=cV<|CoX e [] [] f112 N
def c112L0b:=(λe=>cV<|CoU ZLB e [] 0) emp
def c112L0:=(λe a=>cV<|CoU ZLB e [a] 1) emp c112L0b
def c112:=(λe a b=>cV<|CoU ZLB e [a,b] 2) emp c112L0b c112L0
def ZQL(e)(N):=cV<|CoX e [] [] f113 N
def c113L0b:=(λe=>cV<|CoU ZQL e [] 0) emp
def c113L0:=(λe a=>cV<|CoU ZQL e [a] 1) emp c113L0b
def c113:=(λe a b=>cV<|CoU ZQL e [a,b] 2) emp c113L0b c113L0
def ZQM(e)(N):=cV<|CoX e [] [] f114 N
def c114L0b:=(λe=>cV<|CoU ZQM e [] 0) emp
def c114L0:=(λe a=>cV<|CoU ZQM e [a] 1) emp c114L0b
def c114:=(λe a b=>cV<|CoU ZQM e [a,b] 2) emp c114L0b c114L0
def c115:=(λe=>cV<|CoW [] f115 e) emp
def c116:=(λe=>cV<|CoW [] f116 e) emp
def ZPD(e)(N):=cV<|CoX e [] [] f117 N
def c117L0b:=(λe=>cV<|CoU ZPD e [] 0) emp
def c117L0:=(λe a=>cV<|CoU ZPD e [a] 1) emp c117L0b
def c117L1b:=(λe a b=>cV<|CoU ZPD e [a,b] 2) emp c117L0b c117L0
def c117L1:=(λe a b c=>cV<|CoU ZPD e [a,b,c] 3) emp c117L0b c117L0 c117L1b
def c117:=(λe a b c d=>cV<|CoU ZPD e [a,b,c,d] 4) emp c117L0b c117L0 c117L1b c117L1
def ZLC(e)(N):=cV<|CoX e [] [(100,1)] f118 N
def c118L0b:=(λe=>cV<|CoU ZLC e [] 0) emp
def c118L0:=(λe a=>cV<|CoU ZLC e [a] 1) emp c118L0b
def c118:=(λe a b=>cV<|CoU ZLC e [a,b] 2) emp c118L0b c118L0
def ZLD(e)(N):=cV<|CoX e [] [(100,1)] f119 N
def c119L0b:=(λe=>cV<|CoU ZLD e [] 0) emp
def c119L0:=(λe a=>cV<|CoU ZLD e [a] 1) emp c119L0b
def c119:=(λe a b=>cV<|CoU ZLD e [a,b] 2) emp c119L0b c119L0
def ZLE(e)(N):=cV<|CoX e [] [(100,1)] f120 N
def c120L0b:=(λe=>cV<|CoU ZLE e [] 0) emp
def c120L0:=(λe a=>cV<|CoU ZLE e [a] 1) emp c120L0b
def c120:=(λe a b=>cV<|CoU ZLE e [a,b] 2) emp c120L0b c120L0
def c121:=(λe=>cV<|CoW [(604,2)] f121 e) emp
def c122:=(λe=>cV<|CoW [] f122 e) emp
def c123:=(λe=>cV<|CoW [(0,1),(1,1),(102,1)] f123 e) emp
def c124:=(λe=>cV<|CoW [(0,1),(100,1)] f124 e) emp
def c125:=(λe=>cV<|CoW [] f125 e) emp
def c126:=(λe=>cV<|CoW [] f126 e) emp
def c127:=(λe=>cV<|CoW [] f127 e) emp
def c128:=(λe=>cV<|CoW [(100,2),(101,1),(204,1)] f128 e) emp
def c129:=(λe=>cV<|CoW [] f129 e) emp
def c130:=(λe=>cV<|CoW [] f130 e) emp
def c131:=(λe=>cV<|CoW [] f131 e) emp
def c132:=(λe=>cV<|CoW [(100,2),(101,1),(204,1)] f132 e) emp
def c133:=(λe=>cV<|CoW [] f133 e) emp
def c134:=(λe=>cV<|CoW [] f134 e) emp
def c135:=(λe=>cV<|CoW [] f135 e) emp
def c136:=(λe=>cV<|CoW [] f136 e) emp
def c137:=(λe=>cV<|CoW [(0,1),(209,1)] f137 e) emp
def c138:=(λe=>cV<|CoW [] f138 e) emp
def c139:=(λe=>cV<|CoW [] f139 e) emp
def c140:=(λe=>cV<|CoW [(100,2)] f140 e) emp
def c141:=(λe=>cV<|CoW [(114,1)] f141 e) emp
def c142:=(λe=>cV<|CoW [(100,2),(101,1),(204,1)] f142 e) emp
def c143:=(λe=>cV<|CoW [] f143 e) emp
def ZQN(e)(N):=cV<|CoX e [] [(503,1)] f144 N
def c144L0b:=(λe=>cV<|CoU ZQN e [] 0) emp
def c144L0:=(λe a=>cV<|CoU ZQN e [a] 1) emp c144L0b
def c144:=(λe a b=>cV<|CoU ZQN e [a,b] 2) emp c144L0b c144L0
def c145:=(λe=>cV<|CoW [(100,2)] f145 e) emp
def c146:=(λe=>cV<|CoW [(100,2),(101,1),(204,1)] f146 e) emp
def c147:=(λe=>cV<|CoW [] f147 e) emp
def c148:=(λe=>cV<|CoW [] f148 e) emp
def c149:=(λe=>cV<|CoW [(100,2)] f149 e) emp
def c150:=(λe=>cV<|CoW [] f150 e) emp
def c151:=(λe=>cV<|CoW [] f151 e) emp
def c152:=(λe=>cV<|CoW [] f152 e) emp
def c153:=(λe=>cV<|CoW [(100,2),(101,1),(204,1)] f153 e) emp
def c154:=(λe=>cV<|CoW [] f154 e) emp
def c155:=(λe=>cV<|CoW [] f155 e) emp
def ZQO(e)(N):=cV<|CoX e [] [] f156 N
def c156L0b:=(λe=>cV<|CoU ZQO e [] 0) emp
def c156L0:=(λe a=>cV<|CoU ZQO e [a] 1) emp c156L0b
def c156:=(λe a b=>cV<|CoU ZQO e [a,b] 2) emp c156L0b c156L0
def ZQP(e)(N):=cV<|CoX e [] [(399,101),(300,1),(400,1),(500,2),(502,1),(600,1),(1101,1)] f157 N
def c157R0a:=(λe=>cV<|CoU ZQP e [] 0) emp
def c157R0b:=(λe a=>cV<|CoU ZQP e [a] 1) emp c157R0a
def c157:=(λe a b=>cV<|CoU ZQP e [a,b] 2) emp c157R0a c157R0b
def c158:=(λe=>cV<|CoW [(100,2)] f158 e) emp
def c159:=(λe=>cV<|CoW [] f159 e) emp
def c160:=(λe=>cV<|CoW [(100,2)] f160 e) emp
def c161:=(λe=>cV<|CoW [] f161 e) emp
def c164:=(λe=>cV<|CoW [(100,2)] f164 e) emp
def c165:=(λe=>cV<|CoW [] f165 e) emp
def c166:=(λe s0 s1 s2 s3 s4 s5 s6 s7 s8=>cV<|coY (CoX e [(233606820031262824291793228925311306333649869794303002079163341563213949795593257878683467579756910891606622701420032317479258,s0),(1436506918544312769132601,s1),(351,s2),(18876682,s3),(291,s4),(290,s5),(289,s6),(80958,s7),(24970544417651213645683474901805,s8)] [(0,1),(100,1),(301,1),(401,1),(501,1),(601,1),(701,1),(801,1),(901,1),(1001,1),(1101,1)] f166) [] 0) emp (B [97,98,99,100,101,102,103,104,105,106,107,108,109,110,111,112,113,114,115,116,117,118,119,120,121,122,65,66,67,68,69,70,71,72,73,74,75,76,77,78,79,80,81,82,83,84,85,86,87,88,89,90]) (B [48,49,50,51,52,53,54,55,56,57]) (B [95]) (B [32,9,10]) (B [35]) (B [34]) (B [33]) (B [60,62]) (B [59,44,46,58,40,41,91,93,123,125,61,43,45])
def ZLJ(e)(N):=cV<|CoX e [] [] f167 N
def c167L0b:=(λe=>cV<|CoU ZLJ e [] 0) emp
def c167L0:=(λe a=>cV<|CoU ZLJ e [a] 1) emp c167L0b
def c167:=(λe a b=>cV<|CoU ZLJ e [a,b] 2) emp c167L0b c167L0
def c168:=(λe s0 s1=>cV<|coY (CoX e [(74250,s0),(317,s1)] [(0,1)] f168) [] 0) emp (B [34,10]) (B [61])
def ZLK(e)(N):=cV<|CoX e [] [(101,1),(411,1),(502,1),(603,1),(1103,3)] f169 N
def c169L0b:=(λe=>cV<|CoU ZLK e [] 0) emp
def c169L0:=(λe a=>cV<|CoU ZLK e [a] 1) emp c169L0b
def c169L1b:=(λe a b=>cV<|CoU ZLK e [a,b] 2) emp c169L0b c169L0
def c169L1:=(λe a b c=>cV<|CoU ZLK e [a,b,c] 3) emp c169L0b c169L0 c169L1b
def c169:=(λe a b c d=>cV<|CoU ZLK e [a,b,c,d] 4) emp c169L0b c169L0 c169L1b c169L1
def c171:=(λe=>cV<|CoW [] f171 e) emp
def c172:=(λe=>cV<|CoW [] f172 e) emp
def c174:=(λe=>cV<|CoW [] f174 e) emp
def ZLL(e)(N):=cV<|CoX e [] [] f175 N
def c175L0b:=(λe=>cV<|CoU ZLL e [] 0) emp
def c175L0:=(λe a=>cV<|CoU ZLL e [a] 1) emp c175L0b
def c175:=(λe a b=>cV<|CoU ZLL e [a,b] 2) emp c175L0b c175L0
def ZQQ(e)(N):=cV<|CoX e [] [] f176 N
def c176L0b:=(λe=>cV<|CoU ZQQ e [] 0) emp
def c176L0:=(λe a=>cV<|CoU ZQQ e [a] 1) emp c176L0b
def c176:=(λe a b=>cV<|CoU ZQQ e [a,b] 2) emp c176L0b c176L0
def ZFr(e)(N):=cV<|CoX e [] [] f177 N
def c177L0b:=(λe=>cV<|CoU ZFr e [] 0) emp
def c177L0:=(λe a=>cV<|CoU ZFr e [a] 1) emp c177L0b
def c177:=(λe a b=>cV<|CoU ZFr e [a,b] 2) emp c177L0b c177L0
def ZQR(e)(N):=cV<|CoX e [] [(504,1),(603,1)] f178 N
def c178L0b:=(λe=>cV<|CoU ZQR e [] 0) emp
def c178L0:=(λe a=>cV<|CoU ZQR e [a] 1) emp c178L0b
def c178:=(λe a b=>cV<|CoU ZQR e [a,b] 2) emp c178L0b c178L0
def c179:=(λe=>cV<|CoW [] f179 e) emp
def c180:=(λe=>cV<|CoW [] f180 e) emp
def c181:=(λe=>cV<|CoW [(0,1)] f181 e) emp
def c182:=(λe=>cV<|CoW [] f182 e) emp
def ZQS(e)(N):=cV<|CoX e [] [] f183 N
def c183L0b:=(λe=>cV<|CoU ZQS e [] 0) emp
def c183L0:=(λe a=>cV<|CoU ZQS e [a] 1) emp c183L0b
def c183:=(λe a b=>cV<|CoU ZQS e [a,b] 2) emp c183L0b c183L0
def c184:=(λe=>cV<|CoW [] f184 e) emp
def c185:=(λe=>cV<|CoW [(300,2)] f185 e) emp
def Zxr(e)(N):=cV<|CoX e [] [(600,2)] f186 N
def c186L0b:=(λe=>cV<|CoU Zxr e [] 0) emp
def c186L0:=(λe a=>cV<|CoU Zxr e [a] 1) emp c186L0b
def c186:=(λe a b=>cV<|CoU Zxr e [a,b] 2) emp c186L0b c186L0
def c187:=(λe=>cV<|CoW [(100,2)] f187 e) emp
def c188:=(λe=>cV<|CoW [] f188 e) emp
def c189:=(λe=>cV<|CoW [] f189 e) emp
def c190:=(λe=>cV<|CoW [] f190 e) emp
def c191:=(λe=>cV<|CoW [] f191 e) emp
def c192:=(λe=>cV<|CoW [] f192 e) emp
def c193:=(λe=>cV<|CoW [(219,2)] f193 e) emp
def c194:=(λe=>cV<|CoW [] f194 e) emp
def ZQT(e)(N):=cV<|CoX e [] [(303,1)] f195 N
def c195L0b:=(λe=>cV<|CoU ZQT e [] 0) emp
def c195L0:=(λe a=>cV<|CoU ZQT e [a] 1) emp c195L0b
def c195:=(λe a b=>cV<|CoU ZQT e [a,b] 2) emp c195L0b c195L0
def c196:=(λe=>cV<|CoW [] f196 e) emp
def ZFs(e)(N):=cV<|CoX e [] [(100,1),(402,1),(1004,2)] f197 N
def c197L0b:=(λe=>cV<|CoU ZFs e [] 0) emp
def c197L0:=(λe a=>cV<|CoU ZFs e [a] 1) emp c197L0b
def c197:=(λe a b=>cV<|CoU ZFs e [a,b] 2) emp c197L0b c197L0
def c198:=(λe=>cV<|CoW [] f198 e) emp
def c199:=(λe=>cV<|CoW [(103,2)] f199 e) emp
def c200:=(λe=>cV<|CoW [] f200 e) emp
def c201:=(λe=>cV<|CoW [] f201 e) emp
def c202:=(λe=>cV<|CoW [] f202 e) emp
def c203:=(λe=>cV<|CoW [] f203 e) emp
def c204:=(λe=>cV<|CoW [] f204 e) emp
def c205:=(λe=>cV<|CoW [] f205 e) emp
def c206:=(λe=>cV<|CoW [(112,2)] f206 e) emp
def ZQU(e)(N):=cV<|CoX e [] [(100,1),(402,1),(900,2),(903,2)] f207 N
def c207L0b:=(λe=>cV<|CoU ZQU e [] 0) emp
def c207L0:=(λe a=>cV<|CoU ZQU e [a] 1) emp c207L0b
def c207:=(λe a b=>cV<|CoU ZQU e [a,b] 2) emp c207L0b c207L0
def c208:=(λe=>cV<|CoW [(100,2)] f208 e) emp
def c209:=(λe=>cV<|CoW [(109,1)] f209 e) emp
def c210:=(λe=>cV<|CoW [(107,1)] f210 e) emp
def c211:=(λe=>cV<|CoW [] f211 e) emp
def c212:=(λe=>cV<|CoW [] f212 e) emp
def c213:=(λe=>cV<|CoW [(100,2)] f213 e) emp
def c214:=(λe=>cV<|CoW [] f214 e) emp
def c215:=(λe=>cV<|CoW [(100,2)] f215 e) emp
def c218:=(λe=>cV<|CoW [] f218 e) emp
def Zwj(e)(N):=cV<|CoX e [] [] f219 N
def c219L0b:=(λe=>cV<|CoU Zwj e [] 0) emp
def c219L0:=(λe a=>cV<|CoU Zwj e [a] 1) emp c219L0b
def c219:=(λe a b=>cV<|CoU Zwj e [a,b] 2) emp c219L0b c219L0
def c221:=(λe=>cV<|CoW [] f221 e) emp
def c222:=(λe=>cV<|CoW [] f222 e) emp
def ZQV(e)(N):=cV<|CoX e [] [] f223 N
def c223L0b:=(λe=>cV<|CoU ZQV e [] 0) emp
def c223L0:=(λe a=>cV<|CoU ZQV e [a] 1) emp c223L0b
def c223:=(λe a b=>cV<|CoU ZQV e [a,b] 2) emp c223L0b c223L0
def c225:=(λe=>cV<|CoW [(100,2)] f225 e) emp
def c226:=(λe=>cV<|CoW [] f226 e) emp
def ZQW(e)(N):=cV<|CoX e [] [(402,1)] f228 N
def c228L0b:=(λe=>cV<|CoU ZQW e [] 0) emp
def c228L0:=(λe a=>cV<|CoU ZQW e [a] 1) emp c228L0b
def c228:=(λe a b=>cV<|CoU ZQW e [a,b] 2) emp c228L0b c228L0
def c229:=(λe=>cV<|CoW [] f229 e) emp
def c230:=(λe=>cV<|CoW [] f230 e) emp
def c231:=(λe=>cV<|CoW [(108,1),(200,2),(400,2)] f231 e) emp
def ZxD(e)(N):=cV<|CoX e [] [] f232 N
def c232L0b:=(λe=>cV<|CoU ZxD e [] 0) emp
def c232L0:=(λe a=>cV<|CoU ZxD e [a] 1) emp c232L0b
def c232:=(λe a b=>cV<|CoU ZxD e [a,b] 2) emp c232L0b c232L0
def ZFB(e)(N):=cV<|CoX e [] [] f233 N
def c233L0b:=(λe=>cV<|CoU ZFB e [] 0) emp
def c233L0:=(λe a=>cV<|CoU ZFB e [a] 1) emp c233L0b
def c233:=(λe a b=>cV<|CoU ZFB e [a,b] 2) emp c233L0b c233L0
def ZxG(e)(N):=cV<|CoX e [] [] f245 N
def c245L0b:=(λe=>cV<|CoU ZxG e [] 0) emp
def c245L0:=(λe a=>cV<|CoU ZxG e [a] 1) emp c245L0b
def c245:=(λe a b=>cV<|CoU ZxG e [a,b] 2) emp c245L0b c245L0
def ZFD(e)(N):=cV<|CoX e [] [] f246 N
def c246L0b:=(λe=>cV<|CoU ZFD e [] 0) emp
def c246L0:=(λe a=>cV<|CoU ZFD e [a] 1) emp c246L0b
def c246:=(λe a b=>cV<|CoU ZFD e [a,b] 2) emp c246L0b c246L0
def ZxH(e)(N):=cV<|CoX e [] [] f247 N
def c247L0b:=(λe=>cV<|CoU ZxH e [] 0) emp
def c247L0:=(λe a=>cV<|CoU ZxH e [a] 1) emp c247L0b
def c247:=(λe a b=>cV<|CoU ZxH e [a,b] 2) emp c247L0b c247L0
def c248:=(λe=>cV<|CoW [] f248 e) emp
def c252:=(λe=>cV<|CoW [] f252 e) emp
def c254:=(λe=>cV<|CoW [] f254 e) emp
def c256:=(λe=>cV<|CoW [] f256 e) emp
def c257:=(λe=>cV<|CoW [] f257 e) emp
def c258:=(λe=>cV<|CoW [] f258 e) emp
def ZPE(e)(N):=cV<|CoX e [] [] f259 N
def c259L0b:=(λe=>cV<|CoU ZPE e [] 0) emp
def c259L0:=(λe a=>cV<|CoU ZPE e [a] 1) emp c259L0b
def c259L1b:=(λe a b=>cV<|CoU ZPE e [a,b] 2) emp c259L0b c259L0
def c259L1:=(λe a b c=>cV<|CoU ZPE e [a,b,c] 3) emp c259L0b c259L0 c259L1b
def c259:=(λe a b c d=>cV<|CoU ZPE e [a,b,c,d] 4) emp c259L0b c259L0 c259L1b c259L1
def c260:=(λe=>cV<|CoW [] f260 e) emp
def c261:=(λe=>cV<|CoW [(300,2)] f261 e) emp
def c262:=(λe=>cV<|CoW [(100,2)] f262 e) emp
def c263:=(λe=>cV<|CoW [] f263 e) emp
def ZQX(e)(N):=cV<|CoX e [] [(100,1),(200,2),(201,1),(300,1),(400,1)] f264 N
def c264R0a:=(λe=>cV<|CoU ZQX e [] 0) emp
def c264R0b:=(λe a=>cV<|CoU ZQX e [a] 1) emp c264R0a
def c264:=(λe a b=>cV<|CoU ZQX e [a,b] 2) emp c264R0a c264R0b
def ZPF(e)(N):=cV<|CoX e [] [(511,1),(512,1)] f265 N
def c265L0b:=(λe=>cV<|CoU ZPF e [] 0) emp
def c265L0:=(λe a=>cV<|CoU ZPF e [a] 1) emp c265L0b
def c265L1b:=(λe a b=>cV<|CoU ZPF e [a,b] 2) emp c265L0b c265L0
def c265L1:=(λe a b c=>cV<|CoU ZPF e [a,b,c] 3) emp c265L0b c265L0 c265L1b
def c265:=(λe a b c d=>cV<|CoU ZPF e [a,b,c,d] 4) emp c265L0b c265L0 c265L1b c265L1
def c266:=(λe s0=>cV<|coY (CoX e [(288,s0)] [] f266) [] 0) emp (B [32])
def ZxM(e)(N):=cV<|CoX e [] [(402,1)] f267 N
def c267L0b:=(λe=>cV<|CoU ZxM e [] 0) emp
def c267L0:=(λe a=>cV<|CoU ZxM e [a] 1) emp c267L0b
def c267:=(λe a b=>cV<|CoU ZxM e [a,b] 2) emp c267L0b c267L0
def ZxN(e)(N):=cV<|CoX e [] [] f268 N
def c268L0b:=(λe=>cV<|CoU ZxN e [] 0) emp
def c268L0:=(λe a=>cV<|CoU ZxN e [a] 1) emp c268L0b
def c268:=(λe a b=>cV<|CoU ZxN e [a,b] 2) emp c268L0b c268L0
def c269:=(λe=>cV<|CoW [(100,2)] f269 e) emp
def c270:=(λe=>cV<|CoW [] f270 e) emp
def c271:=(λe=>cV<|CoW [] f271 e) emp
def ZQY(e)(N):=cV<|CoX e [] [(302,1)] f272 N
def c272L0b:=(λe=>cV<|CoU ZQY e [] 0) emp
def c272L0:=(λe a=>cV<|CoU ZQY e [a] 1) emp c272L0b
def c272:=(λe a b=>cV<|CoU ZQY e [a,b] 2) emp c272L0b c272L0
def c273:=(λe=>cV<|CoW [] f273 e) emp
def c274:=(λe=>cV<|CoW [] f274 e) emp
def ZQZ(e)(N):=cV<|CoX e [] [(402,1)] f275 N
def c275L0b:=(λe=>cV<|CoU ZQZ e [] 0) emp
def c275L0:=(λe a=>cV<|CoU ZQZ e [a] 1) emp c275L0b
def c275:=(λe a b=>cV<|CoU ZQZ e [a,b] 2) emp c275L0b c275L0
def c276:=(λe=>cV<|CoW [] f276 e) emp
def c277:=(λe=>cV<|CoW [] f277 e) emp
def ZR0(e)(N):=cV<|CoX e [] [] f278 N
def c278L0b:=(λe=>cV<|CoU ZR0 e [] 0) emp
def c278L0:=(λe a=>cV<|CoU ZR0 e [a] 1) emp c278L0b
def c278:=(λe a b=>cV<|CoU ZR0 e [a,b] 2) emp c278L0b c278L0
def ZR1(e)(N):=cV<|CoX e [] [] f279 N
def c279L0b:=(λe=>cV<|CoU ZR1 e [] 0) emp
def c279L0:=(λe a=>cV<|CoU ZR1 e [a] 1) emp c279L0b
def c279:=(λe a b=>cV<|CoU ZR1 e [a,b] 2) emp c279L0b c279L0
def ZR2(e)(N):=cV<|CoX e [] [] f280 N
def c280L0b:=(λe=>cV<|CoU ZR2 e [] 0) emp
def c280L0:=(λe a=>cV<|CoU ZR2 e [a] 1) emp c280L0b
def c280:=(λe a b=>cV<|CoU ZR2 e [a,b] 2) emp c280L0b c280L0
def c281:=(λe=>cV<|CoW [] f281 e) emp
def ZR3(e)(N):=cV<|CoX e [] [(202,1),(307,1)] f282 N
def c282L0b:=(λe=>cV<|CoU ZR3 e [] 0) emp
def c282L0:=(λe a=>cV<|CoU ZR3 e [a] 1) emp c282L0b
def c282:=(λe a b=>cV<|CoU ZR3 e [a,b] 2) emp c282L0b c282L0
def c283:=(λe=>cV<|CoW [(100,2)] f283 e) emp
def c284:=(λe=>cV<|CoW [(100,2)] f284 e) emp
def c297:=(λe=>cV<|CoW [] f297 e) emp
def ZR4(e)(N):=cV<|CoX e [] [(505,1),(604,1)] f314 N
def c314L0b:=(λe=>cV<|CoU ZR4 e [] 0) emp
def c314L0:=(λe a=>cV<|CoU ZR4 e [a] 1) emp c314L0b
def c314:=(λe a b=>cV<|CoU ZR4 e [a,b] 2) emp c314L0b c314L0
def c315:=(λe=>cV<|CoW [(1,1)] f315 e) emp
def ZR5(e)(N):=cV<|CoX e [] [] f316 N
def c316L0b:=(λe=>cV<|CoU ZR5 e [] 0) emp
def c316L0:=(λe a=>cV<|CoU ZR5 e [a] 1) emp c316L0b
def c316:=(λe a b=>cV<|CoU ZR5 e [a,b] 2) emp c316L0b c316L0
def c317:=(λe=>cV<|CoW [] f317 e) emp
def c318:=(λe=>cV<|CoW [] f318 e) emp
def c319:=(λe=>cV<|CoW [(106,1),(107,1)] f319 e) emp
def c321:=(λe=>cV<|CoW [] f321 e) emp
def ZR6(e)(N):=cV<|CoX e [] [] f322 N
def c322L0b:=(λe=>cV<|CoU ZR6 e [] 0) emp
def c322L0:=(λe a=>cV<|CoU ZR6 e [a] 1) emp c322L0b
def c322:=(λe a b=>cV<|CoU ZR6 e [a,b] 2) emp c322L0b c322L0
def c323:=(λe=>cV<|CoW [(0,1)] f323 e) emp
def c324:=(λe=>cV<|CoW [] f324 e) emp
def ZR7(e)(N):=cV<|CoX e [] [(1,1),(2,1),(100,2),(101,1),(200,1),(300,1)] f325 N
def c325R0a:=(λe=>cV<|CoU ZR7 e [] 0) emp
def c325R0b:=(λe a=>cV<|CoU ZR7 e [a] 1) emp c325R0a
def c325:=(λe a b=>cV<|CoU ZR7 e [a,b] 2) emp c325R0a c325R0b
def ZR8(e)(N):=cV<|CoX e [] [(203,1),(310,1)] f342 N
def c342L0b:=(λe=>cV<|CoU ZR8 e [] 0) emp
def c342L0:=(λe a=>cV<|CoU ZR8 e [a] 1) emp c342L0b
def c342:=(λe a b=>cV<|CoU ZR8 e [a,b] 2) emp c342L0b c342L0
def ZR9(e)(N):=cV<|CoX e [] [(302,1)] f343 N
def c343L0b:=(λe=>cV<|CoU ZR9 e [] 0) emp
def c343L0:=(λe a=>cV<|CoU ZR9 e [a] 1) emp c343L0b
def c343:=(λe a b=>cV<|CoU ZR9 e [a,b] 2) emp c343L0b c343L0
def c344:=(λe=>cV<|CoW [(2,1)] f344 e) emp
def c345:=(λe=>cV<|CoW [] f345 e) emp
def c346:=(λe=>cV<|CoW [(503,1)] f346 e) emp
def c347:=(λe=>cV<|CoW [] f347 e) emp
def ZRa(e)(N):=cV<|CoX e [] [] f349 N
def c349L0b:=(λe=>cV<|CoU ZRa e [] 0) emp
def c349L0:=(λe a=>cV<|CoU ZRa e [a] 1) emp c349L0b
def c349:=(λe a b=>cV<|CoU ZRa e [a,b] 2) emp c349L0b c349L0
def c356:=(λe=>cV<|CoW [(2,1)] f356 e) emp
def c357:=(λe=>cV<|CoW [] f357 e) emp
def c358:=(λe=>cV<|CoW [] f358 e) emp
def FN0:List (Nat×AFun):=[(3,⟨[.tmp 12],c3⟩),(4,⟨[.tmp 0],c4⟩),(5,⟨[.tmp 6],c5⟩),(6,⟨[.tmp 4],c6⟩),(7,⟨[.tmp 6,.tmp 7],c7⟩),(8,⟨[.tmp 6,.tmp 7],c8⟩),(9,⟨[.cell 6<|some 2,.tmp 7,.tmp 8],c9⟩),(10,⟨[.cell 6<|some 2,.tmp 7,.tmp 8],c10⟩),(11,⟨[.tmp 4],c11⟩),(12,⟨[.tmp 4],c12⟩),(13,⟨[.tmp 4],c13⟩),(14,⟨[.cell 0<|some 7,.cell 1<|some 7],c14⟩),(15,⟨[.tmp 0],c15⟩),(16,⟨[.cell 4<|some 11,.tmp 5],c16⟩)]
def FN1:List (Nat×AFun):=[(17,⟨[.tmp 2],c17⟩),(18,⟨[.tmp 2],c18⟩),(19,⟨[.tmp 2],c19⟩),(20,⟨[.tmp 2],c20⟩),(21,⟨[],c21⟩),(22,⟨[.cell 4<|some 3],c22⟩),(23,⟨[.tmp 4],c23⟩),(24,⟨[.tmp 4],c24⟩),(25,⟨[.tmp 2],c25⟩),(26,⟨[.tmp 2],c26⟩),(27,⟨[.cell 4<|some 2,.tmp 5],c27⟩),(28,⟨[.tmp 4],c28⟩),(29,⟨[.tmp 4],c29⟩),(30,⟨[.cell 6<|some 7,.tmp 7],c30⟩)]
def FN2:List (Nat×AFun):=[(31,⟨[.tmp 4],c31⟩),(32,⟨[.cell 4<|some 11],c32⟩),(33,⟨[.tmp 2],c33⟩),(34,⟨[.tmp 2],c34⟩),(35,⟨[.tmp 6],c35⟩),(36,⟨[.tmp 2],c36⟩),(37,⟨[.tmp 4],c37⟩),(38,⟨[.tmp 4],c38⟩),(39,⟨[.tmp 2],c39⟩),(40,⟨[.tmp 2],c40⟩),(41,⟨[.tmp 2],c41⟩),(42,⟨[.tmp 2],c42⟩),(43,⟨[.tmp 2],c43⟩),(44,⟨[.cell 4<|some 2,.tmp 5],c44⟩)]
def FN3:List (Nat×AFun):=[(45,⟨[.tmp 4],c45⟩),(46,⟨[.tmp 4],c46⟩),(47,⟨[.tmp 4],c47⟩),(48,⟨[.tmp 2],c48⟩),(49,⟨[.tmp 2],c49⟩),(50,⟨[.tmp 2],c50⟩),(51,⟨[.tmp 2],c51⟩),(52,⟨[.tmp 4],c52⟩),(53,⟨[.tmp 2],c53⟩),(54,⟨[.tmp 2],c54⟩),(55,⟨[.tmp 4],c55⟩),(56,⟨[.tmp 4],c56⟩),(57,⟨[.tmp 2],c57⟩),(58,⟨[.tmp 4],c58⟩)]
def FN4:List (Nat×AFun):=[(59,⟨[.tmp 2],c59⟩),(60,⟨[.cell 4<|some 2,.tmp 5],c60⟩),(61,⟨[.cell 4<|some 11,.tmp 5],c61⟩),(62,⟨[.tmp 2],c62⟩),(63,⟨[.tmp 2],c63⟩),(64,⟨[.tmp 2],c64⟩),(65,⟨[.tmp 2],c65⟩),(66,⟨[.tmp 2],c66⟩),(67,⟨[.tmp 2],c67⟩),(68,⟨[.tmp 2],c68⟩),(69,⟨[.tmp 2],c69⟩),(70,⟨[.tmp 2],c70⟩),(71,⟨[.tmp 2],c71⟩),(72,⟨[.tmp 2],c72⟩)]
def FN5:List (Nat×AFun):=[(73,⟨[.tmp 2],c73⟩),(74,⟨[.tmp 2],c74⟩),(75,⟨[.tmp 2],c75⟩),(76,⟨[.tmp 2],c76⟩),(77,⟨[.tmp 2],c77⟩),(78,⟨[.tmp 4],c78⟩),(79,⟨[.tmp 3],c79⟩),(80,⟨[.tmp 2],c80⟩),(81,⟨[.tmp 4],c81⟩),(82,⟨[.tmp 6,.tmp 7],c82⟩),(83,⟨[.tmp 6],c83⟩),(84,⟨[.tmp 4],c84⟩),(85,⟨[.tmp 4],c85⟩),(89,⟨[.tmp 4],c89⟩)]
def FN6:List (Nat×AFun):=[(90,⟨[.tmp 2,.tmp 3,.tmp 4],c90⟩),(91,⟨[.tmp 4],c91⟩),(92,⟨[.tmp 2],c92⟩),(93,⟨[.tmp 4],c93⟩),(98,⟨[.tmp 4],c98⟩),(99,⟨[.tmp 4],c99⟩),(100,⟨[.tmp 4],c100⟩),(101,⟨[.tmp 4],c101⟩),(102,⟨[.cell 2<|some 18],c102⟩),(103,⟨[.tmp 2],c103⟩),(104,⟨[.tmp 2],c104⟩),(105,⟨[.tmp 2],c105⟩),(106,⟨[.tmp 2],c106⟩),(107,⟨[.tmp 2],c107⟩)]
def FN7:List (Nat×AFun):=[(108,⟨[.tmp 2],c108⟩),(109,⟨[.tmp 8],c109⟩),(110,⟨[.tmp 6],c110⟩),(111,⟨[.tmp 2],c111⟩),(112,⟨[.tmp 2],c112⟩),(113,⟨[.tmp 4],c113⟩),(114,⟨[.tmp 4],c114⟩),(115,⟨[.tmp 2],c115⟩),(116,⟨[.tmp 2],c116⟩),(117,⟨[.tmp 4],c117⟩),(118,⟨[.tmp 4],c118⟩),(119,⟨[.tmp 4],c119⟩),(120,⟨[.tmp 2],c120⟩),(121,⟨[.tmp 6,.tmp 7],c121⟩)]
def FN8:List (Nat×AFun):=[(122,⟨[.tmp 6],c122⟩),(123,⟨[.cell 2<|some 18],c123⟩),(124,⟨[.cell 0<|some 16],c124⟩),(125,⟨[.tmp 4],c125⟩),(126,⟨[.tmp 4],c126⟩),(127,⟨[.tmp 2],c127⟩),(128,⟨[.tmp 6],c128⟩),(129,⟨[],c129⟩),(130,⟨[.tmp 2],c130⟩),(131,⟨[],c131⟩),(132,⟨[.tmp 6],c132⟩),(133,⟨[],c133⟩),(134,⟨[],c134⟩),(135,⟨[],c135⟩)]
def FN9:List (Nat×AFun):=[(136,⟨[.tmp 2],c136⟩),(137,⟨[],c137⟩),(138,⟨[.tmp 2],c138⟩),(139,⟨[.tmp 3],c139⟩),(140,⟨[.tmp 4],c140⟩),(141,⟨[.tmp 3],c141⟩),(142,⟨[.tmp 6],c142⟩),(143,⟨[],c143⟩),(144,⟨[],c144⟩),(145,⟨[.tmp 4],c145⟩),(146,⟨[.tmp 6],c146⟩),(147,⟨[],c147⟩),(148,⟨[],c148⟩),(149,⟨[.tmp 4],c149⟩)]
def ZjY:List (Nat×AFun):=[(150,⟨[.tmp 3],c150⟩),(151,⟨[],c151⟩),(152,⟨[.tmp 4],c152⟩),(153,⟨[.tmp 6],c153⟩),(154,⟨[],c154⟩),(155,⟨[.tmp 2],c155⟩),(156,⟨[.tmp 4],c156⟩),(157,⟨[.tmp 6,.tmp 7,.tmp 8],c157⟩),(158,⟨[.tmp 4],c158⟩),(159,⟨[.tmp 3],c159⟩),(160,⟨[.tmp 4],c160⟩),(161,⟨[.tmp 3],c161⟩),(164,⟨[.tmp 4],c164⟩),(165,⟨[.tmp 3],c165⟩)]
def ZjZ:List (Nat×AFun):=[(166,⟨[.cell 0<|some 256],c166⟩),(167,⟨[.tmp 4],c167⟩),(168,⟨[.cell 4<|some 4,.tmp 5,.tmp 6],c168⟩),(169,⟨[],c169⟩),(175,⟨[.tmp 4],c175⟩),(176,⟨[.tmp 4],c176⟩),(177,⟨[.tmp 2],c177⟩),(178,⟨[.tmp 2],c178⟩),(179,⟨[.tmp 6],c179⟩),(180,⟨[.tmp 8],c180⟩),(181,⟨[.cell 4<|some 2],c181⟩),(182,⟨[.tmp 2],c182⟩),(183,⟨[.tmp 4],c183⟩),(184,⟨[.tmp 2],c184⟩)]
def Zk0:List (Nat×AFun):=[(185,⟨[.tmp 6,.tmp 7],c185⟩),(186,⟨[.tmp 8],c186⟩),(187,⟨[.tmp 3],c187⟩),(188,⟨[.tmp 2],c188⟩),(189,⟨[.tmp 2],c189⟩),(190,⟨[.tmp 2],c190⟩),(191,⟨[.tmp 4],c191⟩),(192,⟨[.tmp 3],c192⟩),(193,⟨[.tmp 2],c193⟩),(194,⟨[.tmp 3],c194⟩),(195,⟨[.tmp 2],c195⟩),(196,⟨[.tmp 3],c196⟩),(197,⟨[.tmp 2],c197⟩),(198,⟨[.tmp 2],c198⟩)]
def Zsg:List (Nat×AFun):=[(199,⟨[.tmp 2],c199⟩),(200,⟨[.tmp 3],c200⟩),(201,⟨[.tmp 2],c201⟩),(202,⟨[.tmp 2],c202⟩),(203,⟨[.tmp 2],c203⟩),(204,⟨[.tmp 2],c204⟩),(205,⟨[.tmp 4],c205⟩),(206,⟨[.tmp 3],c206⟩),(207,⟨[.tmp 4],c207⟩),(208,⟨[.tmp 4],c208⟩),(209,⟨[.tmp 2],c209⟩),(210,⟨[.tmp 2],c210⟩),(211,⟨[.tmp 3],c211⟩),(212,⟨[.tmp 2],c212⟩)]
def Zsh:List (Nat×AFun):=[(213,⟨[.tmp 4],c213⟩),(214,⟨[.tmp 3],c214⟩),(215,⟨[.tmp 4],c215⟩),(218,⟨[.tmp 2],c218⟩),(219,⟨[.tmp 4],c219⟩),(221,⟨[],c221⟩),(222,⟨[],c222⟩),(223,⟨[.tmp 4],c223⟩),(225,⟨[.tmp 4],c225⟩),(226,⟨[.tmp 3],c226⟩),(228,⟨[.tmp 2],c228⟩),(229,⟨[.tmp 2],c229⟩),(230,⟨[.tmp 4],c230⟩),(231,⟨[.tmp 4],c231⟩)]
def ZCZ:List (Nat×AFun):=[(232,⟨[.tmp 4],c232⟩),(233,⟨[.tmp 4],c233⟩),(245,⟨[.tmp 4],c245⟩),(246,⟨[],c246⟩),(247,⟨[.tmp 6],c247⟩),(248,⟨[.tmp 4],c248⟩),(252,⟨[.tmp 4],c252⟩),(256,⟨[.tmp 2],c256⟩),(257,⟨[.tmp 6],c257⟩),(258,⟨[.tmp 6],c258⟩),(259,⟨[.tmp 2],c259⟩),(260,⟨[.tmp 2],c260⟩),(261,⟨[.tmp 4],c261⟩),(262,⟨[.tmp 4],c262⟩)]
def ZSY:List (Nat×AFun):=[(263,⟨[.tmp 2],c263⟩),(264,⟨[.tmp 2],c264⟩),(265,⟨[.tmp 2],c265⟩),(266,⟨[.tmp 2],c266⟩),(267,⟨[.tmp 2],c267⟩),(268,⟨[.tmp 2],c268⟩),(269,⟨[.tmp 4],c269⟩),(270,⟨[.tmp 2],c270⟩),(271,⟨[.tmp 2],c271⟩),(272,⟨[.tmp 4],c272⟩),(273,⟨[.tmp 2],c273⟩),(274,⟨[.tmp 4],c274⟩),(275,⟨[.tmp 2],c275⟩),(276,⟨[.tmp 3],c276⟩)]
def ZSZ:List (Nat×AFun):=[(277,⟨[.tmp 2],c277⟩),(278,⟨[.tmp 4],c278⟩),(279,⟨[.tmp 4],c279⟩),(280,⟨[.tmp 4],c280⟩),(281,⟨[.tmp 2],c281⟩),(282,⟨[],c282⟩),(283,⟨[.tmp 4],c283⟩),(284,⟨[.tmp 4],c284⟩),(297,⟨[.tmp 4],c297⟩),(314,⟨[.tmp 4],c314⟩),(315,⟨[.cell 2<|some 2],c315⟩),(316,⟨[.tmp 4],c316⟩),(317,⟨[.tmp 2],c317⟩),(318,⟨[.tmp 6],c318⟩)]
def ZT0:List (Nat×AFun):=[(319,⟨[.tmp 8],c319⟩),(321,⟨[.tmp 2],c321⟩),(322,⟨[.tmp 4],c322⟩),(323,⟨[.cell 0<|some 56],c323⟩),(324,⟨[.tmp 4],c324⟩),(325,⟨[.cell 4 none,.cell 5 none],c325⟩),(342,⟨[],c342⟩),(343,⟨[.tmp 2],c343⟩),(344,⟨[.cell 4<|some 6],c344⟩),(345,⟨[.tmp 4],c345⟩),(346,⟨[.tmp 6],c346⟩),(347,⟨[.tmp 6],c347⟩),(349,⟨[.tmp 6],c349⟩),(356,⟨[.cell 4<|some 2],c356⟩)]
def ZT1:List (Nat×AFun):=[(357,⟨[.tmp 4],c357⟩),(358,⟨[.tmp 4],c358⟩)]
def ZjW(f:Nat)(l:List<|Nat×AFun):Option AFun:=l.foldr (λp r=>bif Nat.beq f p.1 then some p.2 else r) none
def N0(f:Nat):Option AFun:=bif Nat.blt f 17 then ZjW f FN0 else bif Nat.blt f 31 then ZjW f FN1 else bif Nat.blt f 45 then ZjW f FN2 else bif Nat.blt f 59 then ZjW f FN3 else bif Nat.blt f 73 then ZjW f FN4 else bif Nat.blt f 90 then ZjW f FN5 else bif Nat.blt f 108 then ZjW f FN6 else bif Nat.blt f 122 then ZjW f FN7 else bif Nat.blt f 136 then ZjW f FN8 else bif Nat.blt f 150 then ZjW f FN9 else bif Nat.blt f 166 then ZjW f ZjY else bif Nat.blt f 185 then ZjW f ZjZ else bif Nat.blt f 199 then ZjW f Zk0 else bif Nat.blt f 213 then ZjW f Zsg else bif Nat.blt f 232 then ZjW f Zsh else bif Nat.blt f 263 then ZjW f ZCZ else bif Nat.blt f 277 then ZjW f ZSY else bif Nat.blt f 319 then ZjW f ZSZ else bif Nat.blt f 357 then ZjW f ZT0 else ZjW f ZT1
def a95:AFun:=⟨[.tmp 2],c95⟩
def a97:AFun:=⟨[.tmp 2],c97⟩
def Zz9:List (Nat×AFun):=[(95,⟨[.tmp 2],c95⟩),(97,⟨[.tmp 2],c97⟩),(171,⟨[.tmp 5],c171⟩),(172,⟨[.tmp 4],c172⟩),(174,⟨[.tmp 5],c174⟩),(254,⟨[.tmp 2],c254⟩)]
def Zza(f:Nat):Option AFun:=ZjW f Zz9
def e0:Env:={fn:=Zza,gl:=λ_=>.bot,sum:=λ_=>none}
def ZGv:List (Nat×AFun):=[(94,⟨[.tmp 4],c94⟩),(96,⟨[.tmp 4],c96⟩)]
def ZGw(f:Nat):Option AFun:=ZjW f ZGv
end Go.AM
