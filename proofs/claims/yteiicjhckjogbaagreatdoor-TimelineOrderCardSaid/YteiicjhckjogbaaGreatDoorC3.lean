/- The code of the abstract machine for the functions that the statement TimelineOrder reaches. No condition. -/
import Derived.Test.YteiicjhckjogbaaGreatDoorQ3
import Derived.Test.YteiicjhckjogbaaGreatDoorProg
set_option linter.unusedVariables false
set_option linter.defProp false
set_option linter.unusedSimpArgs false
set_option linter.unusedSectionVars false
namespace Go.AM
open Go
inductive CoTy where
 |b|i (k:IntKind)|s|sl (e by':Nat)|st (fs:List Nat)|ar (n e:Nat)|mp (k v:Nat)|p|f|j|o
structure CoCx where
 T:Nat->CoTy
 e:ByteArray
 S:List<|Nat×ByteArray
 H:List<|Nat×Nat
 N:Nat->ACode
def ZvB{α:Type}(d:α):List α->Nat->α
 |[],_=>d
 |x::r,n=>bif n==0 then x else ZvB d r<|n-1
def Zwo(T:Nat->CoTy):Nat->Nat->Nat
 |0,_=>1
 |n+1,t=>match T t with
  | .st fs=>fs.foldr (λf s=>Zwo T n f+s) 0
  | .ar k e=>k*Zwo T n e
  |_=>1
def Zw0(T:Nat->CoTy)(e:ByteArray):Nat->Nat->List AV
 |0,_=>[]
 |n+1,t=>match T t with
  | .b=>[.bool false]
  | .i k=>[.int k 0]
  | .s=>[.str e]
  | .sl x _=>[.isl false false (Zwo T n x) []]
  | .st fs=>fs.foldr (λf s=>Zw0 T e n f++s) []
  | .ar k x=>(List.replicate k<|Zw0 T e n x).flatten
  | .mp _ _=>[.nilmap]
  | .p=>[.nilp]
  | .f=>[.nilfn]
  | .j=>[.nilif]
  | .o=>[.bot]
def ZvR(T:Nat->CoTy):Nat->Nat->List Nat
 |0,_=>[]
 |n+1,t=>match T t with
  | .b=>[0]
  | .i _=>[1]
  | .s=>[2]
  | .st fs=>fs.foldr (λf s=>ZvR T n f++s) []
  | .ar k x=>(List.replicate k<|ZvR T n x).flatten
  |_=>[]
def Zw1:CoTy->Bool
 | .st _| .ar _ _=>true
 |_=>false
def ZwJ(b:Bool):AV->AV
 | .isl w _ n l=>.isl w b n l
 |v=>v
def ZvK(X:CoCx)(top:Bool)(t:Nat):AV:=match X.T t with
 | .st _| .ar _ _=>.agg<|Zw0 X.T X.e 9 t
 |_=>ZwJ top<|ZvB .bot (Zw0 X.T X.e 9 t) 0
def ZxZ:AV->AV
 | .agg cs=>.agg<|cs.map<|ZwJ true
 |v=>ZwJ true v
def Zvk(X:CoCx)(t:Nat):Nat:=Zwo X.T 9 t
def ZwK(X:CoCx)(t:Nat):Option Nat:=bif Zw1 (X.T t)then some (Zvk X t)else none
def ZvC(X:CoCx)(t:Nat):Nat:=match X.T t with
 | .sl e _=>e
 | .ar _ e=>e
 |_=>0
def ZwL(X:CoCx)(t:Nat):Nat:=match X.T t with
 | .sl _ y=>y
 |_=>0
def Zwp(X:CoCx)(t:Nat):List Nat:=match X.T t with
 | .st fs=>fs
 |_=>[]
def ZwM(X:CoCx)(t i:Nat):Nat:=((Zwp X t).take i).foldr (λf s=>Zvk X f+s) 0
def ZFJ(e:ByteArray)(k:Nat):List (Nat×ByteArray)->ByteArray
 |[]=>e
 |p::r=>bif p.1==k then p.2 else ZFJ e k r
def Zzy(X:CoCx)(h:Nat)(ex:Bool)(t:Nat):Value->AV
 | .bool b=>.bool b
 | .int k n=>.int k n
 | .string s=>.str (match s.data.toList with|[]=>X.e|l=>ZFJ X.e (l.foldl (λn b=>256*n+b.toNat) 1) X.S)
 | .pointer _=>.nilp
 | .slice _ _ _=>.isl false ex (Zvk X<|ZvC X t) []
 | .map _=>.nilmap
 | .nilFunc=>.nilfn
 | .nilIface=>.nilif
 | .agg _=>ZvK X false t
 |_=>.bot
def Zr1(X:CoCx)(h:Nat)(ex:Bool)(t:Nat):Operand->Arg
 | .tmp t=>.t t
 | .const v=>.c<|Zzy X h ex t v
 | .func f=>.f f
 | .global g=>.g g
def Zw2(X:CoCx)(h:Nat)(ex:Bool):List Operand->List Nat->List Arg
 |x::r,t::ts=>Zr1 X h ex t x::Zw2 X h ex r ts
 |x::r,[]=>Zr1 X h ex 0 x::Zw2 X h ex r []
 |[],_=>[]
def Zzz(X:CoCx)(h:Nat)(c:Call):AOp:=
 let ts:=c.argTypes.toList
 let t:=ZvB 0 ts 0
 match c.callee,c.args.toList with
 | .builtin .len,[x]=>.len (match X.T t with| .s=>0| .sl _ _=>1|_=>2)<|Zr1 X h false t x
 | .builtin .min,[x,y]=>.mm false (Zr1 X h false t x)<|Zr1 X h false t y
 | .builtin .max,[x,y]=>.mm true (Zr1 X h false t x)<|Zr1 X h false t y
 | .builtin .append,[x,y]=>
  bif h%16==3 then .apa (Zvk X<|ZvC X t) (ZwL X t) (Zr1 X h true t x) (Zr1 X h false t y)else bif h%16==2 then .apr (Zvk X<|ZvC X t) (ZwL X t) (Zr1 X h true t x) (Zr1 X h false t y)else .app (h%16==1) (Zvk X<|ZvC X t) (ZwL X t) (Zr1 X h true t x)<|Zr1 X h false t y
 | .value (.func f),l=>.call (h%2==0) f<|Zw2 X h (h/2%2==1) l ts
 | .value x,l=>.callv (h%2==0) (Zr1 X h false 0 x)<|Zw2 X h false l ts
 |_,_=>.bad
def ZzA(X:CoCx)(h:Nat)(ty:Nat):Op->AOp
 | .move x| .assign x=>bif h%16==1 then .own (Zvk X<|ZvC X ty)else bif h%16==2 then .rel (Zr1 X h false ty x)else .mv<|Zr1 X h false ty x
 | .pick a b c=>.pick (Zr1 X h false 0 a) (Zr1 X h false ty b)<|Zr1 X h false ty c
 | .alloc t=>bif h%2==0 then .ibox (Zvk X t) (.c<|bif h/2%2==1 then ZxZ (ZvK X true t)else ZvK X true t)else .box (Zvk X t)<|.c<|bif h/2%2==1 then ZxZ (ZvK X true t)else ZvK X true t
 | .box t x=>bif h%2==0 then .ibox (Zvk X t) (Zr1 X h false t x)else .box (Zvk X t)<|Zr1 X h false t x
 | .build t ps=>match X.T t with
  | .ar _ e=>.build (Zw0 X.T X.e 9 t)<|ps.toList.map λp=>(p.1*Zvk X e,Zvk X e,Zr1 X h false e p.2)
  |_=>.build (bif h==1 then(Zw0 X.T X.e 9 t).map (ZwJ true)else bif Nat.blt 1 h then(Zw0 X.T X.e 9 t).set (h-2) .nilsl else Zw0 X.T X.e 9 t)<|ps.toList.map λp=>(ZwM X t p.1,Zvk X<|ZvB 0 (Zwp X t) p.1,Zr1 X h false (ZvB 0 (Zwp X t) p.1) p.2)
 | .buildSlice t n ps=>.bsl (h%2==0) (h/2%2==1) (Zvk X<|ZvC X t) (ZvK X false<|ZvC X t) n<|ps.toList.map λp=>(p.1,Zr1 X h false (ZvC X t) p.2)
 | .load t x=>bif h==0 then .load (ZwK X t) (Zr1 X h false 0 x)else .ldr (Zvk X t) h<|Zr1 X 0 false 0 x
 | .store t a x=>.store (Zvk X t) (Zr1 X h false 0 a)<|Zr1 X h false t x
 | .nilCheck x=>.nilck<|Zr1 X h false 0 x
 | .binOp op t x y _=>match op,X.T t with
  | .eql,.i _| .neq,.i _| .eql,.s| .neq,.s=>.bin op (Zr1 X h false t x)<|Zr1 X h false t y
  | .eql,.p=>.isn false<|Zr1 X h false t x
  | .neq,.p=>.isn true<|Zr1 X h false t x
  | .eql,k=>.eqv false (Zw1 k) (ZvR X.T 9 t) (Zr1 X h false t x)<|Zr1 X h false t y
  | .neq,k=>.eqv true (Zw1 k) (ZvR X.T 9 t) (Zr1 X h false t x)<|Zr1 X h false t y
  |_,_=>.bin op (Zr1 X h false t x)<|Zr1 X h false t y
 | .unOp op t x=>.un op<|Zr1 X h false t x
 | .convert _ d x=>.conv (match X.T d with| .i k=>some k|_=>none)<|Zr1 X h false d x
 | .field t x i=>.fld (ZwK X<|ZvB 0 (Zwp X t) i) (ZwM X t i)<|Zr1 X h false t x
 | .fieldAddr t x i=>.fadr (ZwM X t i)<|Zr1 X h false t x
 | .indexAddr t x i=>match X.T t with
  | .ar n e=>.aadr (Zvk X e) n (Zr1 X h false 0 x)<|Zr1 X h false 0 i
  |_=>.iadr (Zvk X<|ZvC X t) (Zr1 X h false t x)<|Zr1 X h false 0 i
 | .index t x i=>match X.T t with
  | .ar n e=>.aidx (ZwK X e) (Zvk X e) n (Zr1 X h false t x)<|Zr1 X h false 0 i
  |_=>.sidx (Zr1 X h false 0 x)<|Zr1 X h false 0 i
 | .extract x i=>.ext (Zr1 X h false 0 x) i
 | .makeFunc fn a b=>.mkf fn (Zw2 X h false a.toList [])<|Zw2 X h false b.toList []
 | .makeMap _ _=>.mkm
 | .insert t m k v=>match X.T t with
  | .mp a b=>.ins (Zw1<|X.T a) (ZvR X.T 9 a) (Zr1 X h false 0 m) (Zr1 X h false a k)<|Zr1 X h false b v
  |_=>.bad
 | .mapUpdate t m k v=>match X.T t with
  | .mp a b=>.mupd (Zw1<|X.T a) (ZvR X.T 9 a) (Zr1 X h false 0 m) (Zr1 X h false a k)<|Zr1 X h false b v
  |_=>.bad
 | .lookup t m k ok=>match X.T t with
  | .mp a b=>.lkp (Zw1<|X.T a) (ZvR X.T 9 a) ok (ZvK X (h==1) b) (Zr1 X h false 0 m)<|Zr1 X h false a k
  |_=>.bad
 | .makeSlice t l c=>.mks (Zvk X<|ZvC X t) (ZvK X false<|ZvC X t) (ZwL X t) (Zr1 X h false 0 l)<|Zr1 X h false 0 c
 | .slice t x a b c=>match X.T t with
  | .s=>.ssl (Zr1 X h false t x) (a.map<|Zr1 X h false 0)<|b.map<|Zr1 X h false 0
  |_=>.slc (Zvk X<|ZvC X t) (Zr1 X h false t x) (a.map<|Zr1 X h false 0) (b.map<|Zr1 X h false 0)<|c.map<|Zr1 X h false 0
 | .range _ x=>.rng<|Zr1 X h false 0 x
 | .next x _=>.nxt<|Zr1 X h false 0 x
 | .makeInterface t x=>.mkif t<|Zr1 X h false t x
 | .call c=>Zzz X h c
 |_=>.bad
def Zwq:Operand->Nat
 | .tmp t=>1 <<< t
 |_=>0
def ZwN(l:List Operand):Nat:=l.foldr (λx m=>Zwq x ||| m) 0
def ZzB:Op->List Operand
 | .call c=>(match c.callee with| .value f=>[f]|_=>[])++c.args.toList
 | .build _ ps| .buildSlice _ _ ps=>ps.toList.map (·.2)
 | .makeFunc _ a b=>a.toList++b.toList
 | .slice _ x a b c=>x::(a.toList++(b.toList++c.toList))
 | .makeMap _ r=>r.toList
 | .move x| .assign x| .box _ x| .load _ x| .nilCheck x| .unOp _ _ x| .convert _ _ x| .makeInterface _ x| .fieldAddr _ x _| .field _ x _| .range _ x| .next x _| .extract x _=>[x]
 | .pick c a b=>[c,a,b]
 | .store _ a v| .binOp _ _ a v _| .makeSlice _ a v| .indexAddr _ a v| .index _ a v| .lookup _ a v _=>[a,v]
 | .mapUpdate _ m k v| .insert _ m k v=>[m,k,v]
 |_=>[]
def ZwO(l:List Oper)(j:Nat):Option Nat:=match l with
 |[]=>none
 |o::r=>bif j==0 then o.dst else ZwO r<|j-1
def ZzC(ops:List Oper):Option (Nat×Bool)->Nat
 |some (j,_)=>(match ZwO ops j with|some d=>1 <<< d|none=>0)
 |none=>0
def Zy0(ops:List Oper)(o:Oper)(m:Nat):Nat:=
 (match o.dst with|some d=>(m ||| (1 <<< d)) ^^^ (1 <<< d)|none=>m) ||| (ZwN (ZzB o.op) ||| ZzC ops o.guard)
def ZvO:List (Nat×Nat)->Nat->Nat
 |[],_=>0
 |p::r,i=>bif p.1==i then p.2 else ZvO r i
def Zy1(f:Nat->Nat):Nat->Nat->Nat
 |0,l=>l
 |n+1,l=>(λm=>bif m==l then l else Zy1 f n m) (l ||| f l)
def ZzD(x:List<|Nat×Nat):Nat:=x.foldr (λp m=>p.2 ||| m) 0
def ZvD:List (Nat×Nat)->Nat->Code->Nat->Nat
 |_,_,.region _ ops _,out=>ops.toList.foldr (Zy0 ops.toList) out
 |x,rt,.seq a b,out=>ZvD x rt a<|ZvD x rt b out
 |x,rt,.cond c a b,out=>Zwq c ||| (ZvD x rt a out ||| ZvD x rt b out)
 |x,rt,.block id b,out=>ZvD ((id,out)::x) rt b out
 |x,rt,.loop b,_=>Zy1 (λl=>ZvD x rt b l) 8 0
 |x,rt,.rangeFunc f ps a b,out=>(λm=>Zwq f ||| (((m ||| ZwN (ps.toList.map .tmp)) ^^^ ZwN (ps.toList.map .tmp)) ||| (out ||| (ZzD x ||| rt)))) (ZvD [] 0 a<|ZvD [] 0 b 0)
 |x,_,.exit id,_=>ZvO x id
 |_,rt,.ret,_=>rt
 |_,_,_,out=>out
def Zw3:List (Nat×Nat)->Nat->Code->Nat
 |x,_,.exit i=>ZvO x i
 |_,rt,.ret=>rt
 |x,rt,.seq a b|x,rt,.cond _ a b|x,rt,.rangeFunc _ _ a b=>Zw3 x rt a ||| Zw3 x rt b
 |x,rt,.block id b=>Zw3 ((id,0)::x) rt b
 |x,rt,.loop b=>Zw3 x rt b
 |_,_,_=>0
def Zvs:Code->Nat
 | .seq a b| .cond _ a b=>Zvs a+Zvs b
 | .block _ b=>Zvs b
 | .loop b=>Zvs b+1
 | .rangeFunc _ _ a b=>Zvs a+Zvs b+1
 |_=>0
def ZwP:List Nat->Nat->Nat->List Nat->List Nat
 |[],o,m,acc=>bif m==0 then acc else o::acc
 |k::r,o,m,acc=>bif m==0 then acc else ZwP r o (m ^^^ ((m >>> k) <<< k))<|ZwP r (o+k) (m >>> k) acc
def Zw9(m:Nat):List Nat:=ZwP [256,128,64,32,16,8,4,2,1] 0 m []
def ZzE(ops:List Oper):Option (Nat×Bool)->Option (Nat×Bool)
 |some (j,b)=>(match ZwO ops j with|some d=>some (d,b)|none=>none)
 |none=>none
def ZwQ(X:CoCx)(ops:List Oper)(r:Nat):List Oper->Nat->List AOper
 |[],_=>[]
 |o::l,i=>⟨o.dst,ZzA X (ZvO X.H<|100*r+i) o.type o.op,ZzE ops o.guard⟩::ZwQ X ops r l (i+1)
def Zy2(ms:List Nat):Nat->Nat
 |0=>0
 |i+1=>bif ZvB 0 ms i%2 ^ i==2 ^ i-1 then Zy2 ms i else i+1
def ZwR(m:Nat)(q:AOp):List AOper->Nat->List Nat
 |[],_=>[]
 |p::l,j=>bif m%2==1||X3 q&&X3 p.op then ZwR (m/2) q l (j+1)else j::ZwR (m/2) q l (j+1)
def Zy3(ms:List Nat)(p1:List AOper):List AOper->Nat->List (List Nat)
 |[],_=>[]
 |q::l,i=>ZwR (ZvB 0 ms i) q.op (p1.take i) 0::Zy3 ms p1 l (i+1)
def ZzF(ms:List Nat)(qs:List AOper):ACode:=(λk=>.draw (Zy3 ms (qs.take k) (qs.take k) 0) (qs.take k)<|qs.drop k) (Zy2 ms qs.length)
def ZFK(n:Nat)(l:List<|Nat×Nat):List (Nat×Nat):=bif n==0 then l else(n/100-1,n%100)::l
def ZzG(X:CoCx)(r:Nat)(ops:List Oper)(out:Nat)(qs:List AOper):ACode:=
 bif ZvO X.H (100*r+99)==0 then(bif Nat.blt 2 qs.length then .keep (Zw9 out) (.region qs)else .region qs)else
 match qs,ops with
 |[⟨some d,.fadr off p,_⟩,⟨_,.store _ _<|.c<|.isl _ _ s _,_⟩],_=>.nils s d off p
 |[⟨some d,_,_⟩],[o]=>match o.op with
  | .alloc t=>.zbox d (Zvk X t) (ZvK X true t)<|ZFK (ZvO X.H<|100*r+99)<|ZFK (ZvO X.H<|100*r+98) []
  |_=>.bad
 |_,_=>.bad
def ZQw(g:Nat)(c:ACode):ACode:=bif g==0 then c else .ghost (g/10000) (g/100%100) (g%100) c
def ZvL(X:CoCx):List (Nat×Nat)->Nat->Nat->Code->Nat->ACode×Nat×List ACode
 |_,_,_,.skip,out=>(.skip,out,[])
 |_,_,_,.label _,out=>(.skip,out,[])
 |_,_,_,.region r ops d,out=>
  (bif d then .keep (Zw9 out) (ZzF (YS ops.toList [])<|ZwQ X ops.toList r ops.toList 0)else ZQw (ZvO X.H<|100*r+90)<|ZzG X r ops.toList out<|ZwQ X ops.toList r ops.toList 0,ops.toList.foldr (Zy0 ops.toList) out,[])
 |x,rt,k,.seq a b,out=>
  match ZvL X x rt (k+Zvs a) b out with
  |(cb,lb,db)=>match ZvL X x rt k a lb with
   |(ca,la,da)=>(.seq ca cb,la,da++db)
 |x,rt,k,.cond c a b,out=>
  match ZvL X x rt k a out,ZvL X x rt (k+Zvs a) b out with
  |(ca,la,da),(cb,lb,db)=>(.cond (Zr1 X 0 false 0 c) ca cb,Zwq c ||| (la ||| lb),da++db)
 |x,rt,k,.block id b,out=>
  match ZvL X ((id,out)::x) rt k b out with
  |(cb,lb,db)=>(.keep (Zw9<|out ||| Zw3 x rt (.block id b))<|.block id cb,lb,db)
 |x,rt,k,.loop b,_=>
  (λl=>match ZvL X x rt k b l with
   |(cb,_,db)=>(X.N<|2*(k+Zvs b)+1,l,db++[.keep (Zw9<|l ||| Zw3 x rt b) cb,.loop (Zw9 l)<|X.N<|2*(k+Zvs b)])) (ZvD x rt (.loop b) 0)
 |x,rt,k,.rangeFunc f ps a b,out=>
  match ZvL X [] 0 k a (ZvD [] 0 b 0),ZvL X [] 0 (k+Zvs a) b 0 with
  |(ca,_,da),(cb,_,db)=>(.rangeFunc (Zr1 X 0 false 0 f) ps.toList (X.N<|2*(k+Zvs a+Zvs b))<|X.N<|2*(k+Zvs a+Zvs b)+1,ZvD x rt (.rangeFunc f ps a b) out,da++(db++[ca,cb]))
 |x,_,_,.exit id,_=>(.exit id,ZvO x id,[])
 |_,rt,_,.ret,_=>(.ret,rt,[])
 |_,_,_,_,out=>(.bad,out,[])
def Zy4(f:Func):Nat:=f.results.toList.foldr (λr m=>(match r with| .tmp t=>1 <<< t| .cell t _=>1 <<< t) ||| m) 0
def ZzH(X:CoCx)(f:Func):List ACode:=
 match f.body with
 |some c=>match ZvL X [] (Zy4 f) 0 c (Zy4 f)with
  |(q,_,ds)=>ds++[q]
 |none=>[]
abbrev CoV{α:Type}(a:α):={c:α // a=c}
def coY(X:(Nat->ACode)->List ACode)(l:List ACode)(n:Nat):ACode:=ZvB .bad (X<|ZvB .bad l) n
def Zr2:ACode->List Nat->ACode
 |c,[]=>c
 | .seq a b,i::r=>bif i==0 then Zr2 a r else Zr2 b r
 | .cond _ a b,i::r=>bif i==0 then Zr2 a r else Zr2 b r
 | .block _ a,_::r=>Zr2 a r
 | .keep _ a,_::r=>Zr2 a r
 | .loop _ a,_::r=>Zr2 a r
 |c,_=>c
def Zvt(t:Nat):List (Nat×CoTy)->CoTy
 |[]=>.i .i64
 |p::r=>bif p.1==t then p.2 else Zvt t r
end Go.AM
set_option maxRecDepth 100000
namespace Go.AM
open Go Go.Proofs.Tryz
def coT(t:Nat):CoTy:=bif Nat.blt t 30 then Zvt t [(4,.b),(5,.i .u8),(9,.s),(21,.i .i32),(22,.sl 50 120),(26,.p),(27,.o),(29,.sl 67 88)]else bif Nat.blt t 46 then Zvt t [(30,.sl 65 80),(31,.sl 90 56),(32,.sl 63 184),(33,.sl 93 72),(34,.sl 69 16),(36,.st [29,30,31,32,33,34,34]),(38,.o),(45,.sl 61 240)]else bif Nat.blt t 61 then Zvt t [(46,.sl 9 16),(48,.st [3,46,46]),(50,.st [3,3,3,9,45,48]),(53,.sl 114 40),(55,.st [3,9,3,3]),(57,.st [3,3]),(58,.sl 57 16),(59,.sl 138 72)]else bif Nat.blt t 81 then Zvt t [(61,.st [3,3,3,3,3,9,9,9,46,53,55,57,58,59]),(63,.st [9,9,9,3,55,57,3,3,46,3,3,9]),(65,.st [9,3,58,53,3]),(67,.st [9,3,3,58,53,3]),(69,.ar 2 3),(75,.sl 401 24),(78,.f),(80,.st [36,3,3,3,4])]else bif Nat.blt t 109 then Zvt t [(81,.mp 103 4),(83,.st [80,22,81,3]),(90,.st [9,3,58,3]),(93,.st [9,9,9,3,3,3]),(96,.f),(101,.f),(103,.st [3,3]),(105,.f)]else bif Nat.blt t 131 then Zvt t [(109,.f),(114,.st [9,3,9]),(115,.f),(117,.f),(119,.f),(122,.f),(128,.f),(129,.mp 131 4)]else bif Nat.blt t 147 then Zvt t [(131,.st [3,3]),(135,.sl 3 8),(138,.st [9,55,57]),(139,.p),(140,.o),(142,.p),(145,.st [139,61,3,3]),(146,.f)]else bif Nat.blt t 173 then Zvt t [(147,.sl 146 8),(150,.f),(151,.p),(152,.ar 16 150),(155,.st [36,3,61,46]),(164,.o),(170,.mp 3 3),(172,.st [36,170])]else bif Nat.blt t 200 then Zvt t [(173,.ar 16 109),(176,.f),(178,.f),(189,.f),(192,.p),(193,.f),(196,.p),(197,.f)]else bif Nat.blt t 215 then Zvt t [(200,.f),(203,.p),(204,.f),(207,.p),(208,.f),(210,.f),(212,.p),(213,.f)]else bif Nat.blt t 248 then Zvt t [(215,.mp 217 4),(217,.st [9,55]),(224,.f),(227,.f),(233,.mp 3 4),(240,.f),(244,.sl 34 24),(246,.f)]else bif Nat.blt t 272 then Zvt t [(248,.f),(252,.f),(257,.sl 261 40),(258,.o),(261,.st [3,3,3,9]),(262,.sl 57 16),(266,.f),(268,.sl 55 40)]else bif Nat.blt t 292 then Zvt t [(272,.f),(274,.ar 256 3),(277,.st [9,274]),(278,.o),(282,.f),(287,.mp 114 4),(288,.mp 9 4),(291,.st [3,3])]else bif Nat.blt t 318 then Zvt t [(292,.ar 28 291),(295,.mp 55 4),(305,.f),(306,.p),(310,.j),(311,.o),(314,.f),(316,.st [57,57])]else Zvt t [(318,.st [3,3]),(320,.st [316,318]),(322,.f),(401,.st [3,3,3])]
@[reducible] def cV{α:Type}(a:α)(h:CoV a:=by exact⟨_,by cbv⟩):α:=h.1
attribute [go_sem ↓] cV
abbrev CoX(e:ByteArray)(S:List<|Nat×ByteArray)(H:List<|Nat×Nat)(f:Func)(N:Nat->ACode):List ACode:=ZzH ⟨coT,e,S,H,N⟩ f
abbrev CoW(H:List<|Nat×Nat)(f:Func)(e:ByteArray):ACode:=coY (CoX e [] H f) [] 0
abbrev CoU(X:ByteArray->(Nat->ACode)->List ACode)(e:ByteArray)(l:List ACode)(n:Nat):ACode:=coY (X e) l n
def c3:=(λe=>cV<|CoW [(401,1),(500,2),(501,1),(603,1),(607,1),(703,1),(707,1)] f3 e) emp
def c9:=(λe=>cV<|CoW [(102,1),(103,1)] f9 e) emp
def c10:=(λe=>cV<|CoW [(109,2)] f10 e) emp
def X11(e)(N):=cV<|CoX e [] [] f11 N
def c11L0b:=(λe=>cV<|CoU X11 e [] 0) emp
def c11L0:=(λe a=>cV<|CoU X11 e [a] 1) emp c11L0b
def c11L1b:=(λe a b=>cV<|CoU X11 e [a,b] 2) emp c11L0b c11L0
def c11L1:=(λe a b c=>cV<|CoU X11 e [a,b,c] 3) emp c11L0b c11L0 c11L1b
def c11:=(λe a b c d=>cV<|CoU X11 e [a,b,c,d] 4) emp c11L0b c11L0 c11L1b c11L1
def X12(e)(N):=cV<|CoX e [] [(100,1),(200,1),(604,1),(902,1)] f12 N
def c12L0b:=(λe=>cV<|CoU X12 e [] 0) emp
def c12L0:=(λe a=>cV<|CoU X12 e [a] 1) emp c12L0b
def c12:=(λe a b=>cV<|CoU X12 e [a,b] 2) emp c12L0b c12L0
def X13(e)(N):=cV<|CoX e [] [(0,1),(802,1),(908,1)] f13 N
def c13L0b:=(λe=>cV<|CoU X13 e [] 0) emp
def c13L0:=(λe a=>cV<|CoU X13 e [a] 1) emp c13L0b
def c13:=(λe a b=>cV<|CoU X13 e [a,b] 2) emp c13L0b c13L0
def X14(e)(N):=cV<|CoX e [] [] f14 N
def c14L0b:=(λe=>cV<|CoU X14 e [] 0) emp
def c14L0:=(λe a=>cV<|CoU X14 e [a] 1) emp c14L0b
def c14L1b:=(λe a b=>cV<|CoU X14 e [a,b] 2) emp c14L0b c14L0
def c14L1:=(λe a b c=>cV<|CoU X14 e [a,b,c] 3) emp c14L0b c14L0 c14L1b
def c14L2b:=(λe a b c d=>cV<|CoU X14 e [a,b,c,d] 4) emp c14L0b c14L0 c14L1b c14L1
def c14L2:=(λe a b c d g=>cV<|CoU X14 e [a,b,c,d,g] 5) emp c14L0b c14L0 c14L1b c14L1 c14L2b
def c14L3b:=(λe a b c d g h=>cV<|CoU X14 e [a,b,c,d,g,h] 6) emp c14L0b c14L0 c14L1b c14L1 c14L2b c14L2
def c14L3:=(λe a b c d g h i=>cV<|CoU X14 e [a,b,c,d,g,h,i] 7) emp c14L0b c14L0 c14L1b c14L1 c14L2b c14L2 c14L3b
def c14L4b:=(λe a b c d g h i j=>cV<|CoU X14 e [a,b,c,d,g,h,i,j] 8) emp c14L0b c14L0 c14L1b c14L1 c14L2b c14L2 c14L3b c14L3
def c14L4:=(λe a b c d g h i j k=>cV<|CoU X14 e [a,b,c,d,g,h,i,j,k] 9) emp c14L0b c14L0 c14L1b c14L1 c14L2b c14L2 c14L3b c14L3 c14L4b
def c14:=(λe a b c d g h i j k l=>cV<|CoU X14 e [a,b,c,d,g,h,i,j,k,l] 10) emp c14L0b c14L0 c14L1b c14L1 c14L2b c14L2 c14L3b c14L3 c14L4b c14L4
def c15:=(λe=>cV<|CoW [] f15 e) emp
def X16(e)(N):=cV<|CoX e [] [(199,102),(100,1),(203,1),(300,1),(502,1)] f16 N
def c16R0a:=(λe=>cV<|CoU X16 e [] 0) emp
def c16R0b:=(λe a=>cV<|CoU X16 e [a] 1) emp c16R0a
def c16:=(λe a b=>cV<|CoU X16 e [a,b] 2) emp c16R0a c16R0b
def c17:=(λe=>cV<|CoW [(0,1),(305,1)] f17 e) emp
def X19(e)(N):=cV<|CoX e [] [(100,1),(202,1),(207,1),(711,1),(715,1)] f19 N
def c19L0b:=(λe=>cV<|CoU X19 e [] 0) emp
def c19L0:=(λe a=>cV<|CoU X19 e [a] 1) emp c19L0b
def c19:=(λe a b=>cV<|CoU X19 e [a,b] 2) emp c19L0b c19L0
def X20(e)(N):=cV<|CoX e [] [] f20 N
def c20L0b:=(λe=>cV<|CoU X20 e [] 0) emp
def c20L0:=(λe a=>cV<|CoU X20 e [a] 1) emp c20L0b
def c20L1b:=(λe a b=>cV<|CoU X20 e [a,b] 2) emp c20L0b c20L0
def c20L1:=(λe a b c=>cV<|CoU X20 e [a,b,c] 3) emp c20L0b c20L0 c20L1b
def c20:=(λe a b c d=>cV<|CoU X20 e [a,b,c,d] 4) emp c20L0b c20L0 c20L1b c20L1
def c21:=(λe=>cV<|CoW [(190,1108),(101,13)] f21 e) emp
def c22:=(λe=>cV<|CoW [] f22 e) emp
def c23:=(λe=>cV<|CoW [(2,1),(307,1)] f23 e) emp
def c24:=(λe=>cV<|CoW [(1,1)] f24 e) emp
def c25:=(λe=>cV<|CoW [] f25 e) emp
def c26:=(λe=>cV<|CoW [] f26 e) emp
def c27:=(λe=>cV<|CoW [] f27 e) emp
def c28:=(λe=>cV<|CoW [] f28 e) emp
def X29(e)(N):=cV<|CoX e [] [] f29 N
def c29L0b:=(λe=>cV<|CoU X29 e [] 0) emp
def c29L0:=(λe a=>cV<|CoU X29 e [a] 1) emp c29L0b
def c29:=(λe a b=>cV<|CoU X29 e [a,b] 2) emp c29L0b c29L0
def c30:=(λe=>cV<|CoW [] f30 e) emp
def c32:=(λe=>cV<|CoW [(110,1),(111,1)] f32 e) emp
def X33(e)(N):=cV<|CoX e [] [] f33 N
def c33L0b:=(λe=>cV<|CoU X33 e [] 0) emp
def c33L0:=(λe a=>cV<|CoU X33 e [a] 1) emp c33L0b
def c33:=(λe a b=>cV<|CoU X33 e [a,b] 2) emp c33L0b c33L0
def c34:=(λe=>cV<|CoW [] f34 e) emp
def X35(e)(N):=cV<|CoX e [] [(100,1),(402,1)] f35 N
def c35L0b:=(λe=>cV<|CoU X35 e [] 0) emp
def c35L0:=(λe a=>cV<|CoU X35 e [a] 1) emp c35L0b
def c35:=(λe a b=>cV<|CoU X35 e [a,b] 2) emp c35L0b c35L0
def c36:=(λe=>cV<|CoW [(0,1),(1,1)] f36 e) emp
def X37(e)(N):=cV<|CoX e [] [] f37 N
def c37L0b:=(λe=>cV<|CoU X37 e [] 0) emp
def c37L0:=(λe a=>cV<|CoU X37 e [a] 1) emp c37L0b
def c37:=(λe a b=>cV<|CoU X37 e [a,b] 2) emp c37L0b c37L0
def X38(e)(N):=cV<|CoX e [] [(2,1),(301,1),(406,1),(505,1)] f38 N
def s38p0:=(λe=>cV<|Zr2 (CoU X38 e [] 0) [0]) emp
def s38p1:=(λe=>cV<|Zr2 (CoU X38 e [] 0) [1,0]) emp
def s38p2:=(λe=>cV<|Zr2 (CoU X38 e [] 0) [1,1,0]) emp
def s38p3:=(λe=>cV<|Zr2 (CoU X38 e [] 0) [1,1,1,0]) emp
def s38p4:=(λe=>cV<|Zr2 (CoU X38 e [] 0) [1,1,1,1,0]) emp
def s38p5:=(λe=>cV<|Zr2 (CoU X38 e [] 0) [1,1,1,1,1,0]) emp
def s38p6:=(λe=>cV<|Zr2 (CoU X38 e [] 0) [1,1,1,1,1,1,0]) emp
def c38:ACode:=.seq s38p0<|.seq s38p1<|.seq s38p2<|.seq s38p3<|.seq s38p4<|.seq s38p5<|.seq s38p6 .ret
def c39:=(λe s0 s1 s2=>cV<|coY (CoX e [(365,s0),(371,s1),(372,s2)] [(0,1),(300,2),(304,2)] f39) [] 0) emp (B [109]) (B [115]) (B [116])
def X40(e)(N):=cV<|CoX e [] [] f40 N
def c40L0b:=(λe=>cV<|CoU X40 e [] 0) emp
def c40L0:=(λe a=>cV<|CoU X40 e [a] 1) emp c40L0b
def c40:=(λe a b=>cV<|CoU X40 e [a,b] 2) emp c40L0b c40L0
def X41(e)(N):=cV<|CoX e [] [(100,1),(402,1)] f41 N
def c41L0b:=(λe=>cV<|CoU X41 e [] 0) emp
def c41L0:=(λe a=>cV<|CoU X41 e [a] 1) emp c41L0b
def c41:=(λe a b=>cV<|CoU X41 e [a,b] 2) emp c41L0b c41L0
def c42:=(λe=>cV<|CoW [(0,1),(1,1)] f42 e) emp
def X45(e)(N):=cV<|CoX e [] [(100,1),(402,1)] f45 N
def c45L0b:=(λe=>cV<|CoU X45 e [] 0) emp
def c45L0:=(λe a=>cV<|CoU X45 e [a] 1) emp c45L0b
def c45:=(λe a b=>cV<|CoU X45 e [a,b] 2) emp c45L0b c45L0
def c46:=(λe=>cV<|CoW [(0,1),(1,1)] f46 e) emp
def X47(e)(N):=cV<|CoX e [] [(100,1),(402,1)] f47 N
def c47L0b:=(λe=>cV<|CoU X47 e [] 0) emp
def c47L0:=(λe a=>cV<|CoU X47 e [a] 1) emp c47L0b
def c47:=(λe a b=>cV<|CoU X47 e [a,b] 2) emp c47L0b c47L0
def c48:=(λe=>cV<|CoW [(0,1),(1,1)] f48 e) emp
def X49(e)(N):=cV<|CoX e [] [(100,1),(402,1)] f49 N
def c49L0b:=(λe=>cV<|CoU X49 e [] 0) emp
def c49L0:=(λe a=>cV<|CoU X49 e [a] 1) emp c49L0b
def c49:=(λe a b=>cV<|CoU X49 e [a,b] 2) emp c49L0b c49L0
def c50:=(λe=>cV<|CoW [(0,1),(1,1)] f50 e) emp
def X54(e)(N):=cV<|CoX e [] [] f54 N
def c54L0b:=(λe=>cV<|CoU X54 e [] 0) emp
def c54L0:=(λe a=>cV<|CoU X54 e [a] 1) emp c54L0b
def c54:=(λe a b=>cV<|CoU X54 e [a,b] 2) emp c54L0b c54L0
def X55(e)(N):=cV<|CoX e [] [] f55 N
def c55L0b:=(λe=>cV<|CoU X55 e [] 0) emp
def c55L0:=(λe a=>cV<|CoU X55 e [a] 1) emp c55L0b
def c55:=(λe a b=>cV<|CoU X55 e [a,b] 2) emp c55L0b c55L0
def X56(e)(N):=cV<|CoX e [] [] f56 N
def c56L0b:=(λe=>cV<|CoU X56 e [] 0) emp
def c56L0:=(λe a=>cV<|CoU X56 e [a] 1) emp c56L0b
def c56:=(λe a b=>cV<|CoU X56 e [a,b] 2) emp c56L0b c56L0
def X57(e)(N):=cV<|CoX e [] [(303,1),(405,1),(1003,1),(1109,1)] f57 N
def c57L0b:=(λe=>cV<|CoU X57 e [] 0) emp
def c57L0:=(λe a=>cV<|CoU X57 e [a] 1) emp c57L0b
def c57L1b:=(λe a b=>cV<|CoU X57 e [a,b] 2) emp c57L0b c57L0
def c57L1:=(λe a b c=>cV<|CoU X57 e [a,b,c] 3) emp c57L0b c57L0 c57L1b
def c57:=(λe a b c d=>cV<|CoU X57 e [a,b,c,d] 4) emp c57L0b c57L0 c57L1b c57L1
def c60:=(λe=>cV<|CoW [] f60 e) emp
def X62(e)(N):=cV<|CoX e [] [(402,1)] f62 N
def c62L0b:=(λe=>cV<|CoU X62 e [] 0) emp
def c62L0:=(λe a=>cV<|CoU X62 e [a] 1) emp c62L0b
def c62:=(λe a b=>cV<|CoU X62 e [a,b] 2) emp c62L0b c62L0
def c63:=(λe=>cV<|CoW [] f63 e) emp
def c64:=(λe=>cV<|CoW [(302,1)] f64 e) emp
def X65(e)(N):=cV<|CoX e [] [] f65 N
def c65L0b:=(λe=>cV<|CoU X65 e [] 0) emp
def c65L0:=(λe a=>cV<|CoU X65 e [a] 1) emp c65L0b
def c65:=(λe a b=>cV<|CoU X65 e [a,b] 2) emp c65L0b c65L0
def c66:=(λe=>cV<|CoW [] f66 e) emp
def X67(e)(N):=cV<|CoX e [] [(1,1),(108,1)] f67 N
def c67R0a:=(λe=>cV<|CoU X67 e [] 0) emp
def c67R0b:=(λe a=>cV<|CoU X67 e [a] 1) emp c67R0a
def c67:=(λe a b=>cV<|CoU X67 e [a,b] 2) emp c67R0a c67R0b
def c68:=(λe=>cV<|CoW [] f68 e) emp
def X69(e)(N):=cV<|CoX e [] [(1102,1),(1500,2)] f69 N
def c69L0b:=(λe=>cV<|CoU X69 e [] 0) emp
def c69L0:=(λe a=>cV<|CoU X69 e [a] 1) emp c69L0b
def c69:=(λe a b=>cV<|CoU X69 e [a,b] 2) emp c69L0b c69L0
def X70(e)(N):=cV<|CoX e [] [(302,1),(902,1),(1502,1),(2103,1),(2702,1)] f70 N
def c70L0b:=(λe=>cV<|CoU X70 e [] 0) emp
def c70L0:=(λe a=>cV<|CoU X70 e [a] 1) emp c70L0b
def c70L1b:=(λe a b=>cV<|CoU X70 e [a,b] 2) emp c70L0b c70L0
def c70L1:=(λe a b c=>cV<|CoU X70 e [a,b,c] 3) emp c70L0b c70L0 c70L1b
def c70L2b:=(λe a b c d=>cV<|CoU X70 e [a,b,c,d] 4) emp c70L0b c70L0 c70L1b c70L1
def c70L2:=(λe a b c d g=>cV<|CoU X70 e [a,b,c,d,g] 5) emp c70L0b c70L0 c70L1b c70L1 c70L2b
def c70L3b:=(λe a b c d g h=>cV<|CoU X70 e [a,b,c,d,g,h] 6) emp c70L0b c70L0 c70L1b c70L1 c70L2b c70L2
def c70L3:=(λe a b c d g h i=>cV<|CoU X70 e [a,b,c,d,g,h,i] 7) emp c70L0b c70L0 c70L1b c70L1 c70L2b c70L2 c70L3b
def c70L4b:=(λe a b c d g h i j=>cV<|CoU X70 e [a,b,c,d,g,h,i,j] 8) emp c70L0b c70L0 c70L1b c70L1 c70L2b c70L2 c70L3b c70L3
def c70L4:=(λe a b c d g h i j k=>cV<|CoU X70 e [a,b,c,d,g,h,i,j,k] 9) emp c70L0b c70L0 c70L1b c70L1 c70L2b c70L2 c70L3b c70L3 c70L4b
def c70:=(λe a b c d g h i j k l=>cV<|CoU X70 e [a,b,c,d,g,h,i,j,k,l] 10) emp c70L0b c70L0 c70L1b c70L1 c70L2b c70L2 c70L3b c70L3 c70L4b c70L4
def c71:=(λe=>cV<|CoW [] f71 e) emp
def c72:=(λe=>cV<|CoW [(528,1)] f72 e) emp
def c73:=(λe=>cV<|CoW [(323,1)] f73 e) emp
def c74:=(λe=>cV<|CoW [] f74 e) emp
def c75:=(λe=>cV<|CoW [(618,1),(619,1)] f75 e) emp
def c76:=(λe=>cV<|CoW [(323,1)] f76 e) emp
def c77:=(λe=>cV<|CoW [(827,1)] f77 e) emp
def c78:=(λe=>cV<|CoW [(829,1)] f78 e) emp
def X79(e)(N):=cV<|CoX e [] [(1002,1)] f79 N
def c79L0b:=(λe=>cV<|CoU X79 e [] 0) emp
def c79L0:=(λe a=>cV<|CoU X79 e [a] 1) emp c79L0b
def c79:=(λe a b=>cV<|CoU X79 e [a,b] 2) emp c79L0b c79L0
def X80(e)(N):=cV<|CoX e [] [(100,1),(402,1),(1408,1),(1702,1),(1812,1),(2002,2),(2003,1)] f80 N
def c80L0b:=(λe=>cV<|CoU X80 e [] 0) emp
def c80L0:=(λe a=>cV<|CoU X80 e [a] 1) emp c80L0b
def c80L1b:=(λe a b=>cV<|CoU X80 e [a,b] 2) emp c80L0b c80L0
def c80L1:=(λe a b c=>cV<|CoU X80 e [a,b,c] 3) emp c80L0b c80L0 c80L1b
def c80:=(λe a b c d=>cV<|CoU X80 e [a,b,c,d] 4) emp c80L0b c80L0 c80L1b c80L1
def X81(e)(N):=cV<|CoX e [] [(300,1),(1110,1),(1508,1),(1921,1),(2308,1)] f81 N
def c81L0b:=(λe=>cV<|CoU X81 e [] 0) emp
def c81L0:=(λe a=>cV<|CoU X81 e [a] 1) emp c81L0b
def c81L1b:=(λe a b=>cV<|CoU X81 e [a,b] 2) emp c81L0b c81L0
def c81L1:=(λe a b c=>cV<|CoU X81 e [a,b,c] 3) emp c81L0b c81L0 c81L1b
def c81L2b:=(λe a b c d=>cV<|CoU X81 e [a,b,c,d] 4) emp c81L0b c81L0 c81L1b c81L1
def c81L2:=(λe a b c d g=>cV<|CoU X81 e [a,b,c,d,g] 5) emp c81L0b c81L0 c81L1b c81L1 c81L2b
def c81:=(λe a b c d g h=>cV<|CoU X81 e [a,b,c,d,g,h] 6) emp c81L0b c81L0 c81L1b c81L1 c81L2b c81L2
def X82(e)(N):=cV<|CoX e [] [(903,1),(1102,1)] f82 N
def c82L0b:=(λe=>cV<|CoU X82 e [] 0) emp
def c82L0:=(λe a=>cV<|CoU X82 e [a] 1) emp c82L0b
def c82:=(λe a b=>cV<|CoU X82 e [a,b] 2) emp c82L0b c82L0
def X83(e)(N):=cV<|CoX e [] [(105,1),(1402,1)] f83 N
def s83p0:=(λe=>cV<|Zr2 (CoU X83 e [] 0) [0]) emp
def s83p1:=(λe=>cV<|Zr2 (CoU X83 e [] 0) [1,0]) emp
def s83p2:=(λe=>cV<|Zr2 (CoU X83 e [] 0) [1,1,0]) emp
def s83p3:=(λe=>cV<|Zr2 (CoU X83 e [] 0) [1,1,1,0]) emp
def s83p4:=(λe=>cV<|Zr2 (CoU X83 e [] 0) [1,1,1,1,0]) emp
def s83p5:=(λe=>cV<|Zr2 (CoU X83 e [] 0) [1,1,1,1,1,0]) emp
def s83p6:=(λe=>cV<|Zr2 (CoU X83 e [] 0) [1,1,1,1,1,1,0]) emp
def s83p7:=(λe=>cV<|Zr2 (CoU X83 e [] 0) [1,1,1,1,1,1,1,0]) emp
def c83:ACode:=.seq s83p0<|.seq s83p1<|.seq s83p2<|.seq s83p3<|.seq s83p4<|.seq s83p5<|.seq s83p6<|.seq s83p7 .ret
def X84(e)(N):=cV<|CoX e [] [(819,1)] f84 N
def c84L0b:=(λe=>cV<|CoU X84 e [] 0) emp
def c84L0:=(λe a=>cV<|CoU X84 e [a] 1) emp c84L0b
def c84:=(λe a b=>cV<|CoU X84 e [a,b] 2) emp c84L0b c84L0
def c85:=(λe=>cV<|CoW [(119,1)] f85 e) emp
def c86:=(λe=>cV<|CoW [(317,1)] f86 e) emp
def X87(e)(N):=cV<|CoX e [] [(100,1),(402,1),(902,1),(1402,1),(1902,1),(2402,1)] f87 N
def c87L0b:=(λe=>cV<|CoU X87 e [] 0) emp
def c87L0:=(λe a=>cV<|CoU X87 e [a] 1) emp c87L0b
def c87L1b:=(λe a b=>cV<|CoU X87 e [a,b] 2) emp c87L0b c87L0
def c87L1:=(λe a b c=>cV<|CoU X87 e [a,b,c] 3) emp c87L0b c87L0 c87L1b
def c87L2b:=(λe a b c d=>cV<|CoU X87 e [a,b,c,d] 4) emp c87L0b c87L0 c87L1b c87L1
def c87L2:=(λe a b c d g=>cV<|CoU X87 e [a,b,c,d,g] 5) emp c87L0b c87L0 c87L1b c87L1 c87L2b
def c87L3b:=(λe a b c d g h=>cV<|CoU X87 e [a,b,c,d,g,h] 6) emp c87L0b c87L0 c87L1b c87L1 c87L2b c87L2
def c87L3:=(λe a b c d g h i=>cV<|CoU X87 e [a,b,c,d,g,h,i] 7) emp c87L0b c87L0 c87L1b c87L1 c87L2b c87L2 c87L3b
def c87L4b:=(λe a b c d g h i j=>cV<|CoU X87 e [a,b,c,d,g,h,i,j] 8) emp c87L0b c87L0 c87L1b c87L1 c87L2b c87L2 c87L3b c87L3
def c87L4:=(λe a b c d g h i j k=>cV<|CoU X87 e [a,b,c,d,g,h,i,j,k] 9) emp c87L0b c87L0 c87L1b c87L1 c87L2b c87L2 c87L3b c87L3 c87L4b
def c87:=(λe a b c d g h i j k l=>cV<|CoU X87 e [a,b,c,d,g,h,i,j,k,l] 10) emp c87L0b c87L0 c87L1b c87L1 c87L2b c87L2 c87L3b c87L3 c87L4b c87L4
def X88(e)(N):=cV<|CoX e [] [(402,1),(505,1)] f88 N
def c88L0b:=(λe=>cV<|CoU X88 e [] 0) emp
def c88L0:=(λe a=>cV<|CoU X88 e [a] 1) emp c88L0b
def c88:=(λe a b=>cV<|CoU X88 e [a,b] 2) emp c88L0b c88L0
def X89(e)(N):=cV<|CoX e [] [] f89 N
def c89L0b:=(λe=>cV<|CoU X89 e [] 0) emp
def c89L0:=(λe a=>cV<|CoU X89 e [a] 1) emp c89L0b
def c89:=(λe a b=>cV<|CoU X89 e [a,b] 2) emp c89L0b c89L0
def X90(e)(N):=cV<|CoX e [] [] f90 N
def c90L0b:=(λe=>cV<|CoU X90 e [] 0) emp
def c90L0:=(λe a=>cV<|CoU X90 e [a] 1) emp c90L0b
def c90:=(λe a b=>cV<|CoU X90 e [a,b] 2) emp c90L0b c90L0
def c101:=(λe=>cV<|CoW [] f101 e) emp
def c102:=(λe=>cV<|CoW [(0,1),(1,1),(102,1)] f102 e) emp
def c103:=(λe=>cV<|CoW [(0,1),(100,1)] f103 e) emp
def Zxj(e)(N):=cV<|CoX e [] [(101,1),(202,1),(203,1),(404,1),(604,1),(1002,1),(1104,1),(1602,1),(1804,1)] f104 N
def c104L0b:=(λe=>cV<|CoU Zxj e [] 0) emp
def c104L0:=(λe a=>cV<|CoU Zxj e [a] 1) emp c104L0b
def c104L1b:=(λe a b=>cV<|CoU Zxj e [a,b] 2) emp c104L0b c104L0
def c104L1:=(λe a b c=>cV<|CoU Zxj e [a,b,c] 3) emp c104L0b c104L0 c104L1b
def s104p0:=(λe a b c d=>cV<|Zr2 (CoU Zxj e [a,b,c,d] 4) [0]) emp c104L0b c104L0 c104L1b c104L1
def s104p1:=(λe a b c d=>cV<|Zr2 (CoU Zxj e [a,b,c,d] 4) [1,0]) emp c104L0b c104L0 c104L1b c104L1
def s104p2:=(λe a b c d=>cV<|Zr2 (CoU Zxj e [a,b,c,d] 4) [1,1,0]) emp c104L0b c104L0 c104L1b c104L1
def s104p3:=(λe a b c d=>cV<|Zr2 (CoU Zxj e [a,b,c,d] 4) [1,1,1,0]) emp c104L0b c104L0 c104L1b c104L1
def s104p4:=(λe a b c d=>cV<|Zr2 (CoU Zxj e [a,b,c,d] 4) [1,1,1,1,0]) emp c104L0b c104L0 c104L1b c104L1
def s104p5:=(λe a b c d=>cV<|Zr2 (CoU Zxj e [a,b,c,d] 4) [1,1,1,1,1,0]) emp c104L0b c104L0 c104L1b c104L1
def s104p6:=(λe a b c d=>cV<|Zr2 (CoU Zxj e [a,b,c,d] 4) [1,1,1,1,1,1,0]) emp c104L0b c104L0 c104L1b c104L1
def s104p7:=(λe a b c d=>cV<|Zr2 (CoU Zxj e [a,b,c,d] 4) [1,1,1,1,1,1,1,0]) emp c104L0b c104L0 c104L1b c104L1
def c104:ACode:=.seq s104p0<|.seq s104p1<|.seq s104p2<|.seq s104p3<|.seq s104p4<|.seq s104p5<|.seq s104p6<|.seq s104p7 .ret
def c105:=(λe=>cV<|CoW [] f105 e) emp
def c106:=(λe=>cV<|CoW [] f106 e) emp
def c107:=(λe=>cV<|CoW [(100,2)] f107 e) emp
def c108:=(λe=>cV<|CoW [] f108 e) emp
def ZPr(e)(N):=cV<|CoX e [] [(1200,1),(1502,1)] f109 N
def c109L0b:=(λe=>cV<|CoU ZPr e [] 0) emp
def c109L0:=(λe a=>cV<|CoU ZPr e [a] 1) emp c109L0b
def c109:=(λe a b=>cV<|CoU ZPr e [a,b] 2) emp c109L0b c109L0
def ZPs(e)(N):=cV<|CoX e [] [(402,1),(801,1),(802,1)] f110 N
def c110L0b:=(λe=>cV<|CoU ZPs e [] 0) emp
def c110L0:=(λe a=>cV<|CoU ZPs e [a] 1) emp c110L0b
def c110:=(λe a b=>cV<|CoU ZPs e [a,b] 2) emp c110L0b c110L0
def c111:=(λe=>cV<|CoW [(100,2)] f111 e) emp
def c112:=(λe=>cV<|CoW [(100,2)] f112 e) emp
def c113:=(λe=>cV<|CoW [] f113 e) emp
def ZPt(e)(N):=cV<|CoX e [] [(3,1),(105,1),(200,1)] f114 N
def c114R0a:=(λe=>cV<|CoU ZPt e [] 0) emp
def c114R0b:=(λe a=>cV<|CoU ZPt e [a] 1) emp c114R0a
def c114:=(λe a b=>cV<|CoU ZPt e [a,b] 2) emp c114R0a c114R0b
def c115:=(λe s0=>cV<|coY (CoX e [(376,s0)] [(104,2)] f115) [] 0) emp (B [120])
def c116:=(λe=>cV<|CoW [(0,1)] f116 e) emp
def ZOm(e)(N):=cV<|CoX e [] [(105,1)] f117 N
def c117L0b:=(λe=>cV<|CoU ZOm e [] 0) emp
def c117L0:=(λe a=>cV<|CoU ZOm e [a] 1) emp c117L0b
def s117p0:=(λe a b=>cV<|Zr2 (CoU ZOm e [a,b] 2) [0]) emp c117L0b c117L0
def s117p1:=(λe a b=>cV<|Zr2 (CoU ZOm e [a,b] 2) [1,0]) emp c117L0b c117L0
def s117p2:=(λe a b=>cV<|Zr2 (CoU ZOm e [a,b] 2) [1,1,0]) emp c117L0b c117L0
def s117p3:=(λe a b=>cV<|Zr2 (CoU ZOm e [a,b] 2) [1,1,1,0]) emp c117L0b c117L0
def s117p4:=(λe a b=>cV<|Zr2 (CoU ZOm e [a,b] 2) [1,1,1,1,0]) emp c117L0b c117L0
def s117p5:=(λe a b=>cV<|Zr2 (CoU ZOm e [a,b] 2) [1,1,1,1,1,0]) emp c117L0b c117L0
def s117p6:=(λe a b=>cV<|Zr2 (CoU ZOm e [a,b] 2) [1,1,1,1,1,1,0]) emp c117L0b c117L0
def s117p7:=(λe a b=>cV<|Zr2 (CoU ZOm e [a,b] 2) [1,1,1,1,1,1,1,0]) emp c117L0b c117L0
def s117p8:=(λe a b=>cV<|Zr2 (CoU ZOm e [a,b] 2) [1,1,1,1,1,1,1,1,0]) emp c117L0b c117L0
def s117p9:=(λe a b=>cV<|Zr2 (CoU ZOm e [a,b] 2) [1,1,1,1,1,1,1,1,1,0]) emp c117L0b c117L0
def s117p10:=(λe a b=>cV<|Zr2 (CoU ZOm e [a,b] 2) [1,1,1,1,1,1,1,1,1,1,0]) emp c117L0b c117L0
def c117:ACode:=.seq s117p0<|.seq s117p1<|.seq s117p2<|.seq s117p3<|.seq s117p4<|.seq s117p5<|.seq s117p6<|.seq s117p7<|.seq s117p8<|.seq s117p9<|.seq s117p10 .ret
def c118:=(λe=>cV<|CoW [] f118 e) emp
def c119:=(λe=>cV<|CoW [(100,2),(101,1),(301,1),(401,1)] f119 e) emp
def ZLE(e)(N):=cV<|CoX e [] [(702,1),(1502,1)] f120 N
def c120L0b:=(λe=>cV<|CoU ZLE e [] 0) emp
def c120L0:=(λe a=>cV<|CoU ZLE e [a] 1) emp c120L0b
def c120L1b:=(λe a b=>cV<|CoU ZLE e [a,b] 2) emp c120L0b c120L0
def c120L1:=(λe a b c=>cV<|CoU ZLE e [a,b,c] 3) emp c120L0b c120L0 c120L1b
def c120L2b:=(λe a b c d=>cV<|CoU ZLE e [a,b,c,d] 4) emp c120L0b c120L0 c120L1b c120L1
def c120L2:=(λe a b c d g=>cV<|CoU ZLE e [a,b,c,d,g] 5) emp c120L0b c120L0 c120L1b c120L1 c120L2b
def c120L3b:=(λe a b c d g h=>cV<|CoU ZLE e [a,b,c,d,g,h] 6) emp c120L0b c120L0 c120L1b c120L1 c120L2b c120L2
def c120L3:=(λe a b c d g h i=>cV<|CoU ZLE e [a,b,c,d,g,h,i] 7) emp c120L0b c120L0 c120L1b c120L1 c120L2b c120L2 c120L3b
def c120:=(λe a b c d g h i j=>cV<|CoU ZLE e [a,b,c,d,g,h,i,j] 8) emp c120L0b c120L0 c120L1b c120L1 c120L2b c120L2 c120L3b c120L3
def c121:=(λe=>cV<|CoW [] f121 e) emp
def c122:=(λe=>cV<|CoW [] f122 e) emp
def c123:=(λe=>cV<|CoW [] f123 e) emp
def c124:=(λe=>cV<|CoW [] f124 e) emp
def c125:=(λe=>cV<|CoW [(100,2),(101,1),(204,1)] f125 e) emp
def c126:=(λe=>cV<|CoW [] f126 e) emp
def c127:=(λe=>cV<|CoW [] f127 e) emp
def c128:=(λe=>cV<|CoW [] f128 e) emp
def c129:=(λe=>cV<|CoW [] f129 e) emp
def c130:=(λe=>cV<|CoW [(100,2),(101,1),(204,1)] f130 e) emp
def c131:=(λe=>cV<|CoW [] f131 e) emp
def c132:=(λe=>cV<|CoW [] f132 e) emp
def c133:=(λe=>cV<|CoW [] f133 e) emp
def c134:=(λe=>cV<|CoW [] f134 e) emp
def c135:=(λe=>cV<|CoW [] f135 e) emp
def c136:=(λe=>cV<|CoW [(0,1),(209,1)] f136 e) emp
def c137:=(λe=>cV<|CoW [] f137 e) emp
def c138:=(λe=>cV<|CoW [] f138 e) emp
def c139:=(λe=>cV<|CoW [(100,2)] f139 e) emp
def c140:=(λe=>cV<|CoW [(114,1)] f140 e) emp
def c141:=(λe=>cV<|CoW [(100,2),(101,1),(204,1)] f141 e) emp
def c142:=(λe=>cV<|CoW [] f142 e) emp
def Zxm(e)(N):=cV<|CoX e [] [(503,1)] f143 N
def c143L0b:=(λe=>cV<|CoU Zxm e [] 0) emp
def c143L0:=(λe a=>cV<|CoU Zxm e [a] 1) emp c143L0b
def c143:=(λe a b=>cV<|CoU Zxm e [a,b] 2) emp c143L0b c143L0
def c144:=(λe=>cV<|CoW [(100,2),(101,1),(204,1)] f144 e) emp
def c145:=(λe=>cV<|CoW [] f145 e) emp
def c146:=(λe=>cV<|CoW [] f146 e) emp
def c147:=(λe=>cV<|CoW [(100,2)] f147 e) emp
def c148:=(λe=>cV<|CoW [] f148 e) emp
def c149:=(λe=>cV<|CoW [] f149 e) emp
def c150:=(λe=>cV<|CoW [] f150 e) emp
def c151:=(λe=>cV<|CoW [(100,2),(101,1),(204,1)] f151 e) emp
def c152:=(λe=>cV<|CoW [] f152 e) emp
def c153:=(λe=>cV<|CoW [] f153 e) emp
def c154:=(λe=>cV<|CoW [] f154 e) emp
def c160:=(λe=>cV<|CoW [(100,2)] f160 e) emp
def c161:=(λe=>cV<|CoW [] f161 e) emp
def c162:=(λe=>cV<|CoW [] f162 e) emp
def c163:=(λe=>cV<|CoW [] f163 e) emp
def c164:=(λe=>cV<|CoW [] f164 e) emp
def c165:=(λe=>cV<|CoW [] f165 e) emp
def c166:=(λe=>cV<|CoW [(219,2)] f166 e) emp
def c167:=(λe=>cV<|CoW [] f167 e) emp
def ZPu(e)(N):=cV<|CoX e [] [(303,1)] f168 N
def c168L0b:=(λe=>cV<|CoU ZPu e [] 0) emp
def c168L0:=(λe a=>cV<|CoU ZPu e [a] 1) emp c168L0b
def c168:=(λe a b=>cV<|CoU ZPu e [a,b] 2) emp c168L0b c168L0
def c169:=(λe=>cV<|CoW [] f169 e) emp
def ZPv(e)(N):=cV<|CoX e [] [(100,1),(402,1),(1004,2)] f170 N
def c170L0b:=(λe=>cV<|CoU ZPv e [] 0) emp
def c170L0:=(λe a=>cV<|CoU ZPv e [a] 1) emp c170L0b
def c170:=(λe a b=>cV<|CoU ZPv e [a,b] 2) emp c170L0b c170L0
def c171:=(λe=>cV<|CoW [] f171 e) emp
def c172:=(λe=>cV<|CoW [(103,2)] f172 e) emp
def c173:=(λe=>cV<|CoW [] f173 e) emp
def c174:=(λe=>cV<|CoW [] f174 e) emp
def c175:=(λe=>cV<|CoW [] f175 e) emp
def c176:=(λe=>cV<|CoW [] f176 e) emp
def c177:=(λe=>cV<|CoW [] f177 e) emp
def c178:=(λe=>cV<|CoW [] f178 e) emp
def c179:=(λe=>cV<|CoW [(112,2)] f179 e) emp
def ZPw(e)(N):=cV<|CoX e [] [(100,1),(402,1),(900,2),(903,2)] f180 N
def c180L0b:=(λe=>cV<|CoU ZPw e [] 0) emp
def c180L0:=(λe a=>cV<|CoU ZPw e [a] 1) emp c180L0b
def c180:=(λe a b=>cV<|CoU ZPw e [a,b] 2) emp c180L0b c180L0
def c181:=(λe=>cV<|CoW [(100,2)] f181 e) emp
def c182:=(λe=>cV<|CoW [(109,1)] f182 e) emp
def c183:=(λe=>cV<|CoW [(107,1)] f183 e) emp
def c184:=(λe=>cV<|CoW [] f184 e) emp
def c185:=(λe=>cV<|CoW [] f185 e) emp
def c186:=(λe=>cV<|CoW [(100,2)] f186 e) emp
def Zxs(e)(N):=cV<|CoX e [] [(202,1),(314,1),(702,1),(1008,1),(1402,1),(1526,1),(1902,1),(2008,1)] f187 N
def c187L0b:=(λe=>cV<|CoU Zxs e [] 0) emp
def c187L0:=(λe a=>cV<|CoU Zxs e [a] 1) emp c187L0b
def c187L1b:=(λe a b=>cV<|CoU Zxs e [a,b] 2) emp c187L0b c187L0
def c187L1:=(λe a b c=>cV<|CoU Zxs e [a,b,c] 3) emp c187L0b c187L0 c187L1b
def c187L2b:=(λe a b c d=>cV<|CoU Zxs e [a,b,c,d] 4) emp c187L0b c187L0 c187L1b c187L1
def c187L2:=(λe a b c d g=>cV<|CoU Zxs e [a,b,c,d,g] 5) emp c187L0b c187L0 c187L1b c187L1 c187L2b
def c187L3b:=(λe a b c d g h=>cV<|CoU Zxs e [a,b,c,d,g,h] 6) emp c187L0b c187L0 c187L1b c187L1 c187L2b c187L2
def c187L3:=(λe a b c d g h i=>cV<|CoU Zxs e [a,b,c,d,g,h,i] 7) emp c187L0b c187L0 c187L1b c187L1 c187L2b c187L2 c187L3b
def c187:=(λe a b c d g h i j=>cV<|CoU Zxs e [a,b,c,d,g,h,i,j] 8) emp c187L0b c187L0 c187L1b c187L1 c187L2b c187L2 c187L3b c187L3
def c188:=(λe=>cV<|CoW [(100,2)] f188 e) emp
def ZLM(e)(N):=cV<|CoX e [] [] f189 N
def c189L0b:=(λe=>cV<|CoU ZLM e [] 0) emp
def c189L0:=(λe a=>cV<|CoU ZLM e [a] 1) emp c189L0b
def c189:=(λe a b=>cV<|CoU ZLM e [a,b] 2) emp c189L0b c189L0
def c190:=(λe=>cV<|CoW [(108,1),(200,2),(400,2)] f190 e) emp
def c192:=(λe=>cV<|CoW [] f192 e) emp
def ZPx(e)(N):=cV<|CoX e [] [] f193 N
def c193L0b:=(λe=>cV<|CoU ZPx e [] 0) emp
def c193L0:=(λe a=>cV<|CoU ZPx e [a] 1) emp c193L0b
def c193:=(λe a b=>cV<|CoU ZPx e [a,b] 2) emp c193L0b c193L0
def Zxt(e)(N):=cV<|CoX e [] [] f194 N
def c194L0b:=(λe=>cV<|CoU Zxt e [] 0) emp
def c194L0:=(λe a=>cV<|CoU Zxt e [a] 1) emp c194L0b
def c194:=(λe a b=>cV<|CoU Zxt e [a,b] 2) emp c194L0b c194L0
def c195:=(λe=>cV<|CoW [] f195 e) emp
def c196:=(λe=>cV<|CoW [(100,2)] f196 e) emp
def c197:=(λe=>cV<|CoW [] f197 e) emp
def c200:=(λe=>cV<|CoW [(100,2)] f200 e) emp
def c201:=(λe=>cV<|CoW [] f201 e) emp
def c203:=(λe=>cV<|CoW [(100,2)] f203 e) emp
def c204:=(λe=>cV<|CoW [] f204 e) emp
def c206:=(λe=>cV<|CoW [(100,2)] f206 e) emp
def c207:=(λe=>cV<|CoW [] f207 e) emp
def c208:=(λe=>cV<|CoW [] f208 e) emp
def ZPy(e)(N):=cV<|CoX e [] [] f209 N
def c209L0b:=(λe=>cV<|CoU ZPy e [] 0) emp
def c209L0:=(λe a=>cV<|CoU ZPy e [a] 1) emp c209L0b
def c209:=(λe a b=>cV<|CoU ZPy e [a,b] 2) emp c209L0b c209L0
def c211:=(λe=>cV<|CoW [] f211 e) emp
def c212:=(λe=>cV<|CoW [] f212 e) emp
def ZPz(e)(N):=cV<|CoX e [] [] f214 N
def c214L0b:=(λe=>cV<|CoU ZPz e [] 0) emp
def c214L0:=(λe a=>cV<|CoU ZPz e [a] 1) emp c214L0b
def c214:=(λe a b=>cV<|CoU ZPz e [a,b] 2) emp c214L0b c214L0
def c215:=(λe=>cV<|CoW [(100,2)] f215 e) emp
def c216:=(λe=>cV<|CoW [] f216 e) emp
def c217:=(λe=>cV<|CoW [(100,2)] f217 e) emp
def c218:=(λe=>cV<|CoW [] f218 e) emp
def ZPA(e)(N):=cV<|CoX e [] [(303,1),(400,1),(806,1)] f220 N
def c220L0b:=(λe=>cV<|CoU ZPA e [] 0) emp
def c220L0:=(λe a=>cV<|CoU ZPA e [a] 1) emp c220L0b
def c220:=(λe a b=>cV<|CoU ZPA e [a,b] 2) emp c220L0b c220L0
def c221:=(λe=>cV<|CoW [(100,2)] f221 e) emp
def c222:=(λe=>cV<|CoW [] f222 e) emp
def ZPB(e)(N):=cV<|CoX e [] [(100,1),(200,2),(201,1),(300,1),(400,1)] f223 N
def c223R0a:=(λe=>cV<|CoU ZPB e [] 0) emp
def c223R0b:=(λe a=>cV<|CoU ZPB e [a] 1) emp c223R0a
def c223:=(λe a b=>cV<|CoU ZPB e [a,b] 2) emp c223R0a c223R0b
def ZOX(e)(N):=cV<|CoX e [] [(511,1),(512,1)] f224 N
def c224L0b:=(λe=>cV<|CoU ZOX e [] 0) emp
def c224L0:=(λe a=>cV<|CoU ZOX e [a] 1) emp c224L0b
def c224L1b:=(λe a b=>cV<|CoU ZOX e [a,b] 2) emp c224L0b c224L0
def c224L1:=(λe a b c=>cV<|CoU ZOX e [a,b,c] 3) emp c224L0b c224L0 c224L1b
def c224:=(λe a b c d=>cV<|CoU ZOX e [a,b,c,d] 4) emp c224L0b c224L0 c224L1b c224L1
def c225:=(λe s0=>cV<|coY (CoX e [(288,s0)] [] f225) [] 0) emp (B [32])
def ZxB(e)(N):=cV<|CoX e [] [(402,1)] f226 N
def c226L0b:=(λe=>cV<|CoU ZxB e [] 0) emp
def c226L0:=(λe a=>cV<|CoU ZxB e [a] 1) emp c226L0b
def c226:=(λe a b=>cV<|CoU ZxB e [a,b] 2) emp c226L0b c226L0
def ZFA(e)(N):=cV<|CoX e [] [] f227 N
def c227L0b:=(λe=>cV<|CoU ZFA e [] 0) emp
def c227L0:=(λe a=>cV<|CoU ZFA e [a] 1) emp c227L0b
def c227:=(λe a b=>cV<|CoU ZFA e [a,b] 2) emp c227L0b c227L0
def c228:=(λe=>cV<|CoW [(100,2)] f228 e) emp
def c229:=(λe=>cV<|CoW [] f229 e) emp
def c230:=(λe=>cV<|CoW [] f230 e) emp
def ZPC(e)(N):=cV<|CoX e [] [(302,1)] f231 N
def c231L0b:=(λe=>cV<|CoU ZPC e [] 0) emp
def c231L0:=(λe a=>cV<|CoU ZPC e [a] 1) emp c231L0b
def c231:=(λe a b=>cV<|CoU ZPC e [a,b] 2) emp c231L0b c231L0
def c232:=(λe=>cV<|CoW [] f232 e) emp
def c233:=(λe=>cV<|CoW [] f233 e) emp
def ZPD(e)(N):=cV<|CoX e [] [(402,1)] f234 N
def c234L0b:=(λe=>cV<|CoU ZPD e [] 0) emp
def c234L0:=(λe a=>cV<|CoU ZPD e [a] 1) emp c234L0b
def c234:=(λe a b=>cV<|CoU ZPD e [a,b] 2) emp c234L0b c234L0
def c235:=(λe=>cV<|CoW [] f235 e) emp
def c236:=(λe=>cV<|CoW [] f236 e) emp
def ZPE(e)(N):=cV<|CoX e [] [] f237 N
def c237L0b:=(λe=>cV<|CoU ZPE e [] 0) emp
def c237L0:=(λe a=>cV<|CoU ZPE e [a] 1) emp c237L0b
def c237:=(λe a b=>cV<|CoU ZPE e [a,b] 2) emp c237L0b c237L0
def c238:=(λe=>cV<|CoW [(100,2)] f238 e) emp
def c239:=(λe=>cV<|CoW [(100,2)] f239 e) emp
def ZPF(e)(N):=cV<|CoX e [] [(306,1)] f243 N
def c243L0b:=(λe=>cV<|CoU ZPF e [] 0) emp
def c243L0:=(λe a=>cV<|CoU ZPF e [a] 1) emp c243L0b
def c243:=(λe a b=>cV<|CoU ZPF e [a,b] 2) emp c243L0b c243L0
def ZxG(e)(N):=cV<|CoX e [] [] f245 N
def c245L0b:=(λe=>cV<|CoU ZxG e [] 0) emp
def c245L0:=(λe a=>cV<|CoU ZxG e [a] 1) emp c245L0b
def c245:=(λe a b=>cV<|CoU ZxG e [a,b] 2) emp c245L0b c245L0
def ZFD(e)(N):=cV<|CoX e [] [] f246 N
def c246L0b:=(λe=>cV<|CoU ZFD e [] 0) emp
def c246L0:=(λe a=>cV<|CoU ZFD e [a] 1) emp c246L0b
def c246:=(λe a b=>cV<|CoU ZFD e [a,b] 2) emp c246L0b c246L0
def ZxH(e)(N):=cV<|CoX e [] [] f247 N
def c247L0b:=(λe=>cV<|CoU ZxH e [] 0) emp
def c247L0:=(λe a=>cV<|CoU ZxH e [a] 1) emp c247L0b
def c247:=(λe a b=>cV<|CoU ZxH e [a,b] 2) emp c247L0b c247L0
def ZPG(e)(N):=cV<|CoX e [] [] f248 N
def c248L0b:=(λe=>cV<|CoU ZPG e [] 0) emp
def c248L0:=(λe a=>cV<|CoU ZPG e [a] 1) emp c248L0b
def c248:=(λe a b=>cV<|CoU ZPG e [a,b] 2) emp c248L0b c248L0
def c249:=(λe s0 s1 s2 s3 s4 s5 s6 s7 s8=>cV<|coY (CoX e [(233606820031262824291793228925311306333649869794303002079163341563213949795593257878683467579756910891606622701420032317479258,s0),(1436506918544312769132601,s1),(351,s2),(18876682,s3),(291,s4),(290,s5),(289,s6),(80958,s7),(24970544417651213645683474901805,s8)] [(0,1),(100,1),(301,1),(401,1),(501,1),(601,1),(701,1),(801,1),(901,1),(1001,1),(1101,1)] f249) [] 0) emp (B [97,98,99,100,101,102,103,104,105,106,107,108,109,110,111,112,113,114,115,116,117,118,119,120,121,122,65,66,67,68,69,70,71,72,73,74,75,76,77,78,79,80,81,82,83,84,85,86,87,88,89,90]) (B [48,49,50,51,52,53,54,55,56,57]) (B [95]) (B [32,9,10]) (B [35]) (B [34]) (B [33]) (B [60,62]) (B [59,44,46,58,40,41,91,93,123,125,61,43,45])
def ZLR(e)(N):=cV<|CoX e [] [] f250 N
def c250L0b:=(λe=>cV<|CoU ZLR e [] 0) emp
def c250L0:=(λe a=>cV<|CoU ZLR e [a] 1) emp c250L0b
def c250:=(λe a b=>cV<|CoU ZLR e [a,b] 2) emp c250L0b c250L0
def c251:=(λe s0 s1=>cV<|coY (CoX e [(74250,s0),(317,s1)] [(0,1)] f251) [] 0) emp (B [34,10]) (B [61])
def ZPH(e)(N):=cV<|CoX e [] [] f252 N
def c252L0b:=(λe=>cV<|CoU ZPH e [] 0) emp
def c252L0:=(λe a=>cV<|CoU ZPH e [a] 1) emp c252L0b
def c252:=(λe a b=>cV<|CoU ZPH e [a,b] 2) emp c252L0b c252L0
def c253:=(λe=>cV<|CoW [] f253 e) emp
def c254:=(λe=>cV<|CoW [] f254 e) emp
def c255:=(λe=>cV<|CoW [(106,1),(107,1)] f255 e) emp
def c257:=(λe=>cV<|CoW [] f257 e) emp
def ZPI(e)(N):=cV<|CoX e [] [] f258 N
def c258L0b:=(λe=>cV<|CoU ZPI e [] 0) emp
def c258L0:=(λe a=>cV<|CoU ZPI e [a] 1) emp c258L0b
def c258:=(λe a b=>cV<|CoU ZPI e [a,b] 2) emp c258L0b c258L0
def c259:=(λe=>cV<|CoW [(0,1)] f259 e) emp
def c260:=(λe=>cV<|CoW [] f260 e) emp
def ZxL(e)(N):=cV<|CoX e [] [(1,1),(2,1),(100,2),(101,1),(200,1),(300,1)] f261 N
def c261R0a:=(λe=>cV<|CoU ZxL e [] 0) emp
def c261R0b:=(λe a=>cV<|CoU ZxL e [a] 1) emp c261R0a
def c261:=(λe a b=>cV<|CoU ZxL e [a,b] 2) emp c261R0a c261R0b
def ZPJ(e)(N):=cV<|CoX e [] [] f273 N
def c273L0b:=(λe=>cV<|CoU ZPJ e [] 0) emp
def c273L0:=(λe a=>cV<|CoU ZPJ e [a] 1) emp c273L0b
def c273:=(λe a b=>cV<|CoU ZPJ e [a,b] 2) emp c273L0b c273L0
def ZxO(e)(N):=cV<|CoX e [] [] f274 N
def c274L0b:=(λe=>cV<|CoU ZxO e [] 0) emp
def c274L0:=(λe a=>cV<|CoU ZxO e [a] 1) emp c274L0b
def c274:=(λe a b=>cV<|CoU ZxO e [a,b] 2) emp c274L0b c274L0
def c275:=(λe=>cV<|CoW [] f275 e) emp
def c279:=(λe=>cV<|CoW [] f279 e) emp
def ZPK(e)(N):=cV<|CoX e [] [(203,1),(310,1)] f280 N
def c280L0b:=(λe=>cV<|CoU ZPK e [] 0) emp
def c280L0:=(λe a=>cV<|CoU ZPK e [a] 1) emp c280L0b
def c280:=(λe a b=>cV<|CoU ZPK e [a,b] 2) emp c280L0b c280L0
def ZPL(e)(N):=cV<|CoX e [] [(302,1)] f281 N
def c281L0b:=(λe=>cV<|CoU ZPL e [] 0) emp
def c281L0:=(λe a=>cV<|CoU ZPL e [a] 1) emp c281L0b
def c281:=(λe a b=>cV<|CoU ZPL e [a,b] 2) emp c281L0b c281L0
def c282:=(λe=>cV<|CoW [(2,1)] f282 e) emp
def c283:=(λe=>cV<|CoW [] f283 e) emp
def c284:=(λe=>cV<|CoW [(503,1)] f284 e) emp
def c285:=(λe=>cV<|CoW [] f285 e) emp
def ZPM(e)(N):=cV<|CoX e [] [] f287 N
def c287L0b:=(λe=>cV<|CoU ZPM e [] 0) emp
def c287L0:=(λe a=>cV<|CoU ZPM e [a] 1) emp c287L0b
def c287:=(λe a b=>cV<|CoU ZPM e [a,b] 2) emp c287L0b c287L0
def c308:=(λe=>cV<|CoW [] f308 e) emp
def c309:=(λe=>cV<|CoW [(2,1)] f309 e) emp
def c310:=(λe=>cV<|CoW [] f310 e) emp
def c311:=(λe=>cV<|CoW [] f311 e) emp
def FN0:List (Nat×AFun):=[(3,⟨[.tmp 6],c3⟩),(9,⟨[.tmp 0],c9⟩),(10,⟨[.tmp 4],c10⟩),(11,⟨[.tmp 2],c11⟩),(12,⟨[.tmp 4,.tmp 5],c12⟩),(13,⟨[.cell 6<|some 7,.tmp 7],c13⟩),(14,⟨[.tmp 4],c14⟩),(15,⟨[.tmp 2],c15⟩),(16,⟨[.tmp 6],c16⟩),(17,⟨[.tmp 4],c17⟩),(19,⟨[.tmp 2],c19⟩),(20,⟨[.tmp 4],c20⟩),(21,⟨[.tmp 0],c21⟩),(22,⟨[.tmp 2],c22⟩)]
def FN1:List (Nat×AFun):=[(23,⟨[.cell 6<|some 7],c23⟩),(24,⟨[.cell 2<|some 7],c24⟩),(25,⟨[.tmp 4],c25⟩),(26,⟨[.tmp 4],c26⟩),(27,⟨[.tmp 4],c27⟩),(28,⟨[.tmp 4],c28⟩),(29,⟨[.tmp 4],c29⟩),(30,⟨[.tmp 6],c30⟩),(35,⟨[.tmp 4],c35⟩),(36,⟨[.cell 2<|some 18],c36⟩),(37,⟨[.tmp 6],c37⟩),(38,⟨[.cell 6<|some 7,.tmp 7],c38⟩),(39,⟨[.cell 0<|some 8],c39⟩),(40,⟨[.tmp 2],c40⟩)]
def FN2:List (Nat×AFun):=[(41,⟨[.tmp 4],c41⟩),(42,⟨[.cell 2<|some 6],c42⟩),(45,⟨[.tmp 4],c45⟩),(46,⟨[.cell 2<|some 5],c46⟩),(47,⟨[.tmp 4],c47⟩),(48,⟨[.cell 2<|some 4],c48⟩),(49,⟨[.tmp 4],c49⟩),(50,⟨[.cell 2<|some 16],c50⟩),(54,⟨[.tmp 4],c54⟩),(55,⟨[.tmp 4],c55⟩),(56,⟨[.tmp 4],c56⟩),(57,⟨[],c57⟩),(62,⟨[.tmp 2,.tmp 3],c62⟩),(63,⟨[.tmp 2],c63⟩)]
def FN3:List (Nat×AFun):=[(64,⟨[.tmp 2],c64⟩),(65,⟨[.tmp 4],c65⟩),(66,⟨[.tmp 2],c66⟩),(67,⟨[.cell 2 none],c67⟩),(68,⟨[.tmp 2],c68⟩),(69,⟨[.tmp 2],c69⟩),(70,⟨[.tmp 2],c70⟩),(71,⟨[.tmp 6],c71⟩),(72,⟨[.tmp 2],c72⟩),(73,⟨[.tmp 2],c73⟩),(74,⟨[.tmp 2],c74⟩),(75,⟨[.tmp 2],c75⟩),(76,⟨[.tmp 2],c76⟩),(77,⟨[.tmp 2],c77⟩)]
def FN4:List (Nat×AFun):=[(78,⟨[.tmp 2],c78⟩),(79,⟨[.tmp 2],c79⟩),(80,⟨[.tmp 2],c80⟩),(81,⟨[.tmp 2],c81⟩),(82,⟨[.tmp 2],c82⟩),(83,⟨[.tmp 2],c83⟩),(84,⟨[.tmp 2],c84⟩),(85,⟨[.tmp 2],c85⟩),(86,⟨[.tmp 2],c86⟩),(87,⟨[.tmp 2],c87⟩),(88,⟨[.tmp 2],c88⟩),(89,⟨[.tmp 2],c89⟩),(90,⟨[.tmp 2],c90⟩),(101,⟨[.tmp 6],c101⟩)]
def FN5:List (Nat×AFun):=[(102,⟨[.cell 2<|some 18],c102⟩),(103,⟨[.cell 0<|some 16],c103⟩),(104,⟨[.tmp 4],c104⟩),(105,⟨[.tmp 3],c105⟩),(106,⟨[.tmp 2],c106⟩),(107,⟨[.tmp 4],c107⟩),(108,⟨[.tmp 3],c108⟩),(109,⟨[.tmp 2],c109⟩),(110,⟨[.tmp 4],c110⟩),(111,⟨[.tmp 4],c111⟩),(112,⟨[.tmp 4],c112⟩),(113,⟨[.tmp 3],c113⟩),(114,⟨[.cell 6 none],c114⟩),(115,⟨[.tmp 2],c115⟩)]
def FN6:List (Nat×AFun):=[(116,⟨[.tmp 4],c116⟩),(117,⟨[.tmp 4],c117⟩),(118,⟨[.tmp 4],c118⟩),(119,⟨[.tmp 2],c119⟩),(120,⟨[.tmp 2],c120⟩),(121,⟨[.tmp 6],c121⟩),(122,⟨[.tmp 4],c122⟩),(123,⟨[.tmp 4],c123⟩),(124,⟨[.tmp 2],c124⟩),(125,⟨[.tmp 6],c125⟩),(126,⟨[],c126⟩),(127,⟨[.tmp 2],c127⟩),(128,⟨[.tmp 4],c128⟩),(129,⟨[],c129⟩)]
def FN7:List (Nat×AFun):=[(130,⟨[.tmp 6],c130⟩),(131,⟨[],c131⟩),(132,⟨[],c132⟩),(133,⟨[],c133⟩),(134,⟨[.tmp 2],c134⟩),(135,⟨[.tmp 4],c135⟩),(136,⟨[],c136⟩),(137,⟨[.tmp 2],c137⟩),(138,⟨[.tmp 3],c138⟩),(139,⟨[.tmp 4],c139⟩),(140,⟨[.tmp 3],c140⟩),(141,⟨[.tmp 6],c141⟩),(142,⟨[],c142⟩),(143,⟨[],c143⟩)]
def FN8:List (Nat×AFun):=[(144,⟨[.tmp 6],c144⟩),(145,⟨[],c145⟩),(146,⟨[],c146⟩),(147,⟨[.tmp 4],c147⟩),(148,⟨[.tmp 3],c148⟩),(149,⟨[],c149⟩),(150,⟨[.tmp 4],c150⟩),(151,⟨[.tmp 6],c151⟩),(152,⟨[],c152⟩),(153,⟨[.tmp 4],c153⟩),(154,⟨[.tmp 2],c154⟩),(160,⟨[.tmp 3],c160⟩),(161,⟨[.tmp 2],c161⟩),(162,⟨[.tmp 2],c162⟩)]
def FN9:List (Nat×AFun):=[(163,⟨[.tmp 2],c163⟩),(164,⟨[.tmp 4],c164⟩),(165,⟨[.tmp 3],c165⟩),(166,⟨[.tmp 2],c166⟩),(167,⟨[.tmp 3],c167⟩),(168,⟨[.tmp 2],c168⟩),(169,⟨[.tmp 3],c169⟩),(170,⟨[.tmp 2],c170⟩),(171,⟨[.tmp 2],c171⟩),(172,⟨[.tmp 2],c172⟩),(173,⟨[.tmp 3],c173⟩),(174,⟨[.tmp 2],c174⟩),(175,⟨[.tmp 2],c175⟩),(176,⟨[.tmp 2],c176⟩)]
def ZjY:List (Nat×AFun):=[(177,⟨[.tmp 2],c177⟩),(178,⟨[.tmp 4],c178⟩),(179,⟨[.tmp 3],c179⟩),(180,⟨[.tmp 4],c180⟩),(181,⟨[.tmp 4],c181⟩),(182,⟨[.tmp 2],c182⟩),(183,⟨[.tmp 2],c183⟩),(184,⟨[.tmp 3],c184⟩),(185,⟨[.tmp 2],c185⟩),(186,⟨[.tmp 3],c186⟩),(187,⟨[],c187⟩),(188,⟨[.tmp 4],c188⟩),(189,⟨[.tmp 4],c189⟩),(190,⟨[.tmp 4],c190⟩)]
def ZjZ:List (Nat×AFun):=[(192,⟨[.tmp 2],c192⟩),(193,⟨[.tmp 4],c193⟩),(194,⟨[.tmp 4],c194⟩),(195,⟨[.tmp 2],c195⟩),(196,⟨[.tmp 4],c196⟩),(197,⟨[.tmp 3],c197⟩),(200,⟨[.tmp 4],c200⟩),(201,⟨[.tmp 3],c201⟩),(203,⟨[.tmp 4],c203⟩),(204,⟨[.tmp 3],c204⟩),(206,⟨[.tmp 4],c206⟩),(207,⟨[.tmp 3],c207⟩),(208,⟨[.tmp 2],c208⟩),(209,⟨[.tmp 4],c209⟩)]
def Zk0:List (Nat×AFun):=[(211,⟨[],c211⟩),(212,⟨[],c212⟩),(214,⟨[.tmp 4],c214⟩),(215,⟨[.tmp 4],c215⟩),(216,⟨[.tmp 3],c216⟩),(217,⟨[.tmp 4],c217⟩),(218,⟨[.tmp 3],c218⟩),(220,⟨[.tmp 2,.tmp 3,.tmp 4],c220⟩),(221,⟨[.tmp 4],c221⟩),(222,⟨[.tmp 2],c222⟩),(223,⟨[.tmp 2],c223⟩),(224,⟨[.tmp 2],c224⟩),(225,⟨[.tmp 2],c225⟩),(226,⟨[.tmp 2],c226⟩)]
def Zsg:List (Nat×AFun):=[(227,⟨[.tmp 2],c227⟩),(228,⟨[.tmp 4],c228⟩),(229,⟨[.tmp 2],c229⟩),(230,⟨[.tmp 2],c230⟩),(231,⟨[.tmp 4],c231⟩),(232,⟨[.tmp 2],c232⟩),(233,⟨[.tmp 4],c233⟩),(234,⟨[.tmp 2],c234⟩),(235,⟨[.tmp 3],c235⟩),(236,⟨[.tmp 2],c236⟩),(237,⟨[.tmp 4],c237⟩),(238,⟨[.tmp 4],c238⟩),(239,⟨[.tmp 4],c239⟩),(243,⟨[],c243⟩)]
def Zsh:List (Nat×AFun):=[(245,⟨[.tmp 4],c245⟩),(246,⟨[.tmp 4],c246⟩),(247,⟨[.tmp 4],c247⟩),(248,⟨[.tmp 4],c248⟩),(249,⟨[.cell 0<|some 256],c249⟩),(250,⟨[.tmp 4],c250⟩),(251,⟨[.cell 4<|some 4,.tmp 5,.tmp 6],c251⟩),(252,⟨[.tmp 4],c252⟩),(253,⟨[.tmp 2],c253⟩),(254,⟨[.tmp 6],c254⟩),(255,⟨[.tmp 8],c255⟩),(257,⟨[.tmp 2],c257⟩),(258,⟨[.tmp 4],c258⟩),(259,⟨[.cell 0<|some 56],c259⟩)]
def ZCZ:List (Nat×AFun):=[(260,⟨[.tmp 4],c260⟩),(261,⟨[.cell 4 none,.cell 5 none],c261⟩),(273,⟨[],c273⟩),(274,⟨[.tmp 6],c274⟩),(275,⟨[.tmp 4],c275⟩),(279,⟨[.tmp 4],c279⟩),(280,⟨[],c280⟩),(281,⟨[.tmp 2],c281⟩),(282,⟨[.cell 4<|some 6],c282⟩),(283,⟨[.tmp 4],c283⟩),(284,⟨[.tmp 6],c284⟩),(285,⟨[.tmp 6],c285⟩),(287,⟨[.tmp 6],c287⟩),(308,⟨[.tmp 4],c308⟩)]
def ZQm:List (Nat×AFun):=[(309,⟨[.cell 4<|some 2],c309⟩),(310,⟨[.tmp 4],c310⟩),(311,⟨[.tmp 4],c311⟩)]
def ZjW(f:Nat)(l:List<|Nat×AFun):Option AFun:=l.foldr (λp r=>bif Nat.beq f p.1 then some p.2 else r) none
def N0(f:Nat):Option AFun:=bif Nat.blt f 23 then ZjW f FN0 else bif Nat.blt f 41 then ZjW f FN1 else bif Nat.blt f 64 then ZjW f FN2 else bif Nat.blt f 78 then ZjW f FN3 else bif Nat.blt f 102 then ZjW f FN4 else bif Nat.blt f 116 then ZjW f FN5 else bif Nat.blt f 130 then ZjW f FN6 else bif Nat.blt f 144 then ZjW f FN7 else bif Nat.blt f 163 then ZjW f FN8 else bif Nat.blt f 177 then ZjW f FN9 else bif Nat.blt f 192 then ZjW f ZjY else bif Nat.blt f 211 then ZjW f ZjZ else bif Nat.blt f 227 then ZjW f Zk0 else bif Nat.blt f 245 then ZjW f Zsg else bif Nat.blt f 260 then ZjW f Zsh else bif Nat.blt f 309 then ZjW f ZCZ else ZjW f ZQm
def Zz9:List (Nat×AFun):=[(32,⟨[.tmp 5],c32⟩),(33,⟨[.tmp 2],c33⟩),(34,⟨[.tmp 4],c34⟩),(60,⟨[.tmp 2],c60⟩)]
def Zza(f:Nat):Option AFun:=ZjW f Zz9
def e0:Env:={fn:=Zza,gl:=λ_=>.bot,sum:=λ_=>none}
end Go.AM
