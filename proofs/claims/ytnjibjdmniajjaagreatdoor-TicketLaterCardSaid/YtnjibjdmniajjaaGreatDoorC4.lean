/- The code of the abstract machine for the functions that the statement TicketLater reaches. No condition. -/
import Derived.Test.YtnjibjdmniajjaaGreatDoorQ3
import Derived.Test.YtnjibjdmniajjaaGreatDoorProg
set_option linter.unusedVariables false
set_option linter.defProp false
set_option linter.unusedSimpArgs false
set_option linter.unusedSectionVars false
namespace Go.AM
open Go
inductive CoTy where
 |b|i (k:IntKind)|s|sl (e by':Nat)|st (fs:List Nat)|ar (n e:Nat)|mp (k v:Nat)|p|f|j|o
structure CoCx where
 T:Nat->CoTy
 e:ByteArray
 S:List<|Nat×ByteArray
 H:List<|Nat×Nat
 N:Nat->ACode
def ZvB{α:Type}(d:α):List α->Nat->α
 |[],_=>d
 |x::r,n=>bif n==0 then x else ZvB d r<|n-1
def Zwo(T:Nat->CoTy):Nat->Nat->Nat
 |0,_=>1
 |n+1,t=>match T t with
  | .st fs=>fs.foldr (λf s=>Zwo T n f+s) 0
  | .ar k e=>k*Zwo T n e
  |_=>1
def Zw0(T:Nat->CoTy)(e:ByteArray):Nat->Nat->List AV
 |0,_=>[]
 |n+1,t=>match T t with
  | .b=>[.bool false]
  | .i k=>[.int k 0]
  | .s=>[.str e]
  | .sl x _=>[.isl false false (Zwo T n x) []]
  | .st fs=>fs.foldr (λf s=>Zw0 T e n f++s) []
  | .ar k x=>(List.replicate k<|Zw0 T e n x).flatten
  | .mp _ _=>[.nilmap]
  | .p=>[.nilp]
  | .f=>[.nilfn]
  | .j=>[.nilif]
  | .o=>[.bot]
def ZvR(T:Nat->CoTy):Nat->Nat->List Nat
 |0,_=>[]
 |n+1,t=>match T t with
  | .b=>[0]
  | .i _=>[1]
  | .s=>[2]
  | .st fs=>fs.foldr (λf s=>ZvR T n f++s) []
  | .ar k x=>(List.replicate k<|ZvR T n x).flatten
  |_=>[]
def Zw1:CoTy->Bool
 | .st _| .ar _ _=>true
 |_=>false
def ZwJ(b:Bool):AV->AV
 | .isl w _ n l=>.isl w b n l
 |v=>v
def ZvK(X:CoCx)(top:Bool)(t:Nat):AV:=match X.T t with
 | .st _| .ar _ _=>.agg<|Zw0 X.T X.e 9 t
 |_=>ZwJ top<|ZvB .bot (Zw0 X.T X.e 9 t) 0
def ZxZ:AV->AV
 | .agg cs=>.agg<|cs.map<|ZwJ true
 |v=>ZwJ true v
def Zvk(X:CoCx)(t:Nat):Nat:=Zwo X.T 9 t
def ZwK(X:CoCx)(t:Nat):Option Nat:=bif Zw1 (X.T t)then some (Zvk X t)else none
def ZvC(X:CoCx)(t:Nat):Nat:=match X.T t with
 | .sl e _=>e
 | .ar _ e=>e
 |_=>0
def ZwL(X:CoCx)(t:Nat):Nat:=match X.T t with
 | .sl _ y=>y
 |_=>0
def Zwp(X:CoCx)(t:Nat):List Nat:=match X.T t with
 | .st fs=>fs
 |_=>[]
def ZwM(X:CoCx)(t i:Nat):Nat:=((Zwp X t).take i).foldr (λf s=>Zvk X f+s) 0
def ZFJ(e:ByteArray)(k:Nat):List (Nat×ByteArray)->ByteArray
 |[]=>e
 |p::r=>bif p.1==k then p.2 else ZFJ e k r
def Zzy(X:CoCx)(h:Nat)(ex:Bool)(t:Nat):Value->AV
 | .bool b=>.bool b
 | .int k n=>.int k n
 | .string s=>.str (match s.data.toList with|[]=>X.e|l=>ZFJ X.e (l.foldl (λn b=>256*n+b.toNat) 1) X.S)
 | .pointer _=>.nilp
 | .slice _ _ _=>.isl false ex (Zvk X<|ZvC X t) []
 | .map _=>.nilmap
 | .nilFunc=>.nilfn
 | .nilIface=>.nilif
 | .agg _=>ZvK X false t
 |_=>.bot
def Zr1(X:CoCx)(h:Nat)(ex:Bool)(t:Nat):Operand->Arg
 | .tmp t=>.t t
 | .const v=>.c<|Zzy X h ex t v
 | .func f=>.f f
 | .global g=>.g g
def Zw2(X:CoCx)(h:Nat)(ex:Bool):List Operand->List Nat->List Arg
 |x::r,t::ts=>Zr1 X h ex t x::Zw2 X h ex r ts
 |x::r,[]=>Zr1 X h ex 0 x::Zw2 X h ex r []
 |[],_=>[]
def Zzz(X:CoCx)(h:Nat)(c:Call):AOp:=
 let ts:=c.argTypes.toList
 let t:=ZvB 0 ts 0
 match c.callee,c.args.toList with
 | .builtin .len,[x]=>.len (match X.T t with| .s=>0| .sl _ _=>1|_=>2)<|Zr1 X h false t x
 | .builtin .min,[x,y]=>.mm false (Zr1 X h false t x)<|Zr1 X h false t y
 | .builtin .max,[x,y]=>.mm true (Zr1 X h false t x)<|Zr1 X h false t y
 | .builtin .append,[x,y]=>
  bif h%16==3 then .apa (Zvk X<|ZvC X t) (ZwL X t) (Zr1 X h true t x) (Zr1 X h false t y)else bif h%16==2 then .apr (Zvk X<|ZvC X t) (ZwL X t) (Zr1 X h true t x) (Zr1 X h false t y)else .app (h%16==1) (Zvk X<|ZvC X t) (ZwL X t) (Zr1 X h true t x)<|Zr1 X h false t y
 | .value (.func f),l=>.call (h%2==0) f<|Zw2 X h (h/2%2==1) l ts
 | .value x,l=>.callv (h%2==0) (Zr1 X h false 0 x)<|Zw2 X h false l ts
 |_,_=>.bad
def ZzA(X:CoCx)(h:Nat)(ty:Nat):Op->AOp
 | .move x| .assign x=>bif h%16==1 then .own (Zvk X<|ZvC X ty)else bif h%16==2 then .rel (Zr1 X h false ty x)else .mv<|Zr1 X h false ty x
 | .pick a b c=>.pick (Zr1 X h false 0 a) (Zr1 X h false ty b)<|Zr1 X h false ty c
 | .alloc t=>bif h%2==0 then .ibox (Zvk X t) (.c<|bif h/2%2==1 then ZxZ (ZvK X true t)else ZvK X true t)else .box (Zvk X t)<|.c<|bif h/2%2==1 then ZxZ (ZvK X true t)else ZvK X true t
 | .box t x=>bif h%2==0 then .ibox (Zvk X t) (Zr1 X h false t x)else .box (Zvk X t)<|Zr1 X h false t x
 | .build t ps=>match X.T t with
  | .ar _ e=>.build (Zw0 X.T X.e 9 t)<|ps.toList.map λp=>(p.1*Zvk X e,Zvk X e,Zr1 X h false e p.2)
  |_=>.build (bif h==1 then(Zw0 X.T X.e 9 t).map (ZwJ true)else bif Nat.blt 1 h then(Zw0 X.T X.e 9 t).set (h-2) .nilsl else Zw0 X.T X.e 9 t)<|ps.toList.map λp=>(ZwM X t p.1,Zvk X<|ZvB 0 (Zwp X t) p.1,Zr1 X h false (ZvB 0 (Zwp X t) p.1) p.2)
 | .buildSlice t n ps=>.bsl (h%2==0) (h/2%2==1) (Zvk X<|ZvC X t) (ZvK X false<|ZvC X t) n<|ps.toList.map λp=>(p.1,Zr1 X h false (ZvC X t) p.2)
 | .load t x=>bif h==0 then .load (ZwK X t) (Zr1 X h false 0 x)else .ldr (Zvk X t) h<|Zr1 X 0 false 0 x
 | .store t a x=>.store (Zvk X t) (Zr1 X h false 0 a)<|Zr1 X h false t x
 | .nilCheck x=>.nilck<|Zr1 X h false 0 x
 | .binOp op t x y _=>match op,X.T t with
  | .eql,.i _| .neq,.i _| .eql,.s| .neq,.s=>.bin op (Zr1 X h false t x)<|Zr1 X h false t y
  | .eql,.p=>.isn false<|Zr1 X h false t x
  | .neq,.p=>.isn true<|Zr1 X h false t x
  | .eql,k=>.eqv false (Zw1 k) (ZvR X.T 9 t) (Zr1 X h false t x)<|Zr1 X h false t y
  | .neq,k=>.eqv true (Zw1 k) (ZvR X.T 9 t) (Zr1 X h false t x)<|Zr1 X h false t y
  |_,_=>.bin op (Zr1 X h false t x)<|Zr1 X h false t y
 | .unOp op t x=>.un op<|Zr1 X h false t x
 | .convert _ d x=>.conv (match X.T d with| .i k=>some k|_=>none)<|Zr1 X h false d x
 | .field t x i=>.fld (ZwK X<|ZvB 0 (Zwp X t) i) (ZwM X t i)<|Zr1 X h false t x
 | .fieldAddr t x i=>.fadr (ZwM X t i)<|Zr1 X h false t x
 | .indexAddr t x i=>match X.T t with
  | .ar n e=>.aadr (Zvk X e) n (Zr1 X h false 0 x)<|Zr1 X h false 0 i
  |_=>.iadr (Zvk X<|ZvC X t) (Zr1 X h false t x)<|Zr1 X h false 0 i
 | .index t x i=>match X.T t with
  | .ar n e=>.aidx (ZwK X e) (Zvk X e) n (Zr1 X h false t x)<|Zr1 X h false 0 i
  |_=>.sidx (Zr1 X h false 0 x)<|Zr1 X h false 0 i
 | .extract x i=>.ext (Zr1 X h false 0 x) i
 | .makeFunc fn a b=>.mkf fn (Zw2 X h false a.toList [])<|Zw2 X h false b.toList []
 | .makeMap _ _=>.mkm
 | .insert t m k v=>match X.T t with
  | .mp a b=>.ins (Zw1<|X.T a) (ZvR X.T 9 a) (Zr1 X h false 0 m) (Zr1 X h false a k)<|Zr1 X h false b v
  |_=>.bad
 | .mapUpdate t m k v=>match X.T t with
  | .mp a b=>.mupd (Zw1<|X.T a) (ZvR X.T 9 a) (Zr1 X h false 0 m) (Zr1 X h false a k)<|Zr1 X h false b v
  |_=>.bad
 | .lookup t m k ok=>match X.T t with
  | .mp a b=>.lkp (Zw1<|X.T a) (ZvR X.T 9 a) ok (ZvK X (h==1) b) (Zr1 X h false 0 m)<|Zr1 X h false a k
  |_=>.bad
 | .makeSlice t l c=>.mks (Zvk X<|ZvC X t) (ZvK X false<|ZvC X t) (ZwL X t) (Zr1 X h false 0 l)<|Zr1 X h false 0 c
 | .slice t x a b c=>match X.T t with
  | .s=>.ssl (Zr1 X h false t x) (a.map<|Zr1 X h false 0)<|b.map<|Zr1 X h false 0
  |_=>.slc (Zvk X<|ZvC X t) (Zr1 X h false t x) (a.map<|Zr1 X h false 0) (b.map<|Zr1 X h false 0)<|c.map<|Zr1 X h false 0
 | .range _ x=>.rng<|Zr1 X h false 0 x
 | .next x _=>.nxt<|Zr1 X h false 0 x
 | .makeInterface t x=>.mkif t<|Zr1 X h false t x
 | .call c=>Zzz X h c
 |_=>.bad
def Zwq:Operand->Nat
 | .tmp t=>1 <<< t
 |_=>0
def ZwN(l:List Operand):Nat:=l.foldr (λx m=>Zwq x ||| m) 0
def ZzB:Op->List Operand
 | .call c=>(match c.callee with| .value f=>[f]|_=>[])++c.args.toList
 | .build _ ps| .buildSlice _ _ ps=>ps.toList.map (·.2)
 | .makeFunc _ a b=>a.toList++b.toList
 | .slice _ x a b c=>x::(a.toList++(b.toList++c.toList))
 | .makeMap _ r=>r.toList
 | .move x| .assign x| .box _ x| .load _ x| .nilCheck x| .unOp _ _ x| .convert _ _ x| .makeInterface _ x| .fieldAddr _ x _| .field _ x _| .range _ x| .next x _| .extract x _=>[x]
 | .pick c a b=>[c,a,b]
 | .store _ a v| .binOp _ _ a v _| .makeSlice _ a v| .indexAddr _ a v| .index _ a v| .lookup _ a v _=>[a,v]
 | .mapUpdate _ m k v| .insert _ m k v=>[m,k,v]
 |_=>[]
def ZwO(l:List Oper)(j:Nat):Option Nat:=match l with
 |[]=>none
 |o::r=>bif j==0 then o.dst else ZwO r<|j-1
def ZzC(ops:List Oper):Option (Nat×Bool)->Nat
 |some (j,_)=>(match ZwO ops j with|some d=>1 <<< d|none=>0)
 |none=>0
def Zy0(ops:List Oper)(o:Oper)(m:Nat):Nat:=
 (match o.dst with|some d=>(m ||| (1 <<< d)) ^^^ (1 <<< d)|none=>m) ||| (ZwN (ZzB o.op) ||| ZzC ops o.guard)
def ZvO:List (Nat×Nat)->Nat->Nat
 |[],_=>0
 |p::r,i=>bif p.1==i then p.2 else ZvO r i
def Zy1(f:Nat->Nat):Nat->Nat->Nat
 |0,l=>l
 |n+1,l=>(λm=>bif m==l then l else Zy1 f n m) (l ||| f l)
def ZzD(x:List<|Nat×Nat):Nat:=x.foldr (λp m=>p.2 ||| m) 0
def ZvD:List (Nat×Nat)->Nat->Code->Nat->Nat
 |_,_,.region _ ops _,out=>ops.toList.foldr (Zy0 ops.toList) out
 |x,rt,.seq a b,out=>ZvD x rt a<|ZvD x rt b out
 |x,rt,.cond c a b,out=>Zwq c ||| (ZvD x rt a out ||| ZvD x rt b out)
 |x,rt,.block id b,out=>ZvD ((id,out)::x) rt b out
 |x,rt,.loop b,_=>Zy1 (λl=>ZvD x rt b l) 8 0
 |x,rt,.rangeFunc f ps a b,out=>(λm=>Zwq f ||| (((m ||| ZwN (ps.toList.map .tmp)) ^^^ ZwN (ps.toList.map .tmp)) ||| (out ||| (ZzD x ||| rt)))) (ZvD [] 0 a<|ZvD [] 0 b 0)
 |x,_,.exit id,_=>ZvO x id
 |_,rt,.ret,_=>rt
 |_,_,_,out=>out
def Zw3:List (Nat×Nat)->Nat->Code->Nat
 |x,_,.exit i=>ZvO x i
 |_,rt,.ret=>rt
 |x,rt,.seq a b|x,rt,.cond _ a b|x,rt,.rangeFunc _ _ a b=>Zw3 x rt a ||| Zw3 x rt b
 |x,rt,.block id b=>Zw3 ((id,0)::x) rt b
 |x,rt,.loop b=>Zw3 x rt b
 |_,_,_=>0
def Zvs:Code->Nat
 | .seq a b| .cond _ a b=>Zvs a+Zvs b
 | .block _ b=>Zvs b
 | .loop b=>Zvs b+1
 | .rangeFunc _ _ a b=>Zvs a+Zvs b+1
 |_=>0
def ZwP:List Nat->Nat->Nat->List Nat->List Nat
 |[],o,m,acc=>bif m==0 then acc else o::acc
 |k::r,o,m,acc=>bif m==0 then acc else ZwP r o (m ^^^ ((m >>> k) <<< k))<|ZwP r (o+k) (m >>> k) acc
def Zw9(m:Nat):List Nat:=ZwP [512,256,128,64,32,16,8,4,2,1] 0 m []
def ZzE(ops:List Oper):Option (Nat×Bool)->Option (Nat×Bool)
 |some (j,b)=>(match ZwO ops j with|some d=>some (d,b)|none=>none)
 |none=>none
def ZwQ(X:CoCx)(ops:List Oper)(r:Nat):List Oper->Nat->List AOper
 |[],_=>[]
 |o::l,i=>⟨o.dst,ZzA X (ZvO X.H<|100*r+i) o.type o.op,ZzE ops o.guard⟩::ZwQ X ops r l (i+1)
def Zy2(ms:List Nat):Nat->Nat
 |0=>0
 |i+1=>bif ZvB 0 ms i%2 ^ i==2 ^ i-1 then Zy2 ms i else i+1
def ZwR(m:Nat)(q:AOp):List AOper->Nat->List Nat
 |[],_=>[]
 |p::l,j=>bif m%2==1||X3 q&&X3 p.op then ZwR (m/2) q l (j+1)else j::ZwR (m/2) q l (j+1)
def Zy3(ms:List Nat)(p1:List AOper):List AOper->Nat->List (List Nat)
 |[],_=>[]
 |q::l,i=>ZwR (ZvB 0 ms i) q.op (p1.take i) 0::Zy3 ms p1 l (i+1)
def ZzF(ms:List Nat)(qs:List AOper):ACode:=(λk=>.draw (Zy3 ms (qs.take k) (qs.take k) 0) (qs.take k)<|qs.drop k) (Zy2 ms qs.length)
def ZFK(n:Nat)(l:List<|Nat×Nat):List (Nat×Nat):=bif n==0 then l else(n/100-1,n%100)::l
def ZzG(X:CoCx)(r:Nat)(ops:List Oper)(out:Nat)(qs:List AOper):ACode:=
 bif ZvO X.H (100*r+99)==0 then(bif Nat.blt 2 qs.length then .keep (Zw9 out) (.region qs)else .region qs)else
 match qs,ops with
 |[⟨some d,.fadr off p,_⟩,⟨_,.store _ _<|.c<|.isl _ _ s _,_⟩],_=>.nils s d off p
 |[⟨some d,_,_⟩],[o]=>match o.op with
  | .alloc t=>.zbox d (Zvk X t) (ZvK X true t)<|ZFK (ZvO X.H<|100*r+99)<|ZFK (ZvO X.H<|100*r+98) []
  |_=>.bad
 |_,_=>.bad
def ZQK(g:Nat)(c:ACode):ACode:=bif g==0 then c else .ghost (g/10000) (g/100%100) (g%100) c
def ZvL(X:CoCx):List (Nat×Nat)->Nat->Nat->Code->Nat->ACode×Nat×List ACode
 |_,_,_,.skip,out=>(.skip,out,[])
 |_,_,_,.label _,out=>(.skip,out,[])
 |_,_,_,.region r ops d,out=>
  (bif d then .keep (Zw9 out) (ZzF (YS ops.toList [])<|ZwQ X ops.toList r ops.toList 0)else ZQK (ZvO X.H<|100*r+90)<|ZzG X r ops.toList out<|ZwQ X ops.toList r ops.toList 0,ops.toList.foldr (Zy0 ops.toList) out,[])
 |x,rt,k,.seq a b,out=>
  match ZvL X x rt (k+Zvs a) b out with
  |(cb,lb,db)=>match ZvL X x rt k a lb with
   |(ca,la,da)=>(.seq ca cb,la,da++db)
 |x,rt,k,.cond c a b,out=>
  match ZvL X x rt k a out,ZvL X x rt (k+Zvs a) b out with
  |(ca,la,da),(cb,lb,db)=>(.cond (Zr1 X 0 false 0 c) ca cb,Zwq c ||| (la ||| lb),da++db)
 |x,rt,k,.block id b,out=>
  match ZvL X ((id,out)::x) rt k b out with
  |(cb,lb,db)=>(.keep (Zw9<|out ||| Zw3 x rt (.block id b))<|.block id cb,lb,db)
 |x,rt,k,.loop b,_=>
  (λl=>match ZvL X x rt k b l with
   |(cb,_,db)=>(X.N<|2*(k+Zvs b)+1,l,db++[.keep (Zw9<|l ||| Zw3 x rt b) cb,.loop (Zw9 l)<|X.N<|2*(k+Zvs b)])) (ZvD x rt (.loop b) 0)
 |x,rt,k,.rangeFunc f ps a b,out=>
  match ZvL X [] 0 k a (ZvD [] 0 b 0),ZvL X [] 0 (k+Zvs a) b 0 with
  |(ca,_,da),(cb,_,db)=>(.rangeFunc (Zr1 X 0 false 0 f) ps.toList (X.N<|2*(k+Zvs a+Zvs b))<|X.N<|2*(k+Zvs a+Zvs b)+1,ZvD x rt (.rangeFunc f ps a b) out,da++(db++[ca,cb]))
 |x,_,_,.exit id,_=>(.exit id,ZvO x id,[])
 |_,rt,_,.ret,_=>(.ret,rt,[])
 |_,_,_,_,out=>(.bad,out,[])
def Zy4(f:Func):Nat:=f.results.toList.foldr (λr m=>(match r with| .tmp t=>1 <<< t| .cell t _=>1 <<< t) ||| m) 0
def ZzH(X:CoCx)(f:Func):List ACode:=
 match f.body with
 |some c=>match ZvL X [] (Zy4 f) 0 c (Zy4 f)with
  |(q,_,ds)=>ds++[q]
 |none=>[]
abbrev CoV{α:Type}(a:α):={c:α // a=c}
def coY(X:(Nat->ACode)->List ACode)(l:List ACode)(n:Nat):ACode:=ZvB .bad (X<|ZvB .bad l) n
def Zr2:ACode->List Nat->ACode
 |c,[]=>c
 | .seq a b,i::r=>bif i==0 then Zr2 a r else Zr2 b r
 | .cond _ a b,i::r=>bif i==0 then Zr2 a r else Zr2 b r
 | .block _ a,_::r=>Zr2 a r
 | .keep _ a,_::r=>Zr2 a r
 | .loop _ a,_::r=>Zr2 a r
 |c,_=>c
def Zvt(t:Nat):List (Nat×CoTy)->CoTy
 |[]=>.i .i64
 |p::r=>bif p.1==t then p.2 else Zvt t r
end Go.AM
set_option maxRecDepth 100000
namespace Go.AM
open Go Go.Proofs.Tryz
def coT(t:Nat):CoTy:=bif Nat.blt t 162 then bif Nat.blt t 94 then bif Nat.blt t 46 then Zvt t [(4,.b),(5,.i .u8),(9,.s),(21,.i .i32),(23,.st [9,3,3,9]),(26,.o),(32,.sl 9 16),(34,.sl 64 120),(35,.i .u16),(37,.sl 57 32),(39,.st [32,37]),(40,.o),(42,.sl 210 88),(43,.sl 220 80),(44,.sl 222 56),(45,.sl 73 184)] else Zvt t [(46,.sl 225 72),(47,.sl 98 16),(49,.st [42,43,44,45,46,47,47]),(50,.sl 25 8),(51,.o),(57,.st [9,3,3]),(60,.sl 103 240),(62,.st [3,32,32]),(64,.st [3,3,3,9,60,62]),(69,.st [3,9,3,3]),(71,.st [3,3]),(73,.st [9,9,9,3,69,71,3,3,32,3,3,9]),(74,.o),(87,.j),(88,.o),(91,.f)] else bif Nat.blt t 128 then Zvt t [(94,.f),(96,.st [23,49]),(98,.ar 2 3),(99,.sl 287 40),(100,.sl 71 16),(101,.sl 172 72),(103,.st [3,3,3,3,3,9,9,9,32,99,69,71,100,101]),(105,.o),(109,.f),(110,.f),(112,.st [49,110]),(116,.f),(119,.f),(123,.sl 127 40),(124,.o),(127,.st [3,3,3,9])] else Zvt t [(128,.f),(135,.f),(136,.sl 3 8),(138,.f),(143,.f),(144,.p),(145,.o),(147,.f),(148,.p),(151,.st [144,103,3,3]),(152,.f),(153,.sl 152 8),(156,.f),(157,.p),(158,.ar 16 156),(161,.st [49,3,103,32])] else bif Nat.blt t 253 then bif Nat.blt t 210 then Zvt t [(162,.mp 9 4),(164,.f),(166,.f),(170,.f),(172,.st [9,69,71]),(173,.ar 256 3),(176,.st [9,173]),(177,.o),(193,.f),(194,.mp 196 4),(196,.st [3,3]),(199,.mp 3 3),(201,.st [49,199]),(203,.ar 16 135),(205,.o),(207,.f)] else Zvt t [(210,.st [9,3,3,100,99,3]),(211,.f),(220,.st [9,3,100,99,3]),(222,.st [9,3,100,3]),(225,.st [9,9,9,3,3,3]),(229,.p),(230,.f),(233,.p),(234,.f),(238,.f),(241,.p),(242,.f),(245,.p),(246,.f),(249,.p),(250,.f)] else bif Nat.blt t 381 then Zvt t [(253,.mp 255 4),(255,.st [9,69]),(265,.f),(266,.p),(287,.st [9,3,9]),(298,.f),(305,.mp 3 4),(312,.f),(315,.sl 47 24),(317,.f),(319,.f),(323,.f),(356,.sl 71 16),(360,.f),(362,.sl 69 40),(366,.f)] else Zvt t [(381,.f),(385,.mp 287 4),(388,.st [3,3]),(389,.ar 28 388),(392,.mp 69 4),(410,.f),(412,.st [71,71]),(414,.st [3,3]),(416,.st [412,414]),(418,.f)]
@[reducible] def cV{α:Type}(a:α)(h:CoV a:=by exact⟨_,by cbv⟩):α:=h.1
attribute [go_sem ↓] cV
abbrev CoX(e:ByteArray)(S:List<|Nat×ByteArray)(H:List<|Nat×Nat)(f:Func)(N:Nat->ACode):List ACode:=ZzH ⟨coT,e,S,H,N⟩ f
abbrev CoW(H:List<|Nat×Nat)(f:Func)(e:ByteArray):ACode:=coY (CoX e [] H f) [] 0
abbrev CoU(X:ByteArray->(Nat->ACode)->List ACode)(e:ByteArray)(l:List ACode)(n:Nat):ACode:=coY (X e) l n
def ZCU(e)(N):=cV<|CoX e [] [(408,1),(808,1),(900,2),(907,1),(1090,190001),(1002,2),(1003,1),(1410,1),(1800,3),(1806,2)] f4 N
def c4L0b:=(λe=>cV<|CoU ZCU e [] 0) emp
def c4L0:=(λe a=>cV<|CoU ZCU e [a] 1) emp c4L0b
def c4L1b:=(λe a b=>cV<|CoU ZCU e [a,b] 2) emp c4L0b c4L0
def c4L1:=(λe a b c=>cV<|CoU ZCU e [a,b,c] 3) emp c4L0b c4L0 c4L1b
def c4L2b:=(λe a b c d=>cV<|CoU ZCU e [a,b,c,d] 4) emp c4L0b c4L0 c4L1b c4L1
def c4L2:=(λe a b c d g=>cV<|CoU ZCU e [a,b,c,d,g] 5) emp c4L0b c4L0 c4L1b c4L1 c4L2b
def c4L3b:=(λe a b c d g h=>cV<|CoU ZCU e [a,b,c,d,g,h] 6) emp c4L0b c4L0 c4L1b c4L1 c4L2b c4L2
def c4L3:=(λe a b c d g h i=>cV<|CoU ZCU e [a,b,c,d,g,h,i] 7) emp c4L0b c4L0 c4L1b c4L1 c4L2b c4L2 c4L3b
def c4L4b:=(λe a b c d g h i j=>cV<|CoU ZCU e [a,b,c,d,g,h,i,j] 8) emp c4L0b c4L0 c4L1b c4L1 c4L2b c4L2 c4L3b c4L3
def c4L4:=(λe a b c d g h i j k=>cV<|CoU ZCU e [a,b,c,d,g,h,i,j,k] 9) emp c4L0b c4L0 c4L1b c4L1 c4L2b c4L2 c4L3b c4L3 c4L4b
def c4:=(λe a b c d g h i j k l=>cV<|CoU ZCU e [a,b,c,d,g,h,i,j,k,l] 10) emp c4L0b c4L0 c4L1b c4L1 c4L2b c4L2 c4L3b c4L3 c4L4b c4L4
def c8:=(λe s0 s1 s2 s3 s4 s5=>cV<|coY (CoX e [(408354274043252,s0),(91441,s1),(1578205996402,s2),(7553406098472555323524961435399200,s3),(91442,s4),(91443,s5)] [(104,1)] f8) [] 0) emp (B [115,101,99,114,101,116]) (B [101,49]) (B [111,116,104,101,114]) (B [116,105,99,107,101,116,32,55,32,101,49,32,52,32]) (B [101,50]) (B [101,51])
def c9:=(λe=>cV<|CoW [(0,1),(104,1)] f9 e) emp
def c10:=(λe=>cV<|CoW [] f10 e) emp
def c11:=(λe=>cV<|CoW [(111,1)] f11 e) emp
def c14:=(λe=>cV<|CoW [(100,2)] f14 e) emp
def c15:=(λe=>cV<|CoW [(1,1),(500,2),(507,1),(603,1)] f15 e) emp
def X16(e)(N):=cV<|CoX e [] [(0,1),(100,1),(200,1),(502,1),(616,1),(900,1)] f16 N
def c16L0b:=(λe=>cV<|CoU X16 e [] 0) emp
def c16L0:=(λe a=>cV<|CoU X16 e [a] 1) emp c16L0b
def c16:=(λe a b=>cV<|CoU X16 e [a,b] 2) emp c16L0b c16L0
def X17(e)(N):=cV<|CoX e [] [(1,1),(499,101),(498,203),(400,1),(503,1),(600,1),(1102,1),(1105,1)] f17 N
def c17R0a:=(λe=>cV<|CoU X17 e [] 0) emp
def c17R0b:=(λe a=>cV<|CoU X17 e [a] 1) emp c17R0a
def c17:=(λe a b=>cV<|CoU X17 e [a,b] 2) emp c17R0a c17R0b
def X18(e)(N):=cV<|CoX e [] [] f18 N
def c18L0b:=(λe=>cV<|CoU X18 e [] 0) emp
def c18L0:=(λe a=>cV<|CoU X18 e [a] 1) emp c18L0b
def c18:=(λe a b=>cV<|CoU X18 e [a,b] 2) emp c18L0b c18L0
def X19(e)(N):=cV<|CoX e [] [] f19 N
def c19L0b:=(λe=>cV<|CoU X19 e [] 0) emp
def c19L0:=(λe a=>cV<|CoU X19 e [a] 1) emp c19L0b
def c19:=(λe a b=>cV<|CoU X19 e [a,b] 2) emp c19L0b c19L0
def c22:=(λe=>cV<|CoW [] f22 e) emp
def c23:=(λe s0=>cV<|coY (CoX e [(409470965081460,s0)] [] f23) [] 0) emp (B [116,105,99,107,101,116])
def c25:=(λe s0 s1=>cV<|coY (CoX e [(408354274043252,s0),(91441,s1)] [(105,1),(208,1),(310,2)] f25) [] 0) emp (B [115,101,99,114,101,116]) (B [101,49])
def c26:=(λe s0=>cV<|coY (CoX e [(409470965081460,s0)] [] f26) [] 0) emp (B [116,105,99,107,101,116])
def c27:=(λe=>cV<|CoW [] f27 e) emp
def X34(e)(N):=cV<|CoX e [] [] f34 N
def c34L0b:=(λe=>cV<|CoU X34 e [] 0) emp
def c34L0:=(λe a=>cV<|CoU X34 e [a] 1) emp c34L0b
def c34L1b:=(λe a b=>cV<|CoU X34 e [a,b] 2) emp c34L0b c34L0
def c34L1:=(λe a b c=>cV<|CoU X34 e [a,b,c] 3) emp c34L0b c34L0 c34L1b
def c34:=(λe a b c d=>cV<|CoU X34 e [a,b,c,d] 4) emp c34L0b c34L0 c34L1b c34L1
def X35(e)(N):=cV<|CoX e [] [] f35 N
def c35L0b:=(λe=>cV<|CoU X35 e [] 0) emp
def c35L0:=(λe a=>cV<|CoU X35 e [a] 1) emp c35L0b
def c35:=(λe a b=>cV<|CoU X35 e [a,b] 2) emp c35L0b c35L0
def c36:=(λe=>cV<|CoW [] f36 e) emp
def X37(e)(N):=cV<|CoX e [] [(199,102),(100,1),(203,1),(300,1),(502,1)] f37 N
def c37R0a:=(λe=>cV<|CoU X37 e [] 0) emp
def c37R0b:=(λe a=>cV<|CoU X37 e [a] 1) emp c37R0a
def c37:=(λe a b=>cV<|CoU X37 e [a,b] 2) emp c37R0a c37R0b
def X38(e)(N):=cV<|CoX e [] [] f38 N
def c38L0b:=(λe=>cV<|CoU X38 e [] 0) emp
def c38L0:=(λe a=>cV<|CoU X38 e [a] 1) emp c38L0b
def c38:=(λe a b=>cV<|CoU X38 e [a,b] 2) emp c38L0b c38L0
def X39(e)(N):=cV<|CoX e [] [(2,1),(301,1),(406,1),(505,1)] f39 N
def s39p0:=(λe=>cV<|Zr2 (CoU X39 e [] 0) [0]) emp
def s39p1:=(λe=>cV<|Zr2 (CoU X39 e [] 0) [1,0]) emp
def s39p2:=(λe=>cV<|Zr2 (CoU X39 e [] 0) [1,1,0]) emp
def s39p3:=(λe=>cV<|Zr2 (CoU X39 e [] 0) [1,1,1,0]) emp
def s39p4:=(λe=>cV<|Zr2 (CoU X39 e [] 0) [1,1,1,1,0]) emp
def s39p5:=(λe=>cV<|Zr2 (CoU X39 e [] 0) [1,1,1,1,1,0]) emp
def s39p6:=(λe=>cV<|Zr2 (CoU X39 e [] 0) [1,1,1,1,1,1,0]) emp
def c39:ACode:=.seq s39p0<|.seq s39p1<|.seq s39p2<|.seq s39p3<|.seq s39p4<|.seq s39p5<|.seq s39p6 .ret
def c40:=(λe=>cV<|CoW [] f40 e) emp
def c41:=(λe=>cV<|CoW [] f41 e) emp
def c42:=(λe=>cV<|CoW [] f42 e) emp
def c43:=(λe=>cV<|CoW [(102,1)] f43 e) emp
def c44:=(λe=>cV<|CoW [] f44 e) emp
def c45:=(λe=>cV<|CoW [(102,1)] f45 e) emp
def c46:=(λe=>cV<|CoW [] f46 e) emp
def X48(e)(N):=cV<|CoX e [] [] f48 N
def c48L0b:=(λe=>cV<|CoU X48 e [] 0) emp
def c48L0:=(λe a=>cV<|CoU X48 e [a] 1) emp c48L0b
def c48:=(λe a b=>cV<|CoU X48 e [a,b] 2) emp c48L0b c48L0
def c49:=(λe=>cV<|CoW [(100,2)] f49 e) emp
def c50:=(λe=>cV<|CoW [] f50 e) emp
def c51:=(λe s0=>cV<|coY (CoX e [(288,s0)] [(100,2)] f51) [] 0) emp (B [32])
def c54:=(λe s0 s1 s2 s3 s4 s5=>cV<|coY (CoX e [(93489,s0),(95025,s1),(90673,s2),(91441,s3),(91442,s4),(91443,s5)] [(301,1),(500,2)] f54) [] 0) emp (B [109,49]) (B [115,49]) (B [98,49]) (B [101,49]) (B [101,50]) (B [101,51])
def X55(e)(N):=cV<|CoX e [] [(303,1),(400,1),(806,1)] f55 N
def c55L0b:=(λe=>cV<|CoU X55 e [] 0) emp
def c55L0:=(λe a=>cV<|CoU X55 e [a] 1) emp c55L0b
def c55:=(λe a b=>cV<|CoU X55 e [a,b] 2) emp c55L0b c55L0
def c56:=(λe s0=>cV<|coY (CoX e [(404340751441956652333119649628475909478,s0)] [] f56) [] 0) emp (B [48,49,50,51,52,53,54,55,56,57,97,98,99,100,101,102])
def X63(e)(N):=cV<|CoX e [] [] f63 N
def c63L0b:=(λe=>cV<|CoU X63 e [] 0) emp
def c63L0:=(λe a=>cV<|CoU X63 e [a] 1) emp c63L0b
def c63:=(λe a b=>cV<|CoU X63 e [a,b] 2) emp c63L0b c63L0
def c64:=(λe=>cV<|CoW [] f64 e) emp
def c66:=(λe=>cV<|CoW [(110,1),(111,1)] f66 e) emp
def X67(e)(N):=cV<|CoX e [] [] f67 N
def c67L0b:=(λe=>cV<|CoU X67 e [] 0) emp
def c67L0:=(λe a=>cV<|CoU X67 e [a] 1) emp c67L0b
def c67:=(λe a b=>cV<|CoU X67 e [a,b] 2) emp c67L0b c67L0
def c68:=(λe=>cV<|CoW [] f68 e) emp
def X69(e)(N):=cV<|CoX e [] [(402,1)] f69 N
def c69L0b:=(λe=>cV<|CoU X69 e [] 0) emp
def c69L0:=(λe a=>cV<|CoU X69 e [a] 1) emp c69L0b
def c69:=(λe a b=>cV<|CoU X69 e [a,b] 2) emp c69L0b c69L0
def c70:=(λe=>cV<|CoW [] f70 e) emp
def c71:=(λe=>cV<|CoW [(302,1)] f71 e) emp
def X72(e)(N):=cV<|CoX e [] [] f72 N
def c72L0b:=(λe=>cV<|CoU X72 e [] 0) emp
def c72L0:=(λe a=>cV<|CoU X72 e [a] 1) emp c72L0b
def c72:=(λe a b=>cV<|CoU X72 e [a,b] 2) emp c72L0b c72L0
def c73:=(λe=>cV<|CoW [] f73 e) emp
def X74(e)(N):=cV<|CoX e [] [(1,1),(108,1)] f74 N
def c74R0a:=(λe=>cV<|CoU X74 e [] 0) emp
def c74R0b:=(λe a=>cV<|CoU X74 e [a] 1) emp c74R0a
def c74:=(λe a b=>cV<|CoU X74 e [a,b] 2) emp c74R0a c74R0b
def c75:=(λe=>cV<|CoW [] f75 e) emp
def X76(e)(N):=cV<|CoX e [] [(1102,1),(1500,2)] f76 N
def c76L0b:=(λe=>cV<|CoU X76 e [] 0) emp
def c76L0:=(λe a=>cV<|CoU X76 e [a] 1) emp c76L0b
def c76:=(λe a b=>cV<|CoU X76 e [a,b] 2) emp c76L0b c76L0
def X77(e)(N):=cV<|CoX e [] [(302,1),(902,1),(1502,1),(2103,1),(2702,1)] f77 N
def c77L0b:=(λe=>cV<|CoU X77 e [] 0) emp
def c77L0:=(λe a=>cV<|CoU X77 e [a] 1) emp c77L0b
def c77L1b:=(λe a b=>cV<|CoU X77 e [a,b] 2) emp c77L0b c77L0
def c77L1:=(λe a b c=>cV<|CoU X77 e [a,b,c] 3) emp c77L0b c77L0 c77L1b
def c77L2b:=(λe a b c d=>cV<|CoU X77 e [a,b,c,d] 4) emp c77L0b c77L0 c77L1b c77L1
def c77L2:=(λe a b c d g=>cV<|CoU X77 e [a,b,c,d,g] 5) emp c77L0b c77L0 c77L1b c77L1 c77L2b
def c77L3b:=(λe a b c d g h=>cV<|CoU X77 e [a,b,c,d,g,h] 6) emp c77L0b c77L0 c77L1b c77L1 c77L2b c77L2
def c77L3:=(λe a b c d g h i=>cV<|CoU X77 e [a,b,c,d,g,h,i] 7) emp c77L0b c77L0 c77L1b c77L1 c77L2b c77L2 c77L3b
def c77L4b:=(λe a b c d g h i j=>cV<|CoU X77 e [a,b,c,d,g,h,i,j] 8) emp c77L0b c77L0 c77L1b c77L1 c77L2b c77L2 c77L3b c77L3
def c77L4:=(λe a b c d g h i j k=>cV<|CoU X77 e [a,b,c,d,g,h,i,j,k] 9) emp c77L0b c77L0 c77L1b c77L1 c77L2b c77L2 c77L3b c77L3 c77L4b
def c77:=(λe a b c d g h i j k l=>cV<|CoU X77 e [a,b,c,d,g,h,i,j,k,l] 10) emp c77L0b c77L0 c77L1b c77L1 c77L2b c77L2 c77L3b c77L3 c77L4b c77L4
def c78:=(λe=>cV<|CoW [] f78 e) emp
def c79:=(λe=>cV<|CoW [(528,1)] f79 e) emp
def c80:=(λe=>cV<|CoW [(323,1)] f80 e) emp
def c81:=(λe=>cV<|CoW [] f81 e) emp
def c82:=(λe=>cV<|CoW [(618,1),(619,1)] f82 e) emp
def c83:=(λe=>cV<|CoW [(323,1)] f83 e) emp
def c84:=(λe=>cV<|CoW [(827,1)] f84 e) emp
def c85:=(λe=>cV<|CoW [(829,1)] f85 e) emp
def X86(e)(N):=cV<|CoX e [] [(1002,1)] f86 N
def c86L0b:=(λe=>cV<|CoU X86 e [] 0) emp
def c86L0:=(λe a=>cV<|CoU X86 e [a] 1) emp c86L0b
def c86:=(λe a b=>cV<|CoU X86 e [a,b] 2) emp c86L0b c86L0
def X87(e)(N):=cV<|CoX e [] [(100,1),(402,1),(1408,1),(1702,1),(1812,1),(2002,2),(2003,1)] f87 N
def c87L0b:=(λe=>cV<|CoU X87 e [] 0) emp
def c87L0:=(λe a=>cV<|CoU X87 e [a] 1) emp c87L0b
def c87L1b:=(λe a b=>cV<|CoU X87 e [a,b] 2) emp c87L0b c87L0
def c87L1:=(λe a b c=>cV<|CoU X87 e [a,b,c] 3) emp c87L0b c87L0 c87L1b
def c87:=(λe a b c d=>cV<|CoU X87 e [a,b,c,d] 4) emp c87L0b c87L0 c87L1b c87L1
def X88(e)(N):=cV<|CoX e [] [(300,1),(1110,1),(1508,1),(1921,1),(2308,1)] f88 N
def c88L0b:=(λe=>cV<|CoU X88 e [] 0) emp
def c88L0:=(λe a=>cV<|CoU X88 e [a] 1) emp c88L0b
def c88L1b:=(λe a b=>cV<|CoU X88 e [a,b] 2) emp c88L0b c88L0
def c88L1:=(λe a b c=>cV<|CoU X88 e [a,b,c] 3) emp c88L0b c88L0 c88L1b
def c88L2b:=(λe a b c d=>cV<|CoU X88 e [a,b,c,d] 4) emp c88L0b c88L0 c88L1b c88L1
def c88L2:=(λe a b c d g=>cV<|CoU X88 e [a,b,c,d,g] 5) emp c88L0b c88L0 c88L1b c88L1 c88L2b
def c88:=(λe a b c d g h=>cV<|CoU X88 e [a,b,c,d,g,h] 6) emp c88L0b c88L0 c88L1b c88L1 c88L2b c88L2
def X89(e)(N):=cV<|CoX e [] [(903,1),(1102,1)] f89 N
def c89L0b:=(λe=>cV<|CoU X89 e [] 0) emp
def c89L0:=(λe a=>cV<|CoU X89 e [a] 1) emp c89L0b
def c89:=(λe a b=>cV<|CoU X89 e [a,b] 2) emp c89L0b c89L0
def X90(e)(N):=cV<|CoX e [] [(105,1),(1402,1)] f90 N
def s90p0:=(λe=>cV<|Zr2 (CoU X90 e [] 0) [0]) emp
def s90p1:=(λe=>cV<|Zr2 (CoU X90 e [] 0) [1,0]) emp
def s90p2:=(λe=>cV<|Zr2 (CoU X90 e [] 0) [1,1,0]) emp
def s90p3:=(λe=>cV<|Zr2 (CoU X90 e [] 0) [1,1,1,0]) emp
def s90p4:=(λe=>cV<|Zr2 (CoU X90 e [] 0) [1,1,1,1,0]) emp
def s90p5:=(λe=>cV<|Zr2 (CoU X90 e [] 0) [1,1,1,1,1,0]) emp
def s90p6:=(λe=>cV<|Zr2 (CoU X90 e [] 0) [1,1,1,1,1,1,0]) emp
def s90p7:=(λe=>cV<|Zr2 (CoU X90 e [] 0) [1,1,1,1,1,1,1,0]) emp
def c90:ACode:=.seq s90p0<|.seq s90p1<|.seq s90p2<|.seq s90p3<|.seq s90p4<|.seq s90p5<|.seq s90p6<|.seq s90p7 .ret
def X91(e)(N):=cV<|CoX e [] [(819,1)] f91 N
def c91L0b:=(λe=>cV<|CoU X91 e [] 0) emp
def c91L0:=(λe a=>cV<|CoU X91 e [a] 1) emp c91L0b
def c91:=(λe a b=>cV<|CoU X91 e [a,b] 2) emp c91L0b c91L0
def c92:=(λe=>cV<|CoW [(119,1)] f92 e) emp
def c93:=(λe=>cV<|CoW [(317,1)] f93 e) emp
def X94(e)(N):=cV<|CoX e [] [(100,1),(402,1),(902,1),(1402,1),(1902,1),(2402,1)] f94 N
def c94L0b:=(λe=>cV<|CoU X94 e [] 0) emp
def c94L0:=(λe a=>cV<|CoU X94 e [a] 1) emp c94L0b
def c94L1b:=(λe a b=>cV<|CoU X94 e [a,b] 2) emp c94L0b c94L0
def c94L1:=(λe a b c=>cV<|CoU X94 e [a,b,c] 3) emp c94L0b c94L0 c94L1b
def c94L2b:=(λe a b c d=>cV<|CoU X94 e [a,b,c,d] 4) emp c94L0b c94L0 c94L1b c94L1
def c94L2:=(λe a b c d g=>cV<|CoU X94 e [a,b,c,d,g] 5) emp c94L0b c94L0 c94L1b c94L1 c94L2b
def c94L3b:=(λe a b c d g h=>cV<|CoU X94 e [a,b,c,d,g,h] 6) emp c94L0b c94L0 c94L1b c94L1 c94L2b c94L2
def c94L3:=(λe a b c d g h i=>cV<|CoU X94 e [a,b,c,d,g,h,i] 7) emp c94L0b c94L0 c94L1b c94L1 c94L2b c94L2 c94L3b
def c94L4b:=(λe a b c d g h i j=>cV<|CoU X94 e [a,b,c,d,g,h,i,j] 8) emp c94L0b c94L0 c94L1b c94L1 c94L2b c94L2 c94L3b c94L3
def c94L4:=(λe a b c d g h i j k=>cV<|CoU X94 e [a,b,c,d,g,h,i,j,k] 9) emp c94L0b c94L0 c94L1b c94L1 c94L2b c94L2 c94L3b c94L3 c94L4b
def c94:=(λe a b c d g h i j k l=>cV<|CoU X94 e [a,b,c,d,g,h,i,j,k,l] 10) emp c94L0b c94L0 c94L1b c94L1 c94L2b c94L2 c94L3b c94L3 c94L4b c94L4
def X95(e)(N):=cV<|CoX e [] [(402,1),(505,1)] f95 N
def c95L0b:=(λe=>cV<|CoU X95 e [] 0) emp
def c95L0:=(λe a=>cV<|CoU X95 e [a] 1) emp c95L0b
def c95:=(λe a b=>cV<|CoU X95 e [a,b] 2) emp c95L0b c95L0
def X96(e)(N):=cV<|CoX e [] [(101,1),(411,1),(502,1),(603,1),(1103,3)] f96 N
def c96L0b:=(λe=>cV<|CoU X96 e [] 0) emp
def c96L0:=(λe a=>cV<|CoU X96 e [a] 1) emp c96L0b
def c96L1b:=(λe a b=>cV<|CoU X96 e [a,b] 2) emp c96L0b c96L0
def c96L1:=(λe a b c=>cV<|CoU X96 e [a,b,c] 3) emp c96L0b c96L0 c96L1b
def c96:=(λe a b c d=>cV<|CoU X96 e [a,b,c,d] 4) emp c96L0b c96L0 c96L1b c96L1
def c98:=(λe=>cV<|CoW [] f98 e) emp
def c99:=(λe=>cV<|CoW [] f99 e) emp
def c101:=(λe=>cV<|CoW [] f101 e) emp
def ZPr(e)(N):=cV<|CoX e [] [] f102 N
def c102L0b:=(λe=>cV<|CoU ZPr e [] 0) emp
def c102L0:=(λe a=>cV<|CoU ZPr e [a] 1) emp c102L0b
def c102:=(λe a b=>cV<|CoU ZPr e [a,b] 2) emp c102L0b c102L0
def c107:=(λe=>cV<|CoW [(0,1)] f107 e) emp
def c108:=(λe s0 s1 s2 s3 s4 s5 s6 s7 s8=>cV<|coY (CoX e [(233606820031262824291793228925311306333649869794303002079163341563213949795593257878683467579756910891606622701420032317479258,s0),(1436506918544312769132601,s1),(351,s2),(18876682,s3),(291,s4),(290,s5),(289,s6),(80958,s7),(24970544417651213645683474901805,s8)] [(0,1),(100,1),(301,1),(401,1),(501,1),(601,1),(701,1),(801,1),(901,1),(1001,1),(1101,1)] f108) [] 0) emp (B [97,98,99,100,101,102,103,104,105,106,107,108,109,110,111,112,113,114,115,116,117,118,119,120,121,122,65,66,67,68,69,70,71,72,73,74,75,76,77,78,79,80,81,82,83,84,85,86,87,88,89,90]) (B [48,49,50,51,52,53,54,55,56,57]) (B [95]) (B [32,9,10]) (B [35]) (B [34]) (B [33]) (B [60,62]) (B [59,44,46,58,40,41,91,93,123,125,61,43,45])
def ZPs(e)(N):=cV<|CoX e [] [] f109 N
def c109L0b:=(λe=>cV<|CoU ZPs e [] 0) emp
def c109L0:=(λe a=>cV<|CoU ZPs e [a] 1) emp c109L0b
def c109:=(λe a b=>cV<|CoU ZPs e [a,b] 2) emp c109L0b c109L0
def c110:=(λe s0 s1=>cV<|coY (CoX e [(74250,s0),(317,s1)] [(0,1)] f110) [] 0) emp (B [34,10]) (B [61])
def c116:=(λe=>cV<|CoW [] f116 e) emp
def ZLD(e)(N):=cV<|CoX e [] [] f119 N
def c119L0b:=(λe=>cV<|CoU ZLD e [] 0) emp
def c119L0:=(λe a=>cV<|CoU ZLD e [a] 1) emp c119L0b
def c119:=(λe a b=>cV<|CoU ZLD e [a,b] 2) emp c119L0b c119L0
def ZLE(e)(N):=cV<|CoX e [] [] f120 N
def c120L0b:=(λe=>cV<|CoU ZLE e [] 0) emp
def c120L0:=(λe a=>cV<|CoU ZLE e [a] 1) emp c120L0b
def c120:=(λe a b=>cV<|CoU ZLE e [a,b] 2) emp c120L0b c120L0
def ZLn(e)(N):=cV<|CoX e [] [(303,1),(405,1),(1003,1),(1109,1)] f121 N
def c121L0b:=(λe=>cV<|CoU ZLn e [] 0) emp
def c121L0:=(λe a=>cV<|CoU ZLn e [a] 1) emp c121L0b
def c121L1b:=(λe a b=>cV<|CoU ZLn e [a,b] 2) emp c121L0b c121L0
def c121L1:=(λe a b c=>cV<|CoU ZLn e [a,b,c] 3) emp c121L0b c121L0 c121L1b
def c121:=(λe a b c d=>cV<|CoU ZLn e [a,b,c,d] 4) emp c121L0b c121L0 c121L1b c121L1
def c124:=(λe=>cV<|CoW [] f124 e) emp
def c125:=(λe=>cV<|CoW [] f125 e) emp
def c126:=(λe=>cV<|CoW [(0,1),(1,1),(102,1)] f126 e) emp
def c127:=(λe=>cV<|CoW [(0,1),(100,1)] f127 e) emp
def Zxl(e)(N):=cV<|CoX e [] [(101,1),(202,1),(203,1),(404,1),(604,1),(1002,1),(1104,1),(1602,1),(1804,1)] f128 N
def c128L0b:=(λe=>cV<|CoU Zxl e [] 0) emp
def c128L0:=(λe a=>cV<|CoU Zxl e [a] 1) emp c128L0b
def c128L1b:=(λe a b=>cV<|CoU Zxl e [a,b] 2) emp c128L0b c128L0
def c128L1:=(λe a b c=>cV<|CoU Zxl e [a,b,c] 3) emp c128L0b c128L0 c128L1b
def s128p0:=(λe a b c d=>cV<|Zr2 (CoU Zxl e [a,b,c,d] 4) [0]) emp c128L0b c128L0 c128L1b c128L1
def s128p1:=(λe a b c d=>cV<|Zr2 (CoU Zxl e [a,b,c,d] 4) [1,0]) emp c128L0b c128L0 c128L1b c128L1
def s128p2:=(λe a b c d=>cV<|Zr2 (CoU Zxl e [a,b,c,d] 4) [1,1,0]) emp c128L0b c128L0 c128L1b c128L1
def s128p3:=(λe a b c d=>cV<|Zr2 (CoU Zxl e [a,b,c,d] 4) [1,1,1,0]) emp c128L0b c128L0 c128L1b c128L1
def s128p4:=(λe a b c d=>cV<|Zr2 (CoU Zxl e [a,b,c,d] 4) [1,1,1,1,0]) emp c128L0b c128L0 c128L1b c128L1
def s128p5:=(λe a b c d=>cV<|Zr2 (CoU Zxl e [a,b,c,d] 4) [1,1,1,1,1,0]) emp c128L0b c128L0 c128L1b c128L1
def s128p6:=(λe a b c d=>cV<|Zr2 (CoU Zxl e [a,b,c,d] 4) [1,1,1,1,1,1,0]) emp c128L0b c128L0 c128L1b c128L1
def s128p7:=(λe a b c d=>cV<|Zr2 (CoU Zxl e [a,b,c,d] 4) [1,1,1,1,1,1,1,0]) emp c128L0b c128L0 c128L1b c128L1
def c128:ACode:=.seq s128p0<|.seq s128p1<|.seq s128p2<|.seq s128p3<|.seq s128p4<|.seq s128p5<|.seq s128p6<|.seq s128p7 .ret
def c129:=(λe=>cV<|CoW [] f129 e) emp
def c130:=(λe=>cV<|CoW [] f130 e) emp
def c131:=(λe=>cV<|CoW [(100,2)] f131 e) emp
def c132:=(λe=>cV<|CoW [] f132 e) emp
def ZFm(e)(N):=cV<|CoX e [] [(1200,1),(1502,1)] f133 N
def c133L0b:=(λe=>cV<|CoU ZFm e [] 0) emp
def c133L0:=(λe a=>cV<|CoU ZFm e [a] 1) emp c133L0b
def c133:=(λe a b=>cV<|CoU ZFm e [a,b] 2) emp c133L0b c133L0
def ZPt(e)(N):=cV<|CoX e [] [(402,1),(801,1),(802,1)] f134 N
def c134L0b:=(λe=>cV<|CoU ZPt e [] 0) emp
def c134L0:=(λe a=>cV<|CoU ZPt e [a] 1) emp c134L0b
def c134:=(λe a b=>cV<|CoU ZPt e [a,b] 2) emp c134L0b c134L0
def c135:=(λe=>cV<|CoW [(100,2)] f135 e) emp
def c136:=(λe=>cV<|CoW [(100,2)] f136 e) emp
def c137:=(λe=>cV<|CoW [] f137 e) emp
def ZPu(e)(N):=cV<|CoX e [] [(3,1),(105,1),(200,1)] f138 N
def c138R0a:=(λe=>cV<|CoU ZPu e [] 0) emp
def c138R0b:=(λe a=>cV<|CoU ZPu e [a] 1) emp c138R0a
def c138:=(λe a b=>cV<|CoU ZPu e [a,b] 2) emp c138R0a c138R0b
def c139:=(λe s0=>cV<|coY (CoX e [(376,s0)] [(104,2)] f139) [] 0) emp (B [120])
def c140:=(λe=>cV<|CoW [(0,1)] f140 e) emp
def ZO8(e)(N):=cV<|CoX e [] [(105,1)] f141 N
def c141L0b:=(λe=>cV<|CoU ZO8 e [] 0) emp
def c141L0:=(λe a=>cV<|CoU ZO8 e [a] 1) emp c141L0b
def s141p0:=(λe a b=>cV<|Zr2 (CoU ZO8 e [a,b] 2) [0]) emp c141L0b c141L0
def s141p1:=(λe a b=>cV<|Zr2 (CoU ZO8 e [a,b] 2) [1,0]) emp c141L0b c141L0
def s141p2:=(λe a b=>cV<|Zr2 (CoU ZO8 e [a,b] 2) [1,1,0]) emp c141L0b c141L0
def s141p3:=(λe a b=>cV<|Zr2 (CoU ZO8 e [a,b] 2) [1,1,1,0]) emp c141L0b c141L0
def s141p4:=(λe a b=>cV<|Zr2 (CoU ZO8 e [a,b] 2) [1,1,1,1,0]) emp c141L0b c141L0
def s141p5:=(λe a b=>cV<|Zr2 (CoU ZO8 e [a,b] 2) [1,1,1,1,1,0]) emp c141L0b c141L0
def s141p6:=(λe a b=>cV<|Zr2 (CoU ZO8 e [a,b] 2) [1,1,1,1,1,1,0]) emp c141L0b c141L0
def s141p7:=(λe a b=>cV<|Zr2 (CoU ZO8 e [a,b] 2) [1,1,1,1,1,1,1,0]) emp c141L0b c141L0
def s141p8:=(λe a b=>cV<|Zr2 (CoU ZO8 e [a,b] 2) [1,1,1,1,1,1,1,1,0]) emp c141L0b c141L0
def s141p9:=(λe a b=>cV<|Zr2 (CoU ZO8 e [a,b] 2) [1,1,1,1,1,1,1,1,1,0]) emp c141L0b c141L0
def s141p10:=(λe a b=>cV<|Zr2 (CoU ZO8 e [a,b] 2) [1,1,1,1,1,1,1,1,1,1,0]) emp c141L0b c141L0
def c141:ACode:=.seq s141p0<|.seq s141p1<|.seq s141p2<|.seq s141p3<|.seq s141p4<|.seq s141p5<|.seq s141p6<|.seq s141p7<|.seq s141p8<|.seq s141p9<|.seq s141p10 .ret
def c142:=(λe=>cV<|CoW [(100,2),(101,1),(301,1),(401,1)] f142 e) emp
def Zxm(e)(N):=cV<|CoX e [] [(702,1),(1502,1)] f143 N
def c143L0b:=(λe=>cV<|CoU Zxm e [] 0) emp
def c143L0:=(λe a=>cV<|CoU Zxm e [a] 1) emp c143L0b
def c143L1b:=(λe a b=>cV<|CoU Zxm e [a,b] 2) emp c143L0b c143L0
def c143L1:=(λe a b c=>cV<|CoU Zxm e [a,b,c] 3) emp c143L0b c143L0 c143L1b
def c143L2b:=(λe a b c d=>cV<|CoU Zxm e [a,b,c,d] 4) emp c143L0b c143L0 c143L1b c143L1
def c143L2:=(λe a b c d g=>cV<|CoU Zxm e [a,b,c,d,g] 5) emp c143L0b c143L0 c143L1b c143L1 c143L2b
def c143L3b:=(λe a b c d g h=>cV<|CoU Zxm e [a,b,c,d,g,h] 6) emp c143L0b c143L0 c143L1b c143L1 c143L2b c143L2
def c143L3:=(λe a b c d g h i=>cV<|CoU Zxm e [a,b,c,d,g,h,i] 7) emp c143L0b c143L0 c143L1b c143L1 c143L2b c143L2 c143L3b
def c143:=(λe a b c d g h i j=>cV<|CoU Zxm e [a,b,c,d,g,h,i,j] 8) emp c143L0b c143L0 c143L1b c143L1 c143L2b c143L2 c143L3b c143L3
def c144:=(λe=>cV<|CoW [] f144 e) emp
def c145:=(λe=>cV<|CoW [] f145 e) emp
def c146:=(λe=>cV<|CoW [] f146 e) emp
def c147:=(λe=>cV<|CoW [] f147 e) emp
def c148:=(λe=>cV<|CoW [(100,2),(101,1),(204,1)] f148 e) emp
def c149:=(λe=>cV<|CoW [] f149 e) emp
def c150:=(λe=>cV<|CoW [] f150 e) emp
def c151:=(λe=>cV<|CoW [] f151 e) emp
def c152:=(λe=>cV<|CoW [] f152 e) emp
def c153:=(λe=>cV<|CoW [(100,2),(101,1),(204,1)] f153 e) emp
def c154:=(λe=>cV<|CoW [] f154 e) emp
def c155:=(λe=>cV<|CoW [] f155 e) emp
def c156:=(λe=>cV<|CoW [] f156 e) emp
def c157:=(λe=>cV<|CoW [] f157 e) emp
def c158:=(λe=>cV<|CoW [] f158 e) emp
def c159:=(λe=>cV<|CoW [(0,1),(209,1)] f159 e) emp
def c160:=(λe=>cV<|CoW [] f160 e) emp
def c161:=(λe=>cV<|CoW [] f161 e) emp
def c162:=(λe=>cV<|CoW [(100,2)] f162 e) emp
def c163:=(λe=>cV<|CoW [(114,1)] f163 e) emp
def c164:=(λe=>cV<|CoW [(100,2),(101,1),(204,1)] f164 e) emp
def c165:=(λe=>cV<|CoW [] f165 e) emp
def ZPv(e)(N):=cV<|CoX e [] [(503,1)] f166 N
def c166L0b:=(λe=>cV<|CoU ZPv e [] 0) emp
def c166L0:=(λe a=>cV<|CoU ZPv e [a] 1) emp c166L0b
def c166:=(λe a b=>cV<|CoU ZPv e [a,b] 2) emp c166L0b c166L0
def c167:=(λe=>cV<|CoW [(100,2),(101,1),(204,1)] f167 e) emp
def c168:=(λe=>cV<|CoW [] f168 e) emp
def c169:=(λe=>cV<|CoW [] f169 e) emp
def c170:=(λe=>cV<|CoW [(100,2)] f170 e) emp
def c171:=(λe=>cV<|CoW [] f171 e) emp
def c172:=(λe=>cV<|CoW [] f172 e) emp
def c173:=(λe=>cV<|CoW [] f173 e) emp
def c174:=(λe=>cV<|CoW [(100,2),(101,1),(204,1)] f174 e) emp
def c175:=(λe=>cV<|CoW [] f175 e) emp
def c176:=(λe=>cV<|CoW [] f176 e) emp
def c177:=(λe=>cV<|CoW [] f177 e) emp
def c179:=(λe=>cV<|CoW [] f179 e) emp
def ZLM(e)(N):=cV<|CoX e [] [] f189 N
def c189L0b:=(λe=>cV<|CoU ZLM e [] 0) emp
def c189L0:=(λe a=>cV<|CoU ZLM e [a] 1) emp c189L0b
def c189:=(λe a b=>cV<|CoU ZLM e [a,b] 2) emp c189L0b c189L0
def ZLN(e)(N):=cV<|CoX e [] [] f190 N
def c190L0b:=(λe=>cV<|CoU ZLN e [] 0) emp
def c190L0:=(λe a=>cV<|CoU ZLN e [a] 1) emp c190L0b
def c190:=(λe a b=>cV<|CoU ZLN e [a,b] 2) emp c190L0b c190L0
def c191:=(λe=>cV<|CoW [] f191 e) emp
def c207:=(λe=>cV<|CoW [] f207 e) emp
def c219:=(λe=>cV<|CoW [(100,2)] f219 e) emp
def c220:=(λe=>cV<|CoW [] f220 e) emp
def c221:=(λe=>cV<|CoW [] f221 e) emp
def c222:=(λe=>cV<|CoW [] f222 e) emp
def c223:=(λe=>cV<|CoW [] f223 e) emp
def c224:=(λe=>cV<|CoW [] f224 e) emp
def c225:=(λe=>cV<|CoW [(219,2)] f225 e) emp
def c226:=(λe=>cV<|CoW [] f226 e) emp
def ZFA(e)(N):=cV<|CoX e [] [(303,1)] f227 N
def c227L0b:=(λe=>cV<|CoU ZFA e [] 0) emp
def c227L0:=(λe a=>cV<|CoU ZFA e [a] 1) emp c227L0b
def c227:=(λe a b=>cV<|CoU ZFA e [a,b] 2) emp c227L0b c227L0
def c228:=(λe=>cV<|CoW [] f228 e) emp
def ZxC(e)(N):=cV<|CoX e [] [(100,1),(402,1),(1004,2)] f229 N
def c229L0b:=(λe=>cV<|CoU ZxC e [] 0) emp
def c229L0:=(λe a=>cV<|CoU ZxC e [a] 1) emp c229L0b
def c229:=(λe a b=>cV<|CoU ZxC e [a,b] 2) emp c229L0b c229L0
def c230:=(λe=>cV<|CoW [] f230 e) emp
def c231:=(λe=>cV<|CoW [(103,2)] f231 e) emp
def c232:=(λe=>cV<|CoW [] f232 e) emp
def c233:=(λe=>cV<|CoW [] f233 e) emp
def c234:=(λe=>cV<|CoW [] f234 e) emp
def c235:=(λe=>cV<|CoW [] f235 e) emp
def c236:=(λe=>cV<|CoW [] f236 e) emp
def c237:=(λe=>cV<|CoW [] f237 e) emp
def c238:=(λe=>cV<|CoW [(112,2)] f238 e) emp
def ZxF(e)(N):=cV<|CoX e [] [(100,1),(402,1),(900,2),(903,2)] f239 N
def c239L0b:=(λe=>cV<|CoU ZxF e [] 0) emp
def c239L0:=(λe a=>cV<|CoU ZxF e [a] 1) emp c239L0b
def c239:=(λe a b=>cV<|CoU ZxF e [a,b] 2) emp c239L0b c239L0
def c240:=(λe=>cV<|CoW [(100,2)] f240 e) emp
def c241:=(λe=>cV<|CoW [(109,1)] f241 e) emp
def c242:=(λe=>cV<|CoW [(107,1)] f242 e) emp
def c243:=(λe=>cV<|CoW [] f243 e) emp
def c244:=(λe=>cV<|CoW [] f244 e) emp
def c245:=(λe=>cV<|CoW [(100,2)] f245 e) emp
def ZxH(e)(N):=cV<|CoX e [] [(202,1),(314,1),(702,1),(1008,1),(1402,1),(1526,1),(1902,1),(2008,1)] f247 N
def c247L0b:=(λe=>cV<|CoU ZxH e [] 0) emp
def c247L0:=(λe a=>cV<|CoU ZxH e [a] 1) emp c247L0b
def c247L1b:=(λe a b=>cV<|CoU ZxH e [a,b] 2) emp c247L0b c247L0
def c247L1:=(λe a b c=>cV<|CoU ZxH e [a,b,c] 3) emp c247L0b c247L0 c247L1b
def c247L2b:=(λe a b c d=>cV<|CoU ZxH e [a,b,c,d] 4) emp c247L0b c247L0 c247L1b c247L1
def c247L2:=(λe a b c d g=>cV<|CoU ZxH e [a,b,c,d,g] 5) emp c247L0b c247L0 c247L1b c247L1 c247L2b
def c247L3b:=(λe a b c d g h=>cV<|CoU ZxH e [a,b,c,d,g,h] 6) emp c247L0b c247L0 c247L1b c247L1 c247L2b c247L2
def c247L3:=(λe a b c d g h i=>cV<|CoU ZxH e [a,b,c,d,g,h,i] 7) emp c247L0b c247L0 c247L1b c247L1 c247L2b c247L2 c247L3b
def c247:=(λe a b c d g h i j=>cV<|CoU ZxH e [a,b,c,d,g,h,i,j] 8) emp c247L0b c247L0 c247L1b c247L1 c247L2b c247L2 c247L3b c247L3
def c248:=(λe=>cV<|CoW [(100,2)] f248 e) emp
def ZPw(e)(N):=cV<|CoX e [] [] f249 N
def c249L0b:=(λe=>cV<|CoU ZPw e [] 0) emp
def c249L0:=(λe a=>cV<|CoU ZPw e [a] 1) emp c249L0b
def c249:=(λe a b=>cV<|CoU ZPw e [a,b] 2) emp c249L0b c249L0
def c251:=(λe=>cV<|CoW [(108,1),(200,2),(400,2)] f251 e) emp
def c253:=(λe=>cV<|CoW [] f253 e) emp
def ZLS(e)(N):=cV<|CoX e [] [] f254 N
def c254L0b:=(λe=>cV<|CoU ZLS e [] 0) emp
def c254L0:=(λe a=>cV<|CoU ZLS e [a] 1) emp c254L0b
def c254:=(λe a b=>cV<|CoU ZLS e [a,b] 2) emp c254L0b c254L0
def ZPx(e)(N):=cV<|CoX e [] [] f255 N
def c255L0b:=(λe=>cV<|CoU ZPx e [] 0) emp
def c255L0:=(λe a=>cV<|CoU ZPx e [a] 1) emp c255L0b
def c255:=(λe a b=>cV<|CoU ZPx e [a,b] 2) emp c255L0b c255L0
def c256:=(λe=>cV<|CoW [] f256 e) emp
def c259:=(λe=>cV<|CoW [(100,2)] f259 e) emp
def c260:=(λe=>cV<|CoW [] f260 e) emp
def c262:=(λe=>cV<|CoW [(100,2)] f262 e) emp
def c263:=(λe=>cV<|CoW [] f263 e) emp
def c265:=(λe=>cV<|CoW [(100,2)] f265 e) emp
def c266:=(λe=>cV<|CoW [] f266 e) emp
def c267:=(λe=>cV<|CoW [] f267 e) emp
def ZxN(e)(N):=cV<|CoX e [] [] f268 N
def c268L0b:=(λe=>cV<|CoU ZxN e [] 0) emp
def c268L0:=(λe a=>cV<|CoU ZxN e [a] 1) emp c268L0b
def c268:=(λe a b=>cV<|CoU ZxN e [a,b] 2) emp c268L0b c268L0
def c270:=(λe=>cV<|CoW [] f270 e) emp
def c271:=(λe=>cV<|CoW [] f271 e) emp
def c273:=(λe=>cV<|CoW [(100,2)] f273 e) emp
def c274:=(λe=>cV<|CoW [] f274 e) emp
def c276:=(λe=>cV<|CoW [(100,2)] f276 e) emp
def c277:=(λe=>cV<|CoW [] f277 e) emp
def c317:=(λe=>cV<|CoW [(100,2)] f317 e) emp
def c318:=(λe=>cV<|CoW [] f318 e) emp
def ZPy(e)(N):=cV<|CoX e [] [(100,1),(200,2),(201,1),(300,1),(400,1)] f319 N
def c319R0a:=(λe=>cV<|CoU ZPy e [] 0) emp
def c319R0b:=(λe a=>cV<|CoU ZPy e [a] 1) emp c319R0a
def c319:=(λe a b=>cV<|CoU ZPy e [a,b] 2) emp c319R0a c319R0b
def ZOH(e)(N):=cV<|CoX e [] [(511,1),(512,1)] f320 N
def c320L0b:=(λe=>cV<|CoU ZOH e [] 0) emp
def c320L0:=(λe a=>cV<|CoU ZOH e [a] 1) emp c320L0b
def c320L1b:=(λe a b=>cV<|CoU ZOH e [a,b] 2) emp c320L0b c320L0
def c320L1:=(λe a b c=>cV<|CoU ZOH e [a,b,c] 3) emp c320L0b c320L0 c320L1b
def c320:=(λe a b c d=>cV<|CoU ZOH e [a,b,c,d] 4) emp c320L0b c320L0 c320L1b c320L1
def c321:=(λe s0=>cV<|coY (CoX e [(288,s0)] [] f321) [] 0) emp (B [32])
def ZPz(e)(N):=cV<|CoX e [] [(402,1)] f322 N
def c322L0b:=(λe=>cV<|CoU ZPz e [] 0) emp
def c322L0:=(λe a=>cV<|CoU ZPz e [a] 1) emp c322L0b
def c322:=(λe a b=>cV<|CoU ZPz e [a,b] 2) emp c322L0b c322L0
def ZPA(e)(N):=cV<|CoX e [] [] f323 N
def c323L0b:=(λe=>cV<|CoU ZPA e [] 0) emp
def c323L0:=(λe a=>cV<|CoU ZPA e [a] 1) emp c323L0b
def c323:=(λe a b=>cV<|CoU ZPA e [a,b] 2) emp c323L0b c323L0
def c324:=(λe=>cV<|CoW [(100,2)] f324 e) emp
def c325:=(λe=>cV<|CoW [] f325 e) emp
def c326:=(λe=>cV<|CoW [] f326 e) emp
def ZPB(e)(N):=cV<|CoX e [] [(302,1)] f327 N
def c327L0b:=(λe=>cV<|CoU ZPB e [] 0) emp
def c327L0:=(λe a=>cV<|CoU ZPB e [a] 1) emp c327L0b
def c327:=(λe a b=>cV<|CoU ZPB e [a,b] 2) emp c327L0b c327L0
def c328:=(λe=>cV<|CoW [] f328 e) emp
def c329:=(λe=>cV<|CoW [] f329 e) emp
def ZPC(e)(N):=cV<|CoX e [] [(402,1)] f330 N
def c330L0b:=(λe=>cV<|CoU ZPC e [] 0) emp
def c330L0:=(λe a=>cV<|CoU ZPC e [a] 1) emp c330L0b
def c330:=(λe a b=>cV<|CoU ZPC e [a,b] 2) emp c330L0b c330L0
def c331:=(λe=>cV<|CoW [] f331 e) emp
def c332:=(λe=>cV<|CoW [] f332 e) emp
def ZPD(e)(N):=cV<|CoX e [] [] f333 N
def c333L0b:=(λe=>cV<|CoU ZPD e [] 0) emp
def c333L0:=(λe a=>cV<|CoU ZPD e [a] 1) emp c333L0b
def c333:=(λe a b=>cV<|CoU ZPD e [a,b] 2) emp c333L0b c333L0
def c334:=(λe=>cV<|CoW [(100,2)] f334 e) emp
def c335:=(λe=>cV<|CoW [(100,2)] f335 e) emp
def ZPE(e)(N):=cV<|CoX e [] [(306,1)] f339 N
def c339L0b:=(λe=>cV<|CoU ZPE e [] 0) emp
def c339L0:=(λe a=>cV<|CoU ZPE e [a] 1) emp c339L0b
def c339:=(λe a b=>cV<|CoU ZPE e [a,b] 2) emp c339L0b c339L0
def ZPF(e)(N):=cV<|CoX e [] [] f341 N
def c341L0b:=(λe=>cV<|CoU ZPF e [] 0) emp
def c341L0:=(λe a=>cV<|CoU ZPF e [a] 1) emp c341L0b
def c341:=(λe a b=>cV<|CoU ZPF e [a,b] 2) emp c341L0b c341L0
def ZPG(e)(N):=cV<|CoX e [] [] f342 N
def c342L0b:=(λe=>cV<|CoU ZPG e [] 0) emp
def c342L0:=(λe a=>cV<|CoU ZPG e [a] 1) emp c342L0b
def c342:=(λe a b=>cV<|CoU ZPG e [a,b] 2) emp c342L0b c342L0
def ZPH(e)(N):=cV<|CoX e [] [] f343 N
def c343L0b:=(λe=>cV<|CoU ZPH e [] 0) emp
def c343L0:=(λe a=>cV<|CoU ZPH e [a] 1) emp c343L0b
def c343:=(λe a b=>cV<|CoU ZPH e [a,b] 2) emp c343L0b c343L0
def ZPI(e)(N):=cV<|CoX e [] [] f344 N
def c344L0b:=(λe=>cV<|CoU ZPI e [] 0) emp
def c344L0:=(λe a=>cV<|CoU ZPI e [a] 1) emp c344L0b
def c344:=(λe a b=>cV<|CoU ZPI e [a,b] 2) emp c344L0b c344L0
def ZPJ(e)(N):=cV<|CoX e [] [] f363 N
def c363L0b:=(λe=>cV<|CoU ZPJ e [] 0) emp
def c363L0:=(λe a=>cV<|CoU ZPJ e [a] 1) emp c363L0b
def c363:=(λe a b=>cV<|CoU ZPJ e [a,b] 2) emp c363L0b c363L0
def c364:=(λe=>cV<|CoW [] f364 e) emp
def c365:=(λe=>cV<|CoW [] f365 e) emp
def c366:=(λe=>cV<|CoW [(106,1),(107,1)] f366 e) emp
def c367:=(λe=>cV<|CoW [] f367 e) emp
def ZPK(e)(N):=cV<|CoX e [] [] f368 N
def c368L0b:=(λe=>cV<|CoU ZPK e [] 0) emp
def c368L0:=(λe a=>cV<|CoU ZPK e [a] 1) emp c368L0b
def c368:=(λe a b=>cV<|CoU ZPK e [a,b] 2) emp c368L0b c368L0
def c369:=(λe=>cV<|CoW [(0,1)] f369 e) emp
def c370:=(λe=>cV<|CoW [] f370 e) emp
def ZPL(e)(N):=cV<|CoX e [] [(1,1),(2,1),(100,2),(101,1),(200,1),(300,1)] f371 N
def c371R0a:=(λe=>cV<|CoU ZPL e [] 0) emp
def c371R0b:=(λe a=>cV<|CoU ZPL e [a] 1) emp c371R0a
def c371:=(λe a b=>cV<|CoU ZPL e [a,b] 2) emp c371R0a c371R0b
def ZPM(e)(N):=cV<|CoX e [] [(203,1),(310,1)] f386 N
def c386L0b:=(λe=>cV<|CoU ZPM e [] 0) emp
def c386L0:=(λe a=>cV<|CoU ZPM e [a] 1) emp c386L0b
def c386:=(λe a b=>cV<|CoU ZPM e [a,b] 2) emp c386L0b c386L0
def ZPN(e)(N):=cV<|CoX e [] [(302,1)] f387 N
def c387L0b:=(λe=>cV<|CoU ZPN e [] 0) emp
def c387L0:=(λe a=>cV<|CoU ZPN e [a] 1) emp c387L0b
def c387:=(λe a b=>cV<|CoU ZPN e [a,b] 2) emp c387L0b c387L0
def c388:=(λe=>cV<|CoW [(2,1)] f388 e) emp
def c389:=(λe=>cV<|CoW [] f389 e) emp
def c390:=(λe=>cV<|CoW [(503,1)] f390 e) emp
def c391:=(λe=>cV<|CoW [] f391 e) emp
def ZPO(e)(N):=cV<|CoX e [] [] f392 N
def c392L0b:=(λe=>cV<|CoU ZPO e [] 0) emp
def c392L0:=(λe a=>cV<|CoU ZPO e [a] 1) emp c392L0b
def c392:=(λe a b=>cV<|CoU ZPO e [a,b] 2) emp c392L0b c392L0
def c405:=(λe=>cV<|CoW [(2,1)] f405 e) emp
def c406:=(λe=>cV<|CoW [] f406 e) emp
def c407:=(λe=>cV<|CoW [] f407 e) emp
def FN0:List (Nat×AFun):=[(4,⟨[.tmp 10],c4⟩),(8,⟨[.tmp 0],c8⟩),(9,⟨[.cell 8<|some 4,.tmp 9],c9⟩),(10,⟨[.tmp 2],c10⟩),(11,⟨[.tmp 4],c11⟩),(14,⟨[.tmp 4],c14⟩),(15,⟨[.cell 8<|some 2,.tmp 9],c15⟩),(16,⟨[.cell 6<|some 7,.tmp 7],c16⟩),(17,⟨[.cell 4<|some 2,.tmp 5],c17⟩),(18,⟨[.tmp 4],c18⟩),(19,⟨[.tmp 4],c19⟩),(22,⟨[.tmp 4],c22⟩),(23,⟨[.tmp 2,.tmp 3],c23⟩),(25,⟨[.tmp 10],c25⟩)]
def FN1:List (Nat×AFun):=[(26,⟨[.tmp 4],c26⟩),(27,⟨[.tmp 2],c27⟩),(34,⟨[.tmp 4],c34⟩),(35,⟨[.tmp 2],c35⟩),(36,⟨[.tmp 2],c36⟩),(37,⟨[.tmp 6],c37⟩),(38,⟨[.tmp 6],c38⟩),(39,⟨[.cell 6<|some 7,.tmp 7],c39⟩),(40,⟨[.tmp 4],c40⟩),(41,⟨[.tmp 2],c41⟩),(42,⟨[.tmp 4],c42⟩),(48,⟨[.tmp 4],c48⟩),(49,⟨[.tmp 4],c49⟩),(50,⟨[.tmp 3],c50⟩)]
def FN2:List (Nat×AFun):=[(51,⟨[.tmp 2],c51⟩),(54,⟨[.tmp 0],c54⟩),(55,⟨[.tmp 2,.tmp 3,.tmp 4],c55⟩),(56,⟨[.tmp 2],c56⟩),(63,⟨[.tmp 2],c63⟩),(64,⟨[.tmp 6],c64⟩),(69,⟨[.tmp 2,.tmp 3],c69⟩),(70,⟨[.tmp 2],c70⟩),(71,⟨[.tmp 2],c71⟩),(72,⟨[.tmp 4],c72⟩),(73,⟨[.tmp 2],c73⟩),(74,⟨[.cell 2 none],c74⟩),(75,⟨[.tmp 2],c75⟩),(76,⟨[.tmp 2],c76⟩)]
def FN3:List (Nat×AFun):=[(77,⟨[.tmp 2],c77⟩),(78,⟨[.tmp 6],c78⟩),(79,⟨[.tmp 2],c79⟩),(80,⟨[.tmp 2],c80⟩),(81,⟨[.tmp 2],c81⟩),(82,⟨[.tmp 2],c82⟩),(83,⟨[.tmp 2],c83⟩),(84,⟨[.tmp 2],c84⟩),(85,⟨[.tmp 2],c85⟩),(86,⟨[.tmp 2],c86⟩),(87,⟨[.tmp 2],c87⟩),(88,⟨[.tmp 2],c88⟩),(89,⟨[.tmp 2],c89⟩),(90,⟨[.tmp 2],c90⟩)]
def FN4:List (Nat×AFun):=[(91,⟨[.tmp 2],c91⟩),(92,⟨[.tmp 2],c92⟩),(93,⟨[.tmp 2],c93⟩),(94,⟨[.tmp 2],c94⟩),(95,⟨[.tmp 2],c95⟩),(96,⟨[],c96⟩),(102,⟨[.tmp 4],c102⟩),(107,⟨[.cell 2<|some 4],c107⟩),(108,⟨[.cell 0<|some 256],c108⟩),(109,⟨[.tmp 4],c109⟩),(110,⟨[.cell 4<|some 4,.tmp 5,.tmp 6],c110⟩),(116,⟨[.tmp 4],c116⟩),(119,⟨[.tmp 2],c119⟩),(120,⟨[.tmp 2],c120⟩)]
def FN5:List (Nat×AFun):=[(121,⟨[],c121⟩),(125,⟨[.tmp 6],c125⟩),(126,⟨[.cell 2<|some 18],c126⟩),(127,⟨[.cell 0<|some 16],c127⟩),(128,⟨[.tmp 4],c128⟩),(129,⟨[.tmp 3],c129⟩),(130,⟨[.tmp 2],c130⟩),(131,⟨[.tmp 4],c131⟩),(132,⟨[.tmp 3],c132⟩),(133,⟨[.tmp 2],c133⟩),(134,⟨[.tmp 4],c134⟩),(135,⟨[.tmp 4],c135⟩),(136,⟨[.tmp 4],c136⟩),(137,⟨[.tmp 3],c137⟩)]
def FN6:List (Nat×AFun):=[(138,⟨[.cell 6 none],c138⟩),(139,⟨[.tmp 2],c139⟩),(140,⟨[.tmp 4],c140⟩),(141,⟨[.tmp 4],c141⟩),(142,⟨[.tmp 2],c142⟩),(143,⟨[.tmp 2],c143⟩),(144,⟨[.tmp 6],c144⟩),(145,⟨[.tmp 4],c145⟩),(146,⟨[.tmp 4],c146⟩),(147,⟨[.tmp 2],c147⟩),(148,⟨[.tmp 6],c148⟩),(149,⟨[],c149⟩),(150,⟨[.tmp 2],c150⟩),(151,⟨[.tmp 4],c151⟩)]
def FN7:List (Nat×AFun):=[(152,⟨[],c152⟩),(153,⟨[.tmp 6],c153⟩),(154,⟨[],c154⟩),(155,⟨[],c155⟩),(156,⟨[],c156⟩),(157,⟨[.tmp 2],c157⟩),(158,⟨[.tmp 4],c158⟩),(159,⟨[],c159⟩),(160,⟨[.tmp 2],c160⟩),(161,⟨[.tmp 3],c161⟩),(162,⟨[.tmp 4],c162⟩),(163,⟨[.tmp 3],c163⟩),(164,⟨[.tmp 6],c164⟩),(165,⟨[],c165⟩)]
def FN8:List (Nat×AFun):=[(166,⟨[],c166⟩),(167,⟨[.tmp 6],c167⟩),(168,⟨[],c168⟩),(169,⟨[],c169⟩),(170,⟨[.tmp 4],c170⟩),(171,⟨[.tmp 3],c171⟩),(172,⟨[],c172⟩),(173,⟨[.tmp 4],c173⟩),(174,⟨[.tmp 6],c174⟩),(175,⟨[],c175⟩),(176,⟨[.tmp 4],c176⟩),(177,⟨[.tmp 2],c177⟩),(189,⟨[],c189⟩),(190,⟨[.tmp 6],c190⟩)]
def FN9:List (Nat×AFun):=[(191,⟨[.tmp 4],c191⟩),(207,⟨[.tmp 4],c207⟩),(219,⟨[.tmp 3],c219⟩),(220,⟨[.tmp 2],c220⟩),(221,⟨[.tmp 2],c221⟩),(222,⟨[.tmp 2],c222⟩),(223,⟨[.tmp 4],c223⟩),(224,⟨[.tmp 3],c224⟩),(225,⟨[.tmp 2],c225⟩),(226,⟨[.tmp 3],c226⟩),(227,⟨[.tmp 2],c227⟩),(228,⟨[.tmp 3],c228⟩),(229,⟨[.tmp 2],c229⟩),(230,⟨[.tmp 2],c230⟩)]
def ZjY:List (Nat×AFun):=[(231,⟨[.tmp 2],c231⟩),(232,⟨[.tmp 3],c232⟩),(233,⟨[.tmp 2],c233⟩),(234,⟨[.tmp 2],c234⟩),(235,⟨[.tmp 2],c235⟩),(236,⟨[.tmp 2],c236⟩),(237,⟨[.tmp 4],c237⟩),(238,⟨[.tmp 3],c238⟩),(239,⟨[.tmp 4],c239⟩),(240,⟨[.tmp 4],c240⟩),(241,⟨[.tmp 2],c241⟩),(242,⟨[.tmp 2],c242⟩),(243,⟨[.tmp 3],c243⟩),(244,⟨[.tmp 2],c244⟩)]
def ZjZ:List (Nat×AFun):=[(245,⟨[.tmp 3],c245⟩),(247,⟨[],c247⟩),(248,⟨[.tmp 4],c248⟩),(249,⟨[.tmp 4],c249⟩),(251,⟨[.tmp 4],c251⟩),(253,⟨[.tmp 2],c253⟩),(254,⟨[.tmp 4],c254⟩),(255,⟨[.tmp 4],c255⟩),(256,⟨[.tmp 2],c256⟩),(259,⟨[.tmp 4],c259⟩),(260,⟨[.tmp 3],c260⟩),(262,⟨[.tmp 4],c262⟩),(263,⟨[.tmp 3],c263⟩),(265,⟨[.tmp 4],c265⟩)]
def Zk0:List (Nat×AFun):=[(266,⟨[.tmp 3],c266⟩),(267,⟨[.tmp 2],c267⟩),(268,⟨[.tmp 4],c268⟩),(270,⟨[],c270⟩),(271,⟨[],c271⟩),(273,⟨[.tmp 4],c273⟩),(274,⟨[.tmp 3],c274⟩),(276,⟨[.tmp 4],c276⟩),(277,⟨[.tmp 3],c277⟩),(317,⟨[.tmp 4],c317⟩),(318,⟨[.tmp 2],c318⟩),(319,⟨[.tmp 2],c319⟩),(320,⟨[.tmp 2],c320⟩),(321,⟨[.tmp 2],c321⟩)]
def Zsg:List (Nat×AFun):=[(322,⟨[.tmp 2],c322⟩),(323,⟨[.tmp 2],c323⟩),(324,⟨[.tmp 4],c324⟩),(325,⟨[.tmp 2],c325⟩),(326,⟨[.tmp 2],c326⟩),(327,⟨[.tmp 4],c327⟩),(328,⟨[.tmp 2],c328⟩),(329,⟨[.tmp 4],c329⟩),(330,⟨[.tmp 2],c330⟩),(331,⟨[.tmp 3],c331⟩),(332,⟨[.tmp 2],c332⟩),(333,⟨[.tmp 4],c333⟩),(334,⟨[.tmp 4],c334⟩),(335,⟨[.tmp 4],c335⟩)]
def Zsh:List (Nat×AFun):=[(339,⟨[],c339⟩),(341,⟨[.tmp 4],c341⟩),(342,⟨[.tmp 4],c342⟩),(343,⟨[.tmp 4],c343⟩),(344,⟨[.tmp 4],c344⟩),(363,⟨[.tmp 4],c363⟩),(364,⟨[.tmp 2],c364⟩),(365,⟨[.tmp 6],c365⟩),(366,⟨[.tmp 8],c366⟩),(367,⟨[.tmp 2],c367⟩),(368,⟨[.tmp 4],c368⟩),(369,⟨[.cell 0<|some 56],c369⟩),(370,⟨[.tmp 4],c370⟩),(371,⟨[.cell 4 none,.cell 5 none],c371⟩)]
def ZCZ:List (Nat×AFun):=[(386,⟨[],c386⟩),(387,⟨[.tmp 2],c387⟩),(388,⟨[.cell 4<|some 6],c388⟩),(389,⟨[.tmp 4],c389⟩),(390,⟨[.tmp 6],c390⟩),(391,⟨[.tmp 6],c391⟩),(392,⟨[.tmp 6],c392⟩),(405,⟨[.cell 4<|some 2],c405⟩),(406,⟨[.tmp 4],c406⟩),(407,⟨[.tmp 4],c407⟩)]
def ZjW(f:Nat)(l:List<|Nat×AFun):Option AFun:=l.foldr (λp r=>bif Nat.beq f p.1 then some p.2 else r) none
def N0(f:Nat):Option AFun:=bif Nat.blt f 26 then ZjW f FN0 else bif Nat.blt f 51 then ZjW f FN1 else bif Nat.blt f 77 then ZjW f FN2 else bif Nat.blt f 91 then ZjW f FN3 else bif Nat.blt f 121 then ZjW f FN4 else bif Nat.blt f 138 then ZjW f FN5 else bif Nat.blt f 152 then ZjW f FN6 else bif Nat.blt f 166 then ZjW f FN7 else bif Nat.blt f 191 then ZjW f FN8 else bif Nat.blt f 231 then ZjW f FN9 else bif Nat.blt f 245 then ZjW f ZjY else bif Nat.blt f 266 then ZjW f ZjZ else bif Nat.blt f 322 then ZjW f Zk0 else bif Nat.blt f 339 then ZjW f Zsg else bif Nat.blt f 386 then ZjW f Zsh else ZjW f ZCZ
def a44:AFun:=⟨[.tmp 2],c44⟩
def a46:AFun:=⟨[.tmp 2],c46⟩
def Zz9:List (Nat×AFun):=[(44,⟨[.tmp 2],c44⟩),(46,⟨[.tmp 2],c46⟩),(66,⟨[.tmp 5],c66⟩),(67,⟨[.tmp 2],c67⟩),(68,⟨[.tmp 4],c68⟩),(98,⟨[.tmp 5],c98⟩),(99,⟨[.tmp 4],c99⟩),(101,⟨[.tmp 5],c101⟩),(124,⟨[.tmp 2],c124⟩),(179,⟨[.tmp 2],c179⟩)]
def Zza(f:Nat):Option AFun:=ZjW f Zz9
def e0:Env:={fn:=Zza,gl:=λ_=>.bot,sum:=λ_=>none}
def ZGv:List (Nat×AFun):=[(43,⟨[.tmp 4],c43⟩),(45,⟨[.tmp 4],c45⟩)]
def ZGw(f:Nat):Option AFun:=ZjW f ZGv
end Go.AM
