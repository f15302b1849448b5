/- The code of the abstract machine for the functions that the statement LineageEvents reaches. No condition. -/
import Derived.Test.YtceijililnjcpaaGreatDoorQ3
import Derived.Test.YtceijililnjcpaaGreatDoorProg
set_option linter.unusedVariables false
set_option linter.unusedSimpArgs false
set_option linter.unusedSectionVars false
namespace Go.AM
open Go
inductive CoTy where
 | b | i (k:IntKind) | s | sl (e by':Nat) | st (fs:List Nat) | ar (n e:Nat) | mp (k v:Nat) | p | f | j | o
structure CoCx where
 T:Nat→CoTy
 e:ByteArray
 S:List (Nat×ByteArray)
 H:List (Nat×Nat)
 N:Nat→ACode
def ZvB {α:Type} (d:α):List α→Nat→α
 | [],_=>d
 | x::r,n=>bif n==0 then x else ZvB d r (n - 1)
def Zwo (T:Nat→CoTy):Nat→Nat→Nat
 | 0,_=>1
 | n+1,t=>match T t with
  | .st fs=>fs.foldr (fun f s=>Zwo T n f+s) 0
  | .ar k e=>k * Zwo T n e
  | _=>1
def Zw0 (T:Nat→CoTy) (e:ByteArray):Nat→Nat→List AV
 | 0,_=>[]
 | n+1,t=>match T t with
  | .b=>[.bool false]
  | .i k=>[.int k 0]
  | .s=>[.str e]
  | .sl x _=>[.isl false false (Zwo T n x) []]
  | .st fs=>fs.foldr (fun f s=>Zw0 T e n f++s) []
  | .ar k x=>(List.replicate k (Zw0 T e n x)).flatten
  | .mp _ _=>[.nilmap]
  | .p=>[.nilp]
  | .f=>[.nilfn]
  | .j=>[.nilif]
  | .o=>[.bot]
def ZvR (T:Nat→CoTy):Nat→Nat→List Nat
 | 0,_=>[]
 | n+1,t=>match T t with
  | .b=>[0]
  | .i _=>[1]
  | .s=>[2]
  | .st fs=>fs.foldr (fun f s=>ZvR T n f++s) []
  | .ar k x=>(List.replicate k (ZvR T n x)).flatten
  | _=>[]
def Zw1:CoTy→Bool
 | .st _ | .ar _ _=>true
 | _=>false
def ZwJ (b:Bool):AV→AV
 | .isl w _ n l=>.isl w b n l
 | v=>v
def ZvK (X:CoCx) (top:Bool) (t:Nat):AV:=match X.T t with
 | .st _ | .ar _ _=>.agg (Zw0 X.T X.e 9 t)
 | _=>ZwJ top (ZvB .bot (Zw0 X.T X.e 9 t) 0)
def ZxZ:AV→AV
 | .agg cs=>.agg (cs.map (ZwJ true))
 | v=>ZwJ true v
def Zvk (X:CoCx) (t:Nat):Nat:=Zwo X.T 9 t
def ZwK (X:CoCx) (t:Nat):Option Nat:=bif Zw1 (X.T t) then some (Zvk X t) else none
def ZvC (X:CoCx) (t:Nat):Nat:=match X.T t with
 | .sl e _=>e
 | .ar _ e=>e
 | _=>0
def ZwL (X:CoCx) (t:Nat):Nat:=match X.T t with
 | .sl _ y=>y
 | _=>0
def Zwp (X:CoCx) (t:Nat):List Nat:=match X.T t with
 | .st fs=>fs
 | _=>[]
def ZwM (X:CoCx) (t i:Nat):Nat:=((Zwp X t).take i).foldr (fun f s=>Zvk X f+s) 0
def ZFJ (e:ByteArray) (k:Nat):List (Nat×ByteArray)→ByteArray
 | []=>e
 | p::r=>bif p.1==k then p.2 else ZFJ e k r
def Zzy (X:CoCx) (h:Nat) (ex:Bool) (t:Nat):Value→AV
 | .bool b=>.bool b
 | .int k n=>.int k n
 | .string s=>.str (match s.data.toList with | []=>X.e | l=>ZFJ X.e (l.foldl (fun n b=>256 * n+b.toNat) 1) X.S)
 | .pointer _=>.nilp
 | .slice _ _ _=>.isl false ex (Zvk X (ZvC X t)) []
 | .map _=>.nilmap
 | .nilFunc=>.nilfn
 | .nilIface=>.nilif
 | .agg _=>ZvK X false t
 | _=>.bot
def Zr1 (X:CoCx) (h:Nat) (ex:Bool) (t:Nat):Operand→Arg
 | .tmp t=>.t t
 | .const v=>.c (Zzy X h ex t v)
 | .func f=>.f f
 | .global g=>.g g
def Zw2 (X:CoCx) (h:Nat) (ex:Bool):List Operand→List Nat→List Arg
 | x::r,t::ts=>Zr1 X h ex t x::Zw2 X h ex r ts
 | x::r,[]=>Zr1 X h ex 0 x::Zw2 X h ex r []
 | [],_=>[]
def Zzz (X:CoCx) (h:Nat) (c:Call):AOp:=
 let ts:=c.argTypes.toList
 let t:=ZvB 0 ts 0
 match c.callee,c.args.toList with
 | .builtin .len,[x]=>.len (match X.T t with | .s=>0 | .sl _ _=>1 | _=>2) (Zr1 X h false t x)
 | .builtin .min,[x,y]=>.mm false (Zr1 X h false t x) (Zr1 X h false t y)
 | .builtin .max,[x,y]=>.mm true (Zr1 X h false t x) (Zr1 X h false t y)
 | .builtin .append,[x,y]=>
  bif h % 16==3 then .apa (Zvk X (ZvC X t)) (ZwL X t) (Zr1 X h true t x) (Zr1 X h false t y) else bif h % 16==2 then .apr (Zvk X (ZvC X t)) (ZwL X t) (Zr1 X h true t x) (Zr1 X h false t y) else .app (h % 16==1) (Zvk X (ZvC X t)) (ZwL X t) (Zr1 X h true t x) (Zr1 X h false t y)
 | .value (.func f),l=>.call (h % 2==0) f (Zw2 X h (h / 2 % 2==1) l ts)
 | .value x,l=>.callv (h % 2==0) (Zr1 X h false 0 x) (Zw2 X h false l ts)
 | _,_=>.bad
def ZzA (X:CoCx) (h:Nat) (ty:Nat):Op→AOp
 | .move x | .assign x=>bif h % 16==1 then .own (Zvk X (ZvC X ty)) else bif h % 16==2 then .rel (Zr1 X h false ty x) else .mv (Zr1 X h false ty x)
 | .pick a b c=>.pick (Zr1 X h false 0 a) (Zr1 X h false ty b) (Zr1 X h false ty c)
 | .alloc t=>bif h % 2==0 then .ibox (Zvk X t) (.c (bif h / 2 % 2==1 then ZxZ (ZvK X true t) else ZvK X true t)) else .box (Zvk X t) (.c (bif h / 2 % 2==1 then ZxZ (ZvK X true t) else ZvK X true t))
 | .box t x=>bif h % 2==0 then .ibox (Zvk X t) (Zr1 X h false t x) else .box (Zvk X t) (Zr1 X h false t x)
 | .build t ps=>match X.T t with
  | .ar _ e=>.build (Zw0 X.T X.e 9 t) (ps.toList.map fun p=>(p.1 * Zvk X e,Zvk X e,Zr1 X h false e p.2))
  | _=>.build (bif h==1 then (Zw0 X.T X.e 9 t).map (ZwJ true) else Zw0 X.T X.e 9 t) (ps.toList.map fun p=>(ZwM X t p.1,Zvk X (ZvB 0 (Zwp X t) p.1),Zr1 X h false (ZvB 0 (Zwp X t) p.1) p.2))
 | .buildSlice t n ps=>.bsl (h % 2==0) (h / 2 % 2==1) (Zvk X (ZvC X t)) (ZvK X false (ZvC X t)) n (ps.toList.map fun p=>(p.1,Zr1 X h false (ZvC X t) p.2))
 | .load t x=>bif h==0 then .load (ZwK X t) (Zr1 X h false 0 x) else .ldr (Zvk X t) h (Zr1 X 0 false 0 x)
 | .store t a x=>.store (Zvk X t) (Zr1 X h false 0 a) (Zr1 X h false t x)
 | .nilCheck x=>.nilck (Zr1 X h false 0 x)
 | .binOp op t x y _=>match op,X.T t with
  | .eql,.i _ | .neq,.i _ | .eql,.s | .neq,.s=>.bin op (Zr1 X h false t x) (Zr1 X h false t y)
  | .eql,.p=>.isn false (Zr1 X h false t x)
  | .neq,.p=>.isn true (Zr1 X h false t x)
  | .eql,k=>.eqv false (Zw1 k) (ZvR X.T 9 t) (Zr1 X h false t x) (Zr1 X h false t y)
  | .neq,k=>.eqv true (Zw1 k) (ZvR X.T 9 t) (Zr1 X h false t x) (Zr1 X h false t y)
  | _,_=>.bin op (Zr1 X h false t x) (Zr1 X h false t y)
 | .unOp op t x=>.un op (Zr1 X h false t x)
 | .convert _ d x=>.conv (match X.T d with | .i k=>some k | _=>none) (Zr1 X h false d x)
 | .field t x i=>.fld (ZwK X (ZvB 0 (Zwp X t) i)) (ZwM X t i) (Zr1 X h false t x)
 | .fieldAddr t x i=>.fadr (ZwM X t i) (Zr1 X h false t x)
 | .indexAddr t x i=>match X.T t with
  | .ar n e=>.aadr (Zvk X e) n (Zr1 X h false 0 x) (Zr1 X h false 0 i)
  | _=>.iadr (Zvk X (ZvC X t)) (Zr1 X h false t x) (Zr1 X h false 0 i)
 | .index t x i=>match X.T t with
  | .ar n e=>.aidx (ZwK X e) (Zvk X e) n (Zr1 X h false t x) (Zr1 X h false 0 i)
  | _=>.sidx (Zr1 X h false 0 x) (Zr1 X h false 0 i)
 | .extract x i=>.ext (Zr1 X h false 0 x) i
 | .makeFunc fn a b=>.mkf fn (Zw2 X h false a.toList []) (Zw2 X h false b.toList [])
 | .makeMap _ _=>.mkm
 | .insert t m k v=>match X.T t with
  | .mp a b=>.ins (Zw1 (X.T a)) (ZvR X.T 9 a) (Zr1 X h false 0 m) (Zr1 X h false a k) (Zr1 X h false b v)
  | _=>.bad
 | .mapUpdate t m k v=>match X.T t with
  | .mp a b=>.mupd (Zw1 (X.T a)) (ZvR X.T 9 a) (Zr1 X h false 0 m) (Zr1 X h false a k) (Zr1 X h false b v)
  | _=>.bad
 | .lookup t m k ok=>match X.T t with
  | .mp a b=>.lkp (Zw1 (X.T a)) (ZvR X.T 9 a) ok (ZvK X (h==1) b) (Zr1 X h false 0 m) (Zr1 X h false a k)
  | _=>.bad
 | .makeSlice t l c=>.mks (Zvk X (ZvC X t)) (ZvK X false (ZvC X t)) (ZwL X t) (Zr1 X h false 0 l) (Zr1 X h false 0 c)
 | .slice t x a b c=>match X.T t with
  | .s=>.ssl (Zr1 X h false t x) (a.map (Zr1 X h false 0)) (b.map (Zr1 X h false 0))
  | _=>.slc (Zvk X (ZvC X t)) (Zr1 X h false t x) (a.map (Zr1 X h false 0)) (b.map (Zr1 X h false 0)) (c.map (Zr1 X h false 0))
 | .range _ x=>.rng (Zr1 X h false 0 x)
 | .next x _=>.nxt (Zr1 X h false 0 x)
 | .makeInterface t x=>.mkif t (Zr1 X h false t x)
 | .call c=>Zzz X h c
 | _=>.bad
def Zwq:Operand→Nat
 | .tmp t=>1 <<< t
 | _=>0
def ZwN (l:List Operand):Nat:=l.foldr (fun x m=>Zwq x ||| m) 0
def ZzB:Op→List Operand
 | .call c=>(match c.callee with | .value f=>[f] | _=>[])++c.args.toList
 | .build _ ps | .buildSlice _ _ ps=>ps.toList.map (·.2)
 | .makeFunc _ a b=>a.toList++b.toList
 | .slice _ x a b c=>x::(a.toList++(b.toList++c.toList))
 | .makeMap _ r=>r.toList
 | .move x | .assign x | .box _ x | .load _ x | .nilCheck x | .unOp _ _ x | .convert _ _ x | .makeInterface _ x | .fieldAddr _ x _ | .field _ x _ | .range _ x | .next x _ | .extract x _=>[x]
 | .pick c a b=>[c,a,b]
 | .store _ a v | .binOp _ _ a v _ | .makeSlice _ a v | .indexAddr _ a v | .index _ a v | .lookup _ a v _=>[a,v]
 | .mapUpdate _ m k v | .insert _ m k v=>[m,k,v]
 | _=>[]
def ZwO (l:List Oper) (j:Nat):Option Nat:=match l with
 | []=>none
 | o::r=>bif j==0 then o.dst else ZwO r (j - 1)
def ZzC (ops:List Oper):Option (Nat×Bool)→Nat
 | some (j,_)=>(match ZwO ops j with | some d=>1 <<< d | none=>0)
 | none=>0
def Zy0 (ops:List Oper) (o:Oper) (m:Nat):Nat:=
 (match o.dst with | some d=>(m ||| (1 <<< d)) ^^^ (1 <<< d) | none=>m) ||| (ZwN (ZzB o.op) ||| ZzC ops o.guard)
def ZvO:List (Nat×Nat)→Nat→Nat
 | [],_=>0
 | p::r,i=>bif p.1==i then p.2 else ZvO r i
def Zy1 (f:Nat→Nat):Nat→Nat→Nat
 | 0,l=>l
 | n+1,l=>(fun m=>bif m==l then l else Zy1 f n m) (l ||| f l)
def ZzD (x:List (Nat×Nat)):Nat:=x.foldr (fun p m=>p.2 ||| m) 0
def ZvD:List (Nat×Nat)→Nat→Code→Nat→Nat
 | _,_,.region _ ops _,out=>ops.toList.foldr (Zy0 ops.toList) out
 | x,rt,.seq a b,out=>ZvD x rt a (ZvD x rt b out)
 | x,rt,.cond c a b,out=>Zwq c ||| (ZvD x rt a out ||| ZvD x rt b out)
 | x,rt,.block id b,out=>ZvD ((id,out)::x) rt b out
 | x,rt,.loop b,_=>Zy1 (fun l=>ZvD x rt b l) 8 0
 | x,rt,.rangeFunc f ps a b,out=>(fun m=>Zwq f ||| (((m ||| ZwN (ps.toList.map .tmp)) ^^^ ZwN (ps.toList.map .tmp)) ||| (out ||| (ZzD x ||| rt)))) (ZvD [] 0 a (ZvD [] 0 b 0))
 | x,_,.exit id,_=>ZvO x id
 | _,rt,.ret,_=>rt
 | _,_,_,out=>out
def Zw3:List (Nat×Nat)→Nat→Code→Nat
 | x,_,.exit i=>ZvO x i
 | _,rt,.ret=>rt
 | x,rt,.seq a b | x,rt,.cond _ a b | x,rt,.rangeFunc _ _ a b=>Zw3 x rt a ||| Zw3 x rt b
 | x,rt,.block id b=>Zw3 ((id,0)::x) rt b
 | x,rt,.loop b=>Zw3 x rt b
 | _,_,_=>0
def Zvs:Code→Nat
 | .seq a b | .cond _ a b=>Zvs a+Zvs b
 | .block _ b=>Zvs b
 | .loop b=>Zvs b+1
 | .rangeFunc _ _ a b=>Zvs a+Zvs b+1
 | _=>0
def ZwP:List Nat→Nat→Nat→List Nat→List Nat
 | [],o,m,acc=>bif m==0 then acc else o::acc
 | k::r,o,m,acc=>bif m==0 then acc else ZwP r o (m ^^^ ((m >>> k) <<< k)) (ZwP r (o+k) (m >>> k) acc)
def Zw9 (m:Nat):List Nat:=ZwP [256,128,64,32,16,8,4,2,1] 0 m []
def ZzE (ops:List Oper):Option (Nat×Bool)→Option (Nat×Bool)
 | some (j,b)=>(match ZwO ops j with | some d=>some (d,b) | none=>none)
 | none=>none
def ZwQ (X:CoCx) (ops:List Oper) (r:Nat):List Oper→Nat→List AOper
 | [],_=>[]
 | o::l,i=>⟨o.dst,ZzA X (ZvO X.H (100 * r+i)) o.type o.op,ZzE ops o.guard⟩::ZwQ X ops r l (i+1)
def Zy2 (ms:List Nat):Nat→Nat
 | 0=>0
 | i+1=>bif ZvB 0 ms i % 2 ^ i==2 ^ i - 1 then Zy2 ms i else i+1
def ZwR (m:Nat) (q:AOp):List AOper→Nat→List Nat
 | [],_=>[]
 | p::l,j=>bif m % 2==1||X3 q&&X3 p.op then ZwR (m / 2) q l (j+1) else j::ZwR (m / 2) q l (j+1)
def Zy3 (ms:List Nat) (p1:List AOper):List AOper→Nat→List (List Nat)
 | [],_=>[]
 | q::l,i=>ZwR (ZvB 0 ms i) q.op (p1.take i) 0::Zy3 ms p1 l (i+1)
def ZzF (ms:List Nat) (qs:List AOper):ACode:=(fun k=>.draw (Zy3 ms (qs.take k) (qs.take k) 0) (qs.take k) (qs.drop k)) (Zy2 ms qs.length)
def ZFK (n:Nat) (l:List (Nat×Nat)):List (Nat×Nat):=bif n==0 then l else (n / 100 - 1,n % 100)::l
def ZzG (X:CoCx) (r:Nat) (ops:List Oper) (out:Nat) (qs:List AOper):ACode:=
 bif ZvO X.H (100 * r+99)==0 then (bif Nat.blt 2 qs.length then .keep (Zw9 out) (.region qs) else .region qs) else
 match qs,ops with
 | [⟨some d,.fadr off p,_⟩,⟨_,.store _ _ (.c (.isl _ _ s _)),_⟩],_=>.nils s d off p
 | [⟨some d,_,_⟩],[o]=>match o.op with
  | .alloc t=>.zbox d (Zvk X t) (ZvK X true t) (ZFK (ZvO X.H (100 * r+99)) (ZFK (ZvO X.H (100 * r+98)) []))
  | _=>.bad
 | _,_=>.bad
def ZvL (X:CoCx):List (Nat×Nat)→Nat→Nat→Code→Nat→ACode×Nat×List ACode
 | _,_,_,.skip,out=>(.skip,out,[])
 | _,_,_,.label _,out=>(.skip,out,[])
 | _,_,_,.region r ops d,out=>
  (bif d then .keep (Zw9 out) (ZzF (YS ops.toList []) (ZwQ X ops.toList r ops.toList 0)) else ZzG X r ops.toList out (ZwQ X ops.toList r ops.toList 0),ops.toList.foldr (Zy0 ops.toList) out,[])
 | x,rt,k,.seq a b,out=>
  match ZvL X x rt (k+Zvs a) b out with
  | (cb,lb,db)=>match ZvL X x rt k a lb with
   | (ca,la,da)=>(.seq ca cb,la,da++db)
 | x,rt,k,.cond c a b,out=>
  match ZvL X x rt k a out,ZvL X x rt (k+Zvs a) b out with
  | (ca,la,da),(cb,lb,db)=>(.cond (Zr1 X 0 false 0 c) ca cb,Zwq c ||| (la ||| lb),da++db)
 | x,rt,k,.block id b,out=>
  match ZvL X ((id,out)::x) rt k b out with
  | (cb,lb,db)=>(.keep (Zw9 (out ||| Zw3 x rt (.block id b))) (.block id cb),lb,db)
 | x,rt,k,.loop b,_=>
  (fun l=>match ZvL X x rt k b l with
   | (cb,_,db)=>(X.N (2 * (k+Zvs b)+1),l,db++[.keep (Zw9 (l ||| Zw3 x rt b)) cb,.loop (Zw9 l) (X.N (2 * (k+Zvs b)))])) (ZvD x rt (.loop b) 0)
 | x,rt,k,.rangeFunc f ps a b,out=>
  match ZvL X [] 0 k a (ZvD [] 0 b 0),ZvL X [] 0 (k+Zvs a) b 0 with
  | (ca,_,da),(cb,_,db)=>(.rangeFunc (Zr1 X 0 false 0 f) ps.toList (X.N (2 * (k+Zvs a+Zvs b))) (X.N (2 * (k+Zvs a+Zvs b)+1)),ZvD x rt (.rangeFunc f ps a b) out,da++(db++[ca,cb]))
 | x,_,_,.exit id,_=>(.exit id,ZvO x id,[])
 | _,rt,_,.ret,_=>(.ret,rt,[])
 | _,_,_,_,out=>(.bad,out,[])
def Zy4 (f:Func):Nat:=f.results.toList.foldr (fun r m=>(match r with | .tmp t=>1 <<< t | .cell t _=>1 <<< t) ||| m) 0
def ZzH (X:CoCx) (f:Func):List ACode:=
 match f.body with
 | some c=>match ZvL X [] (Zy4 f) 0 c (Zy4 f) with
  | (q,_,ds)=>ds++[q]
 | none=>[]
abbrev CoV {α:Type} (a:α):={c:α // a=c}
def coY (X:(Nat→ACode)→List ACode) (l:List ACode) (n:Nat):ACode:=ZvB .bad (X (ZvB .bad l)) n
def Zr2:ACode→List Nat→ACode
 | c,[]=>c
 | .seq a b,i::r=>bif i==0 then Zr2 a r else Zr2 b r
 | .cond _ a b,i::r=>bif i==0 then Zr2 a r else Zr2 b r
 | .block _ a,_::r=>Zr2 a r
 | .keep _ a,_::r=>Zr2 a r
 | .loop _ a,_::r=>Zr2 a r
 | c,_=>c
def Zvt (t:Nat):List (Nat×CoTy)→CoTy
 | []=>.i .i64
 | p::r=>bif p.1==t then p.2 else Zvt t r
end Go.AM
set_option maxRecDepth 100000
namespace Go.AM
open Go Go.Proofs.Tryz
def coT (t:Nat):CoTy:=bif Nat.blt t 26 then Zvt t [(4,.b),(5,.i .u8),(9,.s),(21,.i .i32),(22,.sl 71 88),(23,.sl 76 80),(24,.sl 78 56),(25,.sl 39 184)] else bif Nat.blt t 42 then Zvt t [(26,.sl 68 72),(27,.sl 114 16),(29,.st [22,23,24,25,26,27,27]),(34,.st [3,9,3,3]),(36,.st [3,3]),(37,.sl 9 16),(39,.st [9,9,9,3,34,36,3,3,37,3,3,9]),(40,.sl 48 32)] else bif Nat.blt t 60 then Zvt t [(42,.st [37,40]),(44,.o),(48,.st [9,3,3]),(51,.o),(55,.sl 122 40),(56,.sl 36 16),(57,.sl 64 72),(59,.st [3,3,3,3,3,9,9,9,37,55,34,36,56,57])] else bif Nat.blt t 85 then Zvt t [(60,.f),(61,.o),(64,.st [9,34,36]),(68,.st [9,9,9,3,3,3]),(71,.st [9,3,3,56,55,3]),(76,.st [9,3,56,55,3]),(78,.st [9,3,56,3]),(84,.f)] else bif Nat.blt t 100 then Zvt t [(85,.f),(87,.st [29,85]),(90,.f),(92,.f),(94,.f),(95,.mp 9 37),(97,.f),(99,.p)] else bif Nat.blt t 114 then Zvt t [(100,.ar 16 97),(102,.st [29,3,59,37]),(104,.f),(106,.sl 59 240),(107,.mp 3 4),(110,.mp 112 4),(112,.st [9,34]),(113,.sl 27 24)] else bif Nat.blt t 130 then Zvt t [(114,.ar 2 3),(116,.mp 9 4),(118,.f),(120,.f),(122,.st [9,3,9]),(124,.ar 16 60),(126,.f),(129,.p)] else bif Nat.blt t 148 then Zvt t [(130,.f),(133,.p),(134,.f),(138,.f),(141,.p),(142,.f),(144,.sl 3 8),(147,.p)] else bif Nat.blt t 174 then Zvt t [(148,.f),(151,.p),(152,.f),(155,.f),(157,.f),(162,.f),(165,.f),(169,.f)] else bif Nat.blt t 230 then Zvt t [(174,.f),(201,.sl 205 40),(202,.o),(205,.st [3,3,3,9]),(206,.sl 36 16),(212,.f),(214,.sl 34 40),(227,.ar 256 3)] else bif Nat.blt t 255 then Zvt t [(230,.st [9,227]),(232,.o),(236,.f),(241,.mp 122 4),(244,.st [3,3]),(245,.ar 28 244),(248,.mp 34 4),(254,.f)] else Zvt t [(255,.p),(259,.j),(260,.o),(262,.f),(264,.st [36,36]),(266,.st [3,3]),(268,.st [264,266]),(270,.f)]
abbrev CoX (e:ByteArray) (S:List (Nat×ByteArray)) (H:List (Nat×Nat)) (f:Func) (N:Nat→ACode):List ACode:=ZzH ⟨coT,e,S,H,N⟩ f
abbrev CoW (H:List (Nat×Nat)) (f:Func) (e:ByteArray):ACode:=coY (CoX e [] H f) [] 0
abbrev CoU (X:ByteArray→(Nat→ACode)→List ACode) (e:ByteArray) (l:List ACode) (n:Nat):ACode:=coY (X e) l n
def ZDu (e) (N):=(⟨_,by cbv⟩:CoV (CoX e [] [(407,1),(806,1),(906,1),(1203,1),(1804,1),(1900,1),(3010,2)] f6 N)).1
def c6L0b:=(fun e=>(⟨_,by cbv⟩:CoV (CoU ZDu e [] 0)).1) emp
def c6L0:=(fun e a=>(⟨_,by cbv⟩:CoV (CoU ZDu e [a] 1)).1) emp c6L0b
def c6L1b:=(fun e a b=>(⟨_,by cbv⟩:CoV (CoU ZDu e [a,b] 2)).1) emp c6L0b c6L0
def c6L1:=(fun e a b c=>(⟨_,by cbv⟩:CoV (CoU ZDu e [a,b,c] 3)).1) emp c6L0b c6L0 c6L1b
def c6:=(fun e a b c d=>(⟨_,by cbv⟩:CoV (CoU ZDu e [a,b,c,d] 4)).1) emp c6L0b c6L0 c6L1b c6L1
def c9:=(fun e s0 s1 s2 s3 s4=>(⟨_,by cbv⟩:CoV (coY (CoX e [(91441,s0),(91445,s1),(91442,s2),(91449,s3),(91444,s4)] [(101,1),(205,1),(305,1),(405,1),(505,1),(925,2),(1006,2),(1015,2)] f9) [] 0)).1) emp (B [101,49]) (B [101,53]) (B [101,50]) (B [101,57]) (B [101,52])
def c10:=(fun e=>(⟨_,by cbv⟩:CoV (CoW [] f10 e)).1) emp
def X11 (e) (N):=(⟨_,by cbv⟩:CoV (CoX e [] [(302,1),(902,1),(1502,1),(2103,1),(2702,1)] f11 N)).1
def c11L0b:=(fun e=>(⟨_,by cbv⟩:CoV (CoU X11 e [] 0)).1) emp
def c11L0:=(fun e a=>(⟨_,by cbv⟩:CoV (CoU X11 e [a] 1)).1) emp c11L0b
def c11L1b:=(fun e a b=>(⟨_,by cbv⟩:CoV (CoU X11 e [a,b] 2)).1) emp c11L0b c11L0
def c11L1:=(fun e a b c=>(⟨_,by cbv⟩:CoV (CoU X11 e [a,b,c] 3)).1) emp c11L0b c11L0 c11L1b
def c11L2b:=(fun e a b c d=>(⟨_,by cbv⟩:CoV (CoU X11 e [a,b,c,d] 4)).1) emp c11L0b c11L0 c11L1b c11L1
def c11L2:=(fun e a b c d g=>(⟨_,by cbv⟩:CoV (CoU X11 e [a,b,c,d,g] 5)).1) emp c11L0b c11L0 c11L1b c11L1 c11L2b
def c11L3b:=(fun e a b c d g h=>(⟨_,by cbv⟩:CoV (CoU X11 e [a,b,c,d,g,h] 6)).1) emp c11L0b c11L0 c11L1b c11L1 c11L2b c11L2
def c11L3:=(fun e a b c d g h i=>(⟨_,by cbv⟩:CoV (CoU X11 e [a,b,c,d,g,h,i] 7)).1) emp c11L0b c11L0 c11L1b c11L1 c11L2b c11L2 c11L3b
def c11L4b:=(fun e a b c d g h i j=>(⟨_,by cbv⟩:CoV (CoU X11 e [a,b,c,d,g,h,i,j] 8)).1) emp c11L0b c11L0 c11L1b c11L1 c11L2b c11L2 c11L3b c11L3
def c11L4:=(fun e a b c d g h i j k=>(⟨_,by cbv⟩:CoV (CoU X11 e [a,b,c,d,g,h,i,j,k] 9)).1) emp c11L0b c11L0 c11L1b c11L1 c11L2b c11L2 c11L3b c11L3 c11L4b
def c11:=(fun e a b c d g h i j k l=>(⟨_,by cbv⟩:CoV (CoU X11 e [a,b,c,d,g,h,i,j,k,l] 10)).1) emp c11L0b c11L0 c11L1b c11L1 c11L2b c11L2 c11L3b c11L3 c11L4b c11L4
def X12 (e) (N):=(⟨_,by cbv⟩:CoV (CoX e [] [(1,1),(499,101),(498,203),(400,1),(503,1),(600,1),(1102,1),(1105,1)] f12 N)).1
def c12R0a:=(fun e=>(⟨_,by cbv⟩:CoV (CoU X12 e [] 0)).1) emp
def c12R0b:=(fun e a=>(⟨_,by cbv⟩:CoV (CoU X12 e [a] 1)).1) emp c12R0a
def c12:=(fun e a b=>(⟨_,by cbv⟩:CoV (CoU X12 e [a,b] 2)).1) emp c12R0a c12R0b
def X13 (e) (N):=(⟨_,by cbv⟩:CoV (CoX e [] [] f13 N)).1
def c13L0b:=(fun e=>(⟨_,by cbv⟩:CoV (CoU X13 e [] 0)).1) emp
def c13L0:=(fun e a=>(⟨_,by cbv⟩:CoV (CoU X13 e [a] 1)).1) emp c13L0b
def c13:=(fun e a b=>(⟨_,by cbv⟩:CoV (CoU X13 e [a,b] 2)).1) emp c13L0b c13L0
def X14 (e) (N):=(⟨_,by cbv⟩:CoV (CoX e [] [] f14 N)).1
def c14L0b:=(fun e=>(⟨_,by cbv⟩:CoV (CoU X14 e [] 0)).1) emp
def c14L0:=(fun e a=>(⟨_,by cbv⟩:CoV (CoU X14 e [a] 1)).1) emp c14L0b
def c14L1b:=(fun e a b=>(⟨_,by cbv⟩:CoV (CoU X14 e [a,b] 2)).1) emp c14L0b c14L0
def c14L1:=(fun e a b c=>(⟨_,by cbv⟩:CoV (CoU X14 e [a,b,c] 3)).1) emp c14L0b c14L0 c14L1b
def c14:=(fun e a b c d=>(⟨_,by cbv⟩:CoV (CoU X14 e [a,b,c,d] 4)).1) emp c14L0b c14L0 c14L1b c14L1
def c15:=(fun e=>(⟨_,by cbv⟩:CoV (CoW [] f15 e)).1) emp
def X16 (e) (N):=(⟨_,by cbv⟩:CoV (CoX e [] [(401,1),(702,1),(1104,1),(1499,101),(1400,1),(1504,1),(1600,1),(1901,1)] f16 N)).1
def c16L0b:=(fun e=>(⟨_,by cbv⟩:CoV (CoU X16 e [] 0)).1) emp
def c16L0:=(fun e a=>(⟨_,by cbv⟩:CoV (CoU X16 e [a] 1)).1) emp c16L0b
def c16L1b:=(fun e a b=>(⟨_,by cbv⟩:CoV (CoU X16 e [a,b] 2)).1) emp c16L0b c16L0
def c16L1:=(fun e a b c=>(⟨_,by cbv⟩:CoV (CoU X16 e [a,b,c] 3)).1) emp c16L0b c16L0 c16L1b
def c16R2a:=(fun e a b c d=>(⟨_,by cbv⟩:CoV (CoU X16 e [a,b,c,d] 4)).1) emp c16L0b c16L0 c16L1b c16L1
def c16R2b:=(fun e a b c d g=>(⟨_,by cbv⟩:CoV (CoU X16 e [a,b,c,d,g] 5)).1) emp c16L0b c16L0 c16L1b c16L1 c16R2a
def c16:=(fun e a b c d g h=>(⟨_,by cbv⟩:CoV (CoU X16 e [a,b,c,d,g,h] 6)).1) emp c16L0b c16L0 c16L1b c16L1 c16R2a c16R2b
def X17 (e) (N):=(⟨_,by cbv⟩:CoV (CoX e [] [] f17 N)).1
def c17L0b:=(fun e=>(⟨_,by cbv⟩:CoV (CoU X17 e [] 0)).1) emp
def c17L0:=(fun e a=>(⟨_,by cbv⟩:CoV (CoU X17 e [a] 1)).1) emp c17L0b
def c17:=(fun e a b=>(⟨_,by cbv⟩:CoV (CoU X17 e [a,b] 2)).1) emp c17L0b c17L0
def X18 (e) (N):=(⟨_,by cbv⟩:CoV (CoX e [] [] f18 N)).1
def c18L0b:=(fun e=>(⟨_,by cbv⟩:CoV (CoU X18 e [] 0)).1) emp
def c18L0:=(fun e a=>(⟨_,by cbv⟩:CoV (CoU X18 e [a] 1)).1) emp c18L0b
def c18:=(fun e a b=>(⟨_,by cbv⟩:CoV (CoU X18 e [a,b] 2)).1) emp c18L0b c18L0
def X19 (e) (N):=(⟨_,by cbv⟩:CoV (CoX e [] [] f19 N)).1
def c19L0b:=(fun e=>(⟨_,by cbv⟩:CoV (CoU X19 e [] 0)).1) emp
def c19L0:=(fun e a=>(⟨_,by cbv⟩:CoV (CoU X19 e [a] 1)).1) emp c19L0b
def c19:=(fun e a b=>(⟨_,by cbv⟩:CoV (CoU X19 e [a,b] 2)).1) emp c19L0b c19L0
def X20 (e) (N):=(⟨_,by cbv⟩:CoV (CoX e [] [(2,1),(301,1),(406,1),(505,1)] f20 N)).1
def s20p0:=(fun e=>(⟨_,by cbv⟩:CoV (Zr2 (CoU X20 e [] 0) [0])).1) emp
def s20p1:=(fun e=>(⟨_,by cbv⟩:CoV (Zr2 (CoU X20 e [] 0) [1,0])).1) emp
def s20p2:=(fun e=>(⟨_,by cbv⟩:CoV (Zr2 (CoU X20 e [] 0) [1,1,0])).1) emp
def s20p3:=(fun e=>(⟨_,by cbv⟩:CoV (Zr2 (CoU X20 e [] 0) [1,1,1,0])).1) emp
def s20p4:=(fun e=>(⟨_,by cbv⟩:CoV (Zr2 (CoU X20 e [] 0) [1,1,1,1,0])).1) emp
def s20p5:=(fun e=>(⟨_,by cbv⟩:CoV (Zr2 (CoU X20 e [] 0) [1,1,1,1,1,0])).1) emp
def s20p6:=(fun e=>(⟨_,by cbv⟩:CoV (Zr2 (CoU X20 e [] 0) [1,1,1,1,1,1,0])).1) emp
def c20:ACode:=.seq s20p0 (.seq s20p1 (.seq s20p2 (.seq s20p3 (.seq s20p4 (.seq s20p5 (.seq s20p6 .ret))))))
def X21 (e) (N):=(⟨_,by cbv⟩:CoV (CoX e [] [] f21 N)).1
def c21L0b:=(fun e=>(⟨_,by cbv⟩:CoV (CoU X21 e [] 0)).1) emp
def c21L0:=(fun e a=>(⟨_,by cbv⟩:CoV (CoU X21 e [a] 1)).1) emp c21L0b
def c21:=(fun e a b=>(⟨_,by cbv⟩:CoV (CoU X21 e [a,b] 2)).1) emp c21L0b c21L0
def X23 (e) (s0) (s1) (s2) (s3) (s4) (s5) (s6) (N):=(⟨_,by cbv⟩:CoV (CoX e [(95025,s0),(90673,s1),(91441,s2),(91445,s3),(91442,s4),(91443,s5),(91444,s6)] [(0,1),(101,1),(609,1)] f23 N)).1
def c23L0b:=(fun e s0 s1 s2 s3 s4 s5 s6=>(⟨_,by cbv⟩:CoV (coY (X23 e s0 s1 s2 s3 s4 s5 s6) [] 0)).1) emp (B [115,49]) (B [98,49]) (B [101,49]) (B [101,53]) (B [101,50]) (B [101,51]) (B [101,52])
def c23L0:=(fun e s0 s1 s2 s3 s4 s5 s6 a=>(⟨_,by cbv⟩:CoV (coY (X23 e s0 s1 s2 s3 s4 s5 s6) [a] 1)).1) emp (B [115,49]) (B [98,49]) (B [101,49]) (B [101,53]) (B [101,50]) (B [101,51]) (B [101,52]) c23L0b
def c23:=(fun e s0 s1 s2 s3 s4 s5 s6 a b=>(⟨_,by cbv⟩:CoV (coY (X23 e s0 s1 s2 s3 s4 s5 s6) [a,b] 2)).1) emp (B [115,49]) (B [98,49]) (B [101,49]) (B [101,53]) (B [101,50]) (B [101,51]) (B [101,52]) c23L0b c23L0
def X24 (e) (N):=(⟨_,by cbv⟩:CoV (CoX e [] [(2105,1)] f24 N)).1
def c24L0b:=(fun e=>(⟨_,by cbv⟩:CoV (CoU X24 e [] 0)).1) emp
def c24L0:=(fun e a=>(⟨_,by cbv⟩:CoV (CoU X24 e [a] 1)).1) emp c24L0b
def c24L1b:=(fun e a b=>(⟨_,by cbv⟩:CoV (CoU X24 e [a,b] 2)).1) emp c24L0b c24L0
def c24L1:=(fun e a b c=>(⟨_,by cbv⟩:CoV (CoU X24 e [a,b,c] 3)).1) emp c24L0b c24L0 c24L1b
def c24L2b:=(fun e a b c d=>(⟨_,by cbv⟩:CoV (CoU X24 e [a,b,c,d] 4)).1) emp c24L0b c24L0 c24L1b c24L1
def c24L2:=(fun e a b c d g=>(⟨_,by cbv⟩:CoV (CoU X24 e [a,b,c,d,g] 5)).1) emp c24L0b c24L0 c24L1b c24L1 c24L2b
def c24L3b:=(fun e a b c d g h=>(⟨_,by cbv⟩:CoV (CoU X24 e [a,b,c,d,g,h] 6)).1) emp c24L0b c24L0 c24L1b c24L1 c24L2b c24L2
def c24L3:=(fun e a b c d g h i=>(⟨_,by cbv⟩:CoV (CoU X24 e [a,b,c,d,g,h,i] 7)).1) emp c24L0b c24L0 c24L1b c24L1 c24L2b c24L2 c24L3b
def c24L4b:=(fun e a b c d g h i j=>(⟨_,by cbv⟩:CoV (CoU X24 e [a,b,c,d,g,h,i,j] 8)).1) emp c24L0b c24L0 c24L1b c24L1 c24L2b c24L2 c24L3b c24L3
def c24L4:=(fun e a b c d g h i j k=>(⟨_,by cbv⟩:CoV (CoU X24 e [a,b,c,d,g,h,i,j,k] 9)).1) emp c24L0b c24L0 c24L1b c24L1 c24L2b c24L2 c24L3b c24L3 c24L4b
def c24:=(fun e a b c d g h i j k l=>(⟨_,by cbv⟩:CoV (CoU X24 e [a,b,c,d,g,h,i,j,k,l] 10)).1) emp c24L0b c24L0 c24L1b c24L1 c24L2b c24L2 c24L3b c24L3 c24L4b c24L4
def c25:=(fun e=>(⟨_,by cbv⟩:CoV (CoW [] f25 e)).1) emp
def c26:=(fun e s0=>(⟨_,by cbv⟩:CoV (coY (CoX e [(376,s0)] [(104,2)] f26) [] 0)).1) emp (B [120])
def c27:=(fun e=>(⟨_,by cbv⟩:CoV (CoW [(0,1)] f27 e)).1) emp
def X28 (e) (N):=(⟨_,by cbv⟩:CoV (CoX e [] [(105,1)] f28 N)).1
def c28L0b:=(fun e=>(⟨_,by cbv⟩:CoV (CoU X28 e [] 0)).1) emp
def c28L0:=(fun e a=>(⟨_,by cbv⟩:CoV (CoU X28 e [a] 1)).1) emp c28L0b
def s28p0:=(fun e a b=>(⟨_,by cbv⟩:CoV (Zr2 (CoU X28 e [a,b] 2) [0])).1) emp c28L0b c28L0
def s28p1:=(fun e a b=>(⟨_,by cbv⟩:CoV (Zr2 (CoU X28 e [a,b] 2) [1,0])).1) emp c28L0b c28L0
def s28p2:=(fun e a b=>(⟨_,by cbv⟩:CoV (Zr2 (CoU X28 e [a,b] 2) [1,1,0])).1) emp c28L0b c28L0
def s28p3:=(fun e a b=>(⟨_,by cbv⟩:CoV (Zr2 (CoU X28 e [a,b] 2) [1,1,1,0])).1) emp c28L0b c28L0
def s28p4:=(fun e a b=>(⟨_,by cbv⟩:CoV (Zr2 (CoU X28 e [a,b] 2) [1,1,1,1,0])).1) emp c28L0b c28L0
def s28p5:=(fun e a b=>(⟨_,by cbv⟩:CoV (Zr2 (CoU X28 e [a,b] 2) [1,1,1,1,1,0])).1) emp c28L0b c28L0
def s28p6:=(fun e a b=>(⟨_,by cbv⟩:CoV (Zr2 (CoU X28 e [a,b] 2) [1,1,1,1,1,1,0])).1) emp c28L0b c28L0
def s28p7:=(fun e a b=>(⟨_,by cbv⟩:CoV (Zr2 (CoU X28 e [a,b] 2) [1,1,1,1,1,1,1,0])).1) emp c28L0b c28L0
def s28p8:=(fun e a b=>(⟨_,by cbv⟩:CoV (Zr2 (CoU X28 e [a,b] 2) [1,1,1,1,1,1,1,1,0])).1) emp c28L0b c28L0
def s28p9:=(fun e a b=>(⟨_,by cbv⟩:CoV (Zr2 (CoU X28 e [a,b] 2) [1,1,1,1,1,1,1,1,1,0])).1) emp c28L0b c28L0
def s28p10:=(fun e a b=>(⟨_,by cbv⟩:CoV (Zr2 (CoU X28 e [a,b] 2) [1,1,1,1,1,1,1,1,1,1,0])).1) emp c28L0b c28L0
def c28:ACode:=.seq s28p0 (.seq s28p1 (.seq s28p2 (.seq s28p3 (.seq s28p4 (.seq s28p5 (.seq s28p6 (.seq s28p7 (.seq s28p8 (.seq s28p9 (.seq s28p10 .ret))))))))))
def c29:=(fun e=>(⟨_,by cbv⟩:CoV (CoW [(100,2),(101,1),(301,1),(401,1)] f29 e)).1) emp
def X30 (e) (N):=(⟨_,by cbv⟩:CoV (CoX e [] [(100,1),(402,1),(902,1),(1402,1),(1902,1),(2402,1)] f30 N)).1
def c30L0b:=(fun e=>(⟨_,by cbv⟩:CoV (CoU X30 e [] 0)).1) emp
def c30L0:=(fun e a=>(⟨_,by cbv⟩:CoV (CoU X30 e [a] 1)).1) emp c30L0b
def c30L1b:=(fun e a b=>(⟨_,by cbv⟩:CoV (CoU X30 e [a,b] 2)).1) emp c30L0b c30L0
def c30L1:=(fun e a b c=>(⟨_,by cbv⟩:CoV (CoU X30 e [a,b,c] 3)).1) emp c30L0b c30L0 c30L1b
def c30L2b:=(fun e a b c d=>(⟨_,by cbv⟩:CoV (CoU X30 e [a,b,c,d] 4)).1) emp c30L0b c30L0 c30L1b c30L1
def c30L2:=(fun e a b c d g=>(⟨_,by cbv⟩:CoV (CoU X30 e [a,b,c,d,g] 5)).1) emp c30L0b c30L0 c30L1b c30L1 c30L2b
def c30L3b:=(fun e a b c d g h=>(⟨_,by cbv⟩:CoV (CoU X30 e [a,b,c,d,g,h] 6)).1) emp c30L0b c30L0 c30L1b c30L1 c30L2b c30L2
def c30L3:=(fun e a b c d g h i=>(⟨_,by cbv⟩:CoV (CoU X30 e [a,b,c,d,g,h,i] 7)).1) emp c30L0b c30L0 c30L1b c30L1 c30L2b c30L2 c30L3b
def c30L4b:=(fun e a b c d g h i j=>(⟨_,by cbv⟩:CoV (CoU X30 e [a,b,c,d,g,h,i,j] 8)).1) emp c30L0b c30L0 c30L1b c30L1 c30L2b c30L2 c30L3b c30L3
def c30L4:=(fun e a b c d g h i j k=>(⟨_,by cbv⟩:CoV (CoU X30 e [a,b,c,d,g,h,i,j,k] 9)).1) emp c30L0b c30L0 c30L1b c30L1 c30L2b c30L2 c30L3b c30L3 c30L4b
def c30:=(fun e a b c d g h i j k l=>(⟨_,by cbv⟩:CoV (CoU X30 e [a,b,c,d,g,h,i,j,k,l] 10)).1) emp c30L0b c30L0 c30L1b c30L1 c30L2b c30L2 c30L3b c30L3 c30L4b c30L4
def X31 (e) (N):=(⟨_,by cbv⟩:CoV (CoX e [] [(402,1),(505,1)] f31 N)).1
def c31L0b:=(fun e=>(⟨_,by cbv⟩:CoV (CoU X31 e [] 0)).1) emp
def c31L0:=(fun e a=>(⟨_,by cbv⟩:CoV (CoU X31 e [a] 1)).1) emp c31L0b
def c31:=(fun e a b=>(⟨_,by cbv⟩:CoV (CoU X31 e [a,b] 2)).1) emp c31L0b c31L0
def X32 (e) (N):=(⟨_,by cbv⟩:CoV (CoX e [] [(702,1),(1502,1)] f32 N)).1
def c32L0b:=(fun e=>(⟨_,by cbv⟩:CoV (CoU X32 e [] 0)).1) emp
def c32L0:=(fun e a=>(⟨_,by cbv⟩:CoV (CoU X32 e [a] 1)).1) emp c32L0b
def c32L1b:=(fun e a b=>(⟨_,by cbv⟩:CoV (CoU X32 e [a,b] 2)).1) emp c32L0b c32L0
def c32L1:=(fun e a b c=>(⟨_,by cbv⟩:CoV (CoU X32 e [a,b,c] 3)).1) emp c32L0b c32L0 c32L1b
def c32L2b:=(fun e a b c d=>(⟨_,by cbv⟩:CoV (CoU X32 e [a,b,c,d] 4)).1) emp c32L0b c32L0 c32L1b c32L1
def c32L2:=(fun e a b c d g=>(⟨_,by cbv⟩:CoV (CoU X32 e [a,b,c,d,g] 5)).1) emp c32L0b c32L0 c32L1b c32L1 c32L2b
def c32L3b:=(fun e a b c d g h=>(⟨_,by cbv⟩:CoV (CoU X32 e [a,b,c,d,g,h] 6)).1) emp c32L0b c32L0 c32L1b c32L1 c32L2b c32L2
def c32L3:=(fun e a b c d g h i=>(⟨_,by cbv⟩:CoV (CoU X32 e [a,b,c,d,g,h,i] 7)).1) emp c32L0b c32L0 c32L1b c32L1 c32L2b c32L2 c32L3b
def c32:=(fun e a b c d g h i j=>(⟨_,by cbv⟩:CoV (CoU X32 e [a,b,c,d,g,h,i,j] 8)).1) emp c32L0b c32L0 c32L1b c32L1 c32L2b c32L2 c32L3b c32L3
def c33:=(fun e=>(⟨_,by cbv⟩:CoV (CoW [] f33 e)).1) emp
def c34:=(fun e=>(⟨_,by cbv⟩:CoV (CoW [] f34 e)).1) emp
def c35:=(fun e=>(⟨_,by cbv⟩:CoV (CoW [] f35 e)).1) emp
def c36:=(fun e=>(⟨_,by cbv⟩:CoV (CoW [(102,1)] f36 e)).1) emp
def c37:=(fun e=>(⟨_,by cbv⟩:CoV (CoW [] f37 e)).1) emp
def c38:=(fun e=>(⟨_,by cbv⟩:CoV (CoW [(102,1)] f38 e)).1) emp
def c39:=(fun e=>(⟨_,by cbv⟩:CoV (CoW [] f39 e)).1) emp
def c40:=(fun e=>(⟨_,by cbv⟩:CoV (CoW [(100,2)] f40 e)).1) emp
def c41:=(fun e=>(⟨_,by cbv⟩:CoV (CoW [] f41 e)).1) emp
def c42:=(fun e=>(⟨_,by cbv⟩:CoV (CoW [] f42 e)).1) emp
def X43 (e) (N):=(⟨_,by cbv⟩:CoV (CoX e [] [] f43 N)).1
def c43L0b:=(fun e=>(⟨_,by cbv⟩:CoV (CoU X43 e [] 0)).1) emp
def c43L0:=(fun e a=>(⟨_,by cbv⟩:CoV (CoU X43 e [a] 1)).1) emp c43L0b
def c43:=(fun e a b=>(⟨_,by cbv⟩:CoV (CoU X43 e [a,b] 2)).1) emp c43L0b c43L0
def X44 (e) (N):=(⟨_,by cbv⟩:CoV (CoX e [] [] f44 N)).1
def c44L0b:=(fun e=>(⟨_,by cbv⟩:CoV (CoU X44 e [] 0)).1) emp
def c44L0:=(fun e a=>(⟨_,by cbv⟩:CoV (CoU X44 e [a] 1)).1) emp c44L0b
def c44:=(fun e a b=>(⟨_,by cbv⟩:CoV (CoU X44 e [a,b] 2)).1) emp c44L0b c44L0
def c45:=(fun e=>(⟨_,by cbv⟩:CoV (CoW [(302,1)] f45 e)).1) emp
def c46:=(fun e=>(⟨_,by cbv⟩:CoV (CoW [(528,1)] f46 e)).1) emp
def c47:=(fun e=>(⟨_,by cbv⟩:CoV (CoW [(323,1)] f47 e)).1) emp
def c48:=(fun e=>(⟨_,by cbv⟩:CoV (CoW [] f48 e)).1) emp
def c49:=(fun e=>(⟨_,by cbv⟩:CoV (CoW [(618,1),(619,1)] f49 e)).1) emp
def c50:=(fun e=>(⟨_,by cbv⟩:CoV (CoW [(323,1)] f50 e)).1) emp
def c51:=(fun e=>(⟨_,by cbv⟩:CoV (CoW [(827,1)] f51 e)).1) emp
def c52:=(fun e=>(⟨_,by cbv⟩:CoV (CoW [(829,1)] f52 e)).1) emp
def X53 (e) (N):=(⟨_,by cbv⟩:CoV (CoX e [] [(1002,1)] f53 N)).1
def c53L0b:=(fun e=>(⟨_,by cbv⟩:CoV (CoU X53 e [] 0)).1) emp
def c53L0:=(fun e a=>(⟨_,by cbv⟩:CoV (CoU X53 e [a] 1)).1) emp c53L0b
def c53:=(fun e a b=>(⟨_,by cbv⟩:CoV (CoU X53 e [a,b] 2)).1) emp c53L0b c53L0
def X54 (e) (N):=(⟨_,by cbv⟩:CoV (CoX e [] [(100,1),(402,1),(1408,1),(1702,1),(1812,1),(2002,2),(2003,1)] f54 N)).1
def c54L0b:=(fun e=>(⟨_,by cbv⟩:CoV (CoU X54 e [] 0)).1) emp
def c54L0:=(fun e a=>(⟨_,by cbv⟩:CoV (CoU X54 e [a] 1)).1) emp c54L0b
def c54L1b:=(fun e a b=>(⟨_,by cbv⟩:CoV (CoU X54 e [a,b] 2)).1) emp c54L0b c54L0
def c54L1:=(fun e a b c=>(⟨_,by cbv⟩:CoV (CoU X54 e [a,b,c] 3)).1) emp c54L0b c54L0 c54L1b
def c54:=(fun e a b c d=>(⟨_,by cbv⟩:CoV (CoU X54 e [a,b,c,d] 4)).1) emp c54L0b c54L0 c54L1b c54L1
def X55 (e) (N):=(⟨_,by cbv⟩:CoV (CoX e [] [(300,1),(1110,1),(1508,1),(1921,1),(2308,1)] f55 N)).1
def c55L0b:=(fun e=>(⟨_,by cbv⟩:CoV (CoU X55 e [] 0)).1) emp
def c55L0:=(fun e a=>(⟨_,by cbv⟩:CoV (CoU X55 e [a] 1)).1) emp c55L0b
def c55L1b:=(fun e a b=>(⟨_,by cbv⟩:CoV (CoU X55 e [a,b] 2)).1) emp c55L0b c55L0
def c55L1:=(fun e a b c=>(⟨_,by cbv⟩:CoV (CoU X55 e [a,b,c] 3)).1) emp c55L0b c55L0 c55L1b
def c55L2b:=(fun e a b c d=>(⟨_,by cbv⟩:CoV (CoU X55 e [a,b,c,d] 4)).1) emp c55L0b c55L0 c55L1b c55L1
def c55L2:=(fun e a b c d g=>(⟨_,by cbv⟩:CoV (CoU X55 e [a,b,c,d,g] 5)).1) emp c55L0b c55L0 c55L1b c55L1 c55L2b
def c55:=(fun e a b c d g h=>(⟨_,by cbv⟩:CoV (CoU X55 e [a,b,c,d,g,h] 6)).1) emp c55L0b c55L0 c55L1b c55L1 c55L2b c55L2
def X56 (e) (N):=(⟨_,by cbv⟩:CoV (CoX e [] [(903,1),(1102,1)] f56 N)).1
def c56L0b:=(fun e=>(⟨_,by cbv⟩:CoV (CoU X56 e [] 0)).1) emp
def c56L0:=(fun e a=>(⟨_,by cbv⟩:CoV (CoU X56 e [a] 1)).1) emp c56L0b
def c56:=(fun e a b=>(⟨_,by cbv⟩:CoV (CoU X56 e [a,b] 2)).1) emp c56L0b c56L0
def X57 (e) (N):=(⟨_,by cbv⟩:CoV (CoX e [] [(105,1),(1402,1)] f57 N)).1
def s57p0:=(fun e=>(⟨_,by cbv⟩:CoV (Zr2 (CoU X57 e [] 0) [0])).1) emp
def s57p1:=(fun e=>(⟨_,by cbv⟩:CoV (Zr2 (CoU X57 e [] 0) [1,0])).1) emp
def s57p2:=(fun e=>(⟨_,by cbv⟩:CoV (Zr2 (CoU X57 e [] 0) [1,1,0])).1) emp
def s57p3:=(fun e=>(⟨_,by cbv⟩:CoV (Zr2 (CoU X57 e [] 0) [1,1,1,0])).1) emp
def s57p4:=(fun e=>(⟨_,by cbv⟩:CoV (Zr2 (CoU X57 e [] 0) [1,1,1,1,0])).1) emp
def s57p5:=(fun e=>(⟨_,by cbv⟩:CoV (Zr2 (CoU X57 e [] 0) [1,1,1,1,1,0])).1) emp
def s57p6:=(fun e=>(⟨_,by cbv⟩:CoV (Zr2 (CoU X57 e [] 0) [1,1,1,1,1,1,0])).1) emp
def s57p7:=(fun e=>(⟨_,by cbv⟩:CoV (Zr2 (CoU X57 e [] 0) [1,1,1,1,1,1,1,0])).1) emp
def c57:ACode:=.seq s57p0 (.seq s57p1 (.seq s57p2 (.seq s57p3 (.seq s57p4 (.seq s57p5 (.seq s57p6 (.seq s57p7 .ret)))))))
def X58 (e) (N):=(⟨_,by cbv⟩:CoV (CoX e [] [(819,1)] f58 N)).1
def c58L0b:=(fun e=>(⟨_,by cbv⟩:CoV (CoU X58 e [] 0)).1) emp
def c58L0:=(fun e a=>(⟨_,by cbv⟩:CoV (CoU X58 e [a] 1)).1) emp c58L0b
def c58:=(fun e a b=>(⟨_,by cbv⟩:CoV (CoU X58 e [a,b] 2)).1) emp c58L0b c58L0
def c59:=(fun e=>(⟨_,by cbv⟩:CoV (CoW [(119,1)] f59 e)).1) emp
def c60:=(fun e=>(⟨_,by cbv⟩:CoV (CoW [(317,1)] f60 e)).1) emp
def X61 (e) (N):=(⟨_,by cbv⟩:CoV (CoX e [] [] f61 N)).1
def c61L0b:=(fun e=>(⟨_,by cbv⟩:CoV (CoU X61 e [] 0)).1) emp
def c61L0:=(fun e a=>(⟨_,by cbv⟩:CoV (CoU X61 e [a] 1)).1) emp c61L0b
def c61:=(fun e a b=>(⟨_,by cbv⟩:CoV (CoU X61 e [a,b] 2)).1) emp c61L0b c61L0
def c63:=(fun e=>(⟨_,by cbv⟩:CoV (CoW [(0,1)] f63 e)).1) emp
def c64:=(fun e=>(⟨_,by cbv⟩:CoV (CoW [] f64 e)).1) emp
def c65:=(fun e=>(⟨_,by cbv⟩:CoV (CoW [] f65 e)).1) emp
def c66:=(fun e=>(⟨_,by cbv⟩:CoV (CoW [] f66 e)).1) emp
def c70:=(fun e=>(⟨_,by cbv⟩:CoV (CoW [] f70 e)).1) emp
def X71 (e) (N):=(⟨_,by cbv⟩:CoV (CoX e [] [(101,1),(411,1),(502,1),(603,1),(1103,3)] f71 N)).1
def c71L0b:=(fun e=>(⟨_,by cbv⟩:CoV (CoU X71 e [] 0)).1) emp
def c71L0:=(fun e a=>(⟨_,by cbv⟩:CoV (CoU X71 e [a] 1)).1) emp c71L0b
def c71L1b:=(fun e a b=>(⟨_,by cbv⟩:CoV (CoU X71 e [a,b] 2)).1) emp c71L0b c71L0
def c71L1:=(fun e a b c=>(⟨_,by cbv⟩:CoV (CoU X71 e [a,b,c] 3)).1) emp c71L0b c71L0 c71L1b
def c71:=(fun e a b c d=>(⟨_,by cbv⟩:CoV (CoU X71 e [a,b,c,d] 4)).1) emp c71L0b c71L0 c71L1b c71L1
def c73:=(fun e=>(⟨_,by cbv⟩:CoV (CoW [] f73 e)).1) emp
def c74:=(fun e=>(⟨_,by cbv⟩:CoV (CoW [] f74 e)).1) emp
def c76:=(fun e=>(⟨_,by cbv⟩:CoV (CoW [] f76 e)).1) emp
def X77 (e) (N):=(⟨_,by cbv⟩:CoV (CoX e [] [] f77 N)).1
def c77L0b:=(fun e=>(⟨_,by cbv⟩:CoV (CoU X77 e [] 0)).1) emp
def c77L0:=(fun e a=>(⟨_,by cbv⟩:CoV (CoU X77 e [a] 1)).1) emp c77L0b
def c77:=(fun e a b=>(⟨_,by cbv⟩:CoV (CoU X77 e [a,b] 2)).1) emp c77L0b c77L0
def c78:=(fun e=>(⟨_,by cbv⟩:CoV (CoW [] f78 e)).1) emp
def c79:=(fun e=>(⟨_,by cbv⟩:CoV (CoW [(0,1),(1,1),(102,1)] f79 e)).1) emp
def c80:=(fun e=>(⟨_,by cbv⟩:CoV (CoW [(0,1),(100,1)] f80 e)).1) emp
def c81:=(fun e=>(⟨_,by cbv⟩:CoV (CoW [] f81 e)).1) emp
def c82:=(fun e=>(⟨_,by cbv⟩:CoV (CoW [] f82 e)).1) emp
def c83:=(fun e=>(⟨_,by cbv⟩:CoV (CoW [] f83 e)).1) emp
def c84:=(fun e=>(⟨_,by cbv⟩:CoV (CoW [(100,2),(101,1),(204,1)] f84 e)).1) emp
def c85:=(fun e=>(⟨_,by cbv⟩:CoV (CoW [] f85 e)).1) emp
def c86:=(fun e=>(⟨_,by cbv⟩:CoV (CoW [] f86 e)).1) emp
def c87:=(fun e=>(⟨_,by cbv⟩:CoV (CoW [] f87 e)).1) emp
def c88:=(fun e=>(⟨_,by cbv⟩:CoV (CoW [(100,2),(101,1),(204,1)] f88 e)).1) emp
def c89:=(fun e=>(⟨_,by cbv⟩:CoV (CoW [] f89 e)).1) emp
def c90:=(fun e=>(⟨_,by cbv⟩:CoV (CoW [] f90 e)).1) emp
def c91:=(fun e=>(⟨_,by cbv⟩:CoV (CoW [] f91 e)).1) emp
def c92:=(fun e=>(⟨_,by cbv⟩:CoV (CoW [] f92 e)).1) emp
def c93:=(fun e=>(⟨_,by cbv⟩:CoV (CoW [(0,1),(209,1)] f93 e)).1) emp
def c94:=(fun e=>(⟨_,by cbv⟩:CoV (CoW [] f94 e)).1) emp
def c95:=(fun e=>(⟨_,by cbv⟩:CoV (CoW [] f95 e)).1) emp
def c96:=(fun e=>(⟨_,by cbv⟩:CoV (CoW [(100,2)] f96 e)).1) emp
def c97:=(fun e=>(⟨_,by cbv⟩:CoV (CoW [(114,1)] f97 e)).1) emp
def c98:=(fun e=>(⟨_,by cbv⟩:CoV (CoW [(100,2),(101,1),(204,1)] f98 e)).1) emp
def c99:=(fun e=>(⟨_,by cbv⟩:CoV (CoW [] f99 e)).1) emp
def ZFk (e) (N):=(⟨_,by cbv⟩:CoV (CoX e [] [(503,1)] f100 N)).1
def c100L0b:=(fun e=>(⟨_,by cbv⟩:CoV (CoU ZFk e [] 0)).1) emp
def c100L0:=(fun e a=>(⟨_,by cbv⟩:CoV (CoU ZFk e [a] 1)).1) emp c100L0b
def c100:=(fun e a b=>(⟨_,by cbv⟩:CoV (CoU ZFk e [a,b] 2)).1) emp c100L0b c100L0
def c101:=(fun e=>(⟨_,by cbv⟩:CoV (CoW [(100,2)] f101 e)).1) emp
def c102:=(fun e=>(⟨_,by cbv⟩:CoV (CoW [(100,2),(101,1),(204,1)] f102 e)).1) emp
def c103:=(fun e=>(⟨_,by cbv⟩:CoV (CoW [] f103 e)).1) emp
def c104:=(fun e=>(⟨_,by cbv⟩:CoV (CoW [] f104 e)).1) emp
def c105:=(fun e=>(⟨_,by cbv⟩:CoV (CoW [(100,2)] f105 e)).1) emp
def c106:=(fun e=>(⟨_,by cbv⟩:CoV (CoW [] f106 e)).1) emp
def c107:=(fun e=>(⟨_,by cbv⟩:CoV (CoW [] f107 e)).1) emp
def c108:=(fun e=>(⟨_,by cbv⟩:CoV (CoW [] f108 e)).1) emp
def c109:=(fun e=>(⟨_,by cbv⟩:CoV (CoW [(100,2),(101,1),(204,1)] f109 e)).1) emp
def c110:=(fun e=>(⟨_,by cbv⟩:CoV (CoW [] f110 e)).1) emp
def c111:=(fun e=>(⟨_,by cbv⟩:CoV (CoW [] f111 e)).1) emp
def c112:=(fun e=>(⟨_,by cbv⟩:CoV (CoW [(100,2)] f112 e)).1) emp
def c113:=(fun e=>(⟨_,by cbv⟩:CoV (CoW [] f113 e)).1) emp
def c114:=(fun e=>(⟨_,by cbv⟩:CoV (CoW [(100,2)] f114 e)).1) emp
def c115:=(fun e=>(⟨_,by cbv⟩:CoV (CoW [] f115 e)).1) emp
def c118:=(fun e=>(⟨_,by cbv⟩:CoV (CoW [(100,2)] f118 e)).1) emp
def c119:=(fun e=>(⟨_,by cbv⟩:CoV (CoW [] f119 e)).1) emp
def c121:=(fun e=>(⟨_,by cbv⟩:CoV (CoW [] f121 e)).1) emp
def c123:=(fun e=>(⟨_,by cbv⟩:CoV (CoW [(100,2)] f123 e)).1) emp
def c124:=(fun e=>(⟨_,by cbv⟩:CoV (CoW [] f124 e)).1) emp
def c125:=(fun e=>(⟨_,by cbv⟩:CoV (CoW [] f125 e)).1) emp
def c126:=(fun e=>(⟨_,by cbv⟩:CoV (CoW [] f126 e)).1) emp
def c127:=(fun e=>(⟨_,by cbv⟩:CoV (CoW [] f127 e)).1) emp
def c128:=(fun e=>(⟨_,by cbv⟩:CoV (CoW [] f128 e)).1) emp
def c129:=(fun e=>(⟨_,by cbv⟩:CoV (CoW [(219,2)] f129 e)).1) emp
def c130:=(fun e=>(⟨_,by cbv⟩:CoV (CoW [] f130 e)).1) emp
def ZFl (e) (N):=(⟨_,by cbv⟩:CoV (CoX e [] [(303,1)] f131 N)).1
def c131L0b:=(fun e=>(⟨_,by cbv⟩:CoV (CoU ZFl e [] 0)).1) emp
def c131L0:=(fun e a=>(⟨_,by cbv⟩:CoV (CoU ZFl e [a] 1)).1) emp c131L0b
def c131:=(fun e a b=>(⟨_,by cbv⟩:CoV (CoU ZFl e [a,b] 2)).1) emp c131L0b c131L0
def c132:=(fun e=>(⟨_,by cbv⟩:CoV (CoW [] f132 e)).1) emp
def ZFm (e) (N):=(⟨_,by cbv⟩:CoV (CoX e [] [(100,1),(402,1),(1004,2)] f133 N)).1
def c133L0b:=(fun e=>(⟨_,by cbv⟩:CoV (CoU ZFm e [] 0)).1) emp
def c133L0:=(fun e a=>(⟨_,by cbv⟩:CoV (CoU ZFm e [a] 1)).1) emp c133L0b
def c133:=(fun e a b=>(⟨_,by cbv⟩:CoV (CoU ZFm e [a,b] 2)).1) emp c133L0b c133L0
def c134:=(fun e=>(⟨_,by cbv⟩:CoV (CoW [] f134 e)).1) emp
def c135:=(fun e=>(⟨_,by cbv⟩:CoV (CoW [(103,2)] f135 e)).1) emp
def c136:=(fun e=>(⟨_,by cbv⟩:CoV (CoW [] f136 e)).1) emp
def c137:=(fun e=>(⟨_,by cbv⟩:CoV (CoW [] f137 e)).1) emp
def c138:=(fun e=>(⟨_,by cbv⟩:CoV (CoW [] f138 e)).1) emp
def c139:=(fun e=>(⟨_,by cbv⟩:CoV (CoW [] f139 e)).1) emp
def c140:=(fun e=>(⟨_,by cbv⟩:CoV (CoW [] f140 e)).1) emp
def c141:=(fun e=>(⟨_,by cbv⟩:CoV (CoW [] f141 e)).1) emp
def c142:=(fun e=>(⟨_,by cbv⟩:CoV (CoW [(112,2)] f142 e)).1) emp
def Zxm (e) (N):=(⟨_,by cbv⟩:CoV (CoX e [] [(100,1),(402,1),(900,2),(903,2)] f143 N)).1
def c143L0b:=(fun e=>(⟨_,by cbv⟩:CoV (CoU Zxm e [] 0)).1) emp
def c143L0:=(fun e a=>(⟨_,by cbv⟩:CoV (CoU Zxm e [a] 1)).1) emp c143L0b
def c143:=(fun e a b=>(⟨_,by cbv⟩:CoV (CoU Zxm e [a,b] 2)).1) emp c143L0b c143L0
def c144:=(fun e=>(⟨_,by cbv⟩:CoV (CoW [(100,2)] f144 e)).1) emp
def c145:=(fun e=>(⟨_,by cbv⟩:CoV (CoW [(109,1)] f145 e)).1) emp
def c146:=(fun e=>(⟨_,by cbv⟩:CoV (CoW [(107,1)] f146 e)).1) emp
def c147:=(fun e=>(⟨_,by cbv⟩:CoV (CoW [] f147 e)).1) emp
def c148:=(fun e=>(⟨_,by cbv⟩:CoV (CoW [] f148 e)).1) emp
def c149:=(fun e=>(⟨_,by cbv⟩:CoV (CoW [(100,2)] f149 e)).1) emp
def c150:=(fun e=>(⟨_,by cbv⟩:CoV (CoW [] f150 e)).1) emp
def c151:=(fun e=>(⟨_,by cbv⟩:CoV (CoW [(100,2)] f151 e)).1) emp
def c154:=(fun e=>(⟨_,by cbv⟩:CoV (CoW [] f154 e)).1) emp
def ZFn (e) (N):=(⟨_,by cbv⟩:CoV (CoX e [] [] f155 N)).1
def c155L0b:=(fun e=>(⟨_,by cbv⟩:CoV (CoU ZFn e [] 0)).1) emp
def c155L0:=(fun e a=>(⟨_,by cbv⟩:CoV (CoU ZFn e [a] 1)).1) emp c155L0b
def c155:=(fun e a b=>(⟨_,by cbv⟩:CoV (CoU ZFn e [a,b] 2)).1) emp c155L0b c155L0
def c157:=(fun e=>(⟨_,by cbv⟩:CoV (CoW [] f157 e)).1) emp
def c158:=(fun e=>(⟨_,by cbv⟩:CoV (CoW [] f158 e)).1) emp
def ZFo (e) (N):=(⟨_,by cbv⟩:CoV (CoX e [] [] f159 N)).1
def c159L0b:=(fun e=>(⟨_,by cbv⟩:CoV (CoU ZFo e [] 0)).1) emp
def c159L0:=(fun e a=>(⟨_,by cbv⟩:CoV (CoU ZFo e [a] 1)).1) emp c159L0b
def c159:=(fun e a b=>(⟨_,by cbv⟩:CoV (CoU ZFo e [a,b] 2)).1) emp c159L0b c159L0
def c161:=(fun e=>(⟨_,by cbv⟩:CoV (CoW [(100,2)] f161 e)).1) emp
def c162:=(fun e=>(⟨_,by cbv⟩:CoV (CoW [] f162 e)).1) emp
def ZFp (e) (N):=(⟨_,by cbv⟩:CoV (CoX e [] [] f164 N)).1
def c164L0b:=(fun e=>(⟨_,by cbv⟩:CoV (CoU ZFp e [] 0)).1) emp
def c164L0:=(fun e a=>(⟨_,by cbv⟩:CoV (CoU ZFp e [a] 1)).1) emp c164L0b
def c164:=(fun e a b=>(⟨_,by cbv⟩:CoV (CoU ZFp e [a,b] 2)).1) emp c164L0b c164L0
def ZFq (e) (N):=(⟨_,by cbv⟩:CoV (CoX e [] [] f165 N)).1
def c165L0b:=(fun e=>(⟨_,by cbv⟩:CoV (CoU ZFq e [] 0)).1) emp
def c165L0:=(fun e a=>(⟨_,by cbv⟩:CoV (CoU ZFq e [a] 1)).1) emp c165L0b
def c165:=(fun e a b=>(⟨_,by cbv⟩:CoV (CoU ZFq e [a,b] 2)).1) emp c165L0b c165L0
def ZFr (e) (N):=(⟨_,by cbv⟩:CoV (CoX e [] [] f177 N)).1
def c177L0b:=(fun e=>(⟨_,by cbv⟩:CoV (CoU ZFr e [] 0)).1) emp
def c177L0:=(fun e a=>(⟨_,by cbv⟩:CoV (CoU ZFr e [a] 1)).1) emp c177L0b
def c177:=(fun e a b=>(⟨_,by cbv⟩:CoV (CoU ZFr e [a,b] 2)).1) emp c177L0b c177L0
def Zxt (e) (N):=(⟨_,by cbv⟩:CoV (CoX e [] [(303,1),(400,1),(806,1)] f194 N)).1
def c194L0b:=(fun e=>(⟨_,by cbv⟩:CoV (CoU Zxt e [] 0)).1) emp
def c194L0:=(fun e a=>(⟨_,by cbv⟩:CoV (CoU Zxt e [a] 1)).1) emp c194L0b
def c194:=(fun e a b=>(⟨_,by cbv⟩:CoV (CoU Zxt e [a,b] 2)).1) emp c194L0b c194L0
def c195:=(fun e=>(⟨_,by cbv⟩:CoV (CoW [(100,2)] f195 e)).1) emp
def c196:=(fun e=>(⟨_,by cbv⟩:CoV (CoW [] f196 e)).1) emp
def ZFs (e) (N):=(⟨_,by cbv⟩:CoV (CoX e [] [(100,1),(200,2),(201,1),(300,1),(400,1)] f197 N)).1
def c197R0a:=(fun e=>(⟨_,by cbv⟩:CoV (CoU ZFs e [] 0)).1) emp
def c197R0b:=(fun e a=>(⟨_,by cbv⟩:CoV (CoU ZFs e [a] 1)).1) emp c197R0a
def c197:=(fun e a b=>(⟨_,by cbv⟩:CoV (CoU ZFs e [a,b] 2)).1) emp c197R0a c197R0b
def ZEL (e) (N):=(⟨_,by cbv⟩:CoV (CoX e [] [(511,1),(512,1)] f198 N)).1
def c198L0b:=(fun e=>(⟨_,by cbv⟩:CoV (CoU ZEL e [] 0)).1) emp
def c198L0:=(fun e a=>(⟨_,by cbv⟩:CoV (CoU ZEL e [a] 1)).1) emp c198L0b
def c198L1b:=(fun e a b=>(⟨_,by cbv⟩:CoV (CoU ZEL e [a,b] 2)).1) emp c198L0b c198L0
def c198L1:=(fun e a b c=>(⟨_,by cbv⟩:CoV (CoU ZEL e [a,b,c] 3)).1) emp c198L0b c198L0 c198L1b
def c198:=(fun e a b c d=>(⟨_,by cbv⟩:CoV (CoU ZEL e [a,b,c,d] 4)).1) emp c198L0b c198L0 c198L1b c198L1
def c199:=(fun e s0=>(⟨_,by cbv⟩:CoV (coY (CoX e [(288,s0)] [] f199) [] 0)).1) emp (B [32])
def ZFt (e) (N):=(⟨_,by cbv⟩:CoV (CoX e [] [(402,1)] f200 N)).1
def c200L0b:=(fun e=>(⟨_,by cbv⟩:CoV (CoU ZFt e [] 0)).1) emp
def c200L0:=(fun e a=>(⟨_,by cbv⟩:CoV (CoU ZFt e [a] 1)).1) emp c200L0b
def c200:=(fun e a b=>(⟨_,by cbv⟩:CoV (CoU ZFt e [a,b] 2)).1) emp c200L0b c200L0
def ZFu (e) (N):=(⟨_,by cbv⟩:CoV (CoX e [] [] f201 N)).1
def c201L0b:=(fun e=>(⟨_,by cbv⟩:CoV (CoU ZFu e [] 0)).1) emp
def c201L0:=(fun e a=>(⟨_,by cbv⟩:CoV (CoU ZFu e [a] 1)).1) emp c201L0b
def c201:=(fun e a b=>(⟨_,by cbv⟩:CoV (CoU ZFu e [a,b] 2)).1) emp c201L0b c201L0
def c202:=(fun e=>(⟨_,by cbv⟩:CoV (CoW [(100,2)] f202 e)).1) emp
def c203:=(fun e=>(⟨_,by cbv⟩:CoV (CoW [] f203 e)).1) emp
def c204:=(fun e=>(⟨_,by cbv⟩:CoV (CoW [] f204 e)).1) emp
def ZFv (e) (N):=(⟨_,by cbv⟩:CoV (CoX e [] [(302,1)] f205 N)).1
def c205L0b:=(fun e=>(⟨_,by cbv⟩:CoV (CoU ZFv e [] 0)).1) emp
def c205L0:=(fun e a=>(⟨_,by cbv⟩:CoV (CoU ZFv e [a] 1)).1) emp c205L0b
def c205:=(fun e a b=>(⟨_,by cbv⟩:CoV (CoU ZFv e [a,b] 2)).1) emp c205L0b c205L0
def c206:=(fun e=>(⟨_,by cbv⟩:CoV (CoW [] f206 e)).1) emp
def c207:=(fun e=>(⟨_,by cbv⟩:CoV (CoW [] f207 e)).1) emp
def ZFw (e) (N):=(⟨_,by cbv⟩:CoV (CoX e [] [(402,1)] f208 N)).1
def c208L0b:=(fun e=>(⟨_,by cbv⟩:CoV (CoU ZFw e [] 0)).1) emp
def c208L0:=(fun e a=>(⟨_,by cbv⟩:CoV (CoU ZFw e [a] 1)).1) emp c208L0b
def c208:=(fun e a b=>(⟨_,by cbv⟩:CoV (CoU ZFw e [a,b] 2)).1) emp c208L0b c208L0
def c209:=(fun e=>(⟨_,by cbv⟩:CoV (CoW [] f209 e)).1) emp
def c210:=(fun e=>(⟨_,by cbv⟩:CoV (CoW [] f210 e)).1) emp
def ZFx (e) (N):=(⟨_,by cbv⟩:CoV (CoX e [] [] f211 N)).1
def c211L0b:=(fun e=>(⟨_,by cbv⟩:CoV (CoU ZFx e [] 0)).1) emp
def c211L0:=(fun e a=>(⟨_,by cbv⟩:CoV (CoU ZFx e [a] 1)).1) emp c211L0b
def c211:=(fun e a b=>(⟨_,by cbv⟩:CoV (CoU ZFx e [a,b] 2)).1) emp c211L0b c211L0
def ZFy (e) (N):=(⟨_,by cbv⟩:CoV (CoX e [] [] f212 N)).1
def c212L0b:=(fun e=>(⟨_,by cbv⟩:CoV (CoU ZFy e [] 0)).1) emp
def c212L0:=(fun e a=>(⟨_,by cbv⟩:CoV (CoU ZFy e [a] 1)).1) emp c212L0b
def c212:=(fun e a b=>(⟨_,by cbv⟩:CoV (CoU ZFy e [a,b] 2)).1) emp c212L0b c212L0
def c224:=(fun e s0 s1 s2 s3 s4 s5 s6 s7 s8=>(⟨_,by cbv⟩:CoV (coY (CoX e [(233606820031262824291793228925311306333649869794303002079163341563213949795593257878683467579756910891606622701420032317479258,s0),(1436506918544312769132601,s1),(351,s2),(18876682,s3),(291,s4),(290,s5),(289,s6),(80958,s7),(24970544417651213645683474901805,s8)] [(0,1),(100,1),(301,1),(401,1),(501,1),(601,1),(701,1),(801,1),(901,1),(1001,1),(1101,1)] f224) [] 0)).1) emp (B [97,98,99,100,101,102,103,104,105,106,107,108,109,110,111,112,113,114,115,116,117,118,119,120,121,122,65,66,67,68,69,70,71,72,73,74,75,76,77,78,79,80,81,82,83,84,85,86,87,88,89,90]) (B [48,49,50,51,52,53,54,55,56,57]) (B [95]) (B [32,9,10]) (B [35]) (B [34]) (B [33]) (B [60,62]) (B [59,44,46,58,40,41,91,93,123,125,61,43,45])
def ZFz (e) (N):=(⟨_,by cbv⟩:CoV (CoX e [] [] f225 N)).1
def c225L0b:=(fun e=>(⟨_,by cbv⟩:CoV (CoU ZFz e [] 0)).1) emp
def c225L0:=(fun e a=>(⟨_,by cbv⟩:CoV (CoU ZFz e [a] 1)).1) emp c225L0b
def c225:=(fun e a b=>(⟨_,by cbv⟩:CoV (CoU ZFz e [a,b] 2)).1) emp c225L0b c225L0
def c226:=(fun e s0 s1=>(⟨_,by cbv⟩:CoV (coY (CoX e [(74250,s0),(317,s1)] [(0,1)] f226) [] 0)).1) emp (B [34,10]) (B [61])
def ZFA (e) (N):=(⟨_,by cbv⟩:CoV (CoX e [] [] f227 N)).1
def c227L0b:=(fun e=>(⟨_,by cbv⟩:CoV (CoU ZFA e [] 0)).1) emp
def c227L0:=(fun e a=>(⟨_,by cbv⟩:CoV (CoU ZFA e [a] 1)).1) emp c227L0b
def c227:=(fun e a b=>(⟨_,by cbv⟩:CoV (CoU ZFA e [a,b] 2)).1) emp c227L0b c227L0
def c228:=(fun e=>(⟨_,by cbv⟩:CoV (CoW [] f228 e)).1) emp
def c229:=(fun e=>(⟨_,by cbv⟩:CoV (CoW [] f229 e)).1) emp
def c230:=(fun e=>(⟨_,by cbv⟩:CoV (CoW [(106,1),(107,1)] f230 e)).1) emp
def c232:=(fun e=>(⟨_,by cbv⟩:CoV (CoW [] f232 e)).1) emp
def ZFB (e) (N):=(⟨_,by cbv⟩:CoV (CoX e [] [] f233 N)).1
def c233L0b:=(fun e=>(⟨_,by cbv⟩:CoV (CoU ZFB e [] 0)).1) emp
def c233L0:=(fun e a=>(⟨_,by cbv⟩:CoV (CoU ZFB e [a] 1)).1) emp c233L0b
def c233:=(fun e a b=>(⟨_,by cbv⟩:CoV (CoU ZFB e [a,b] 2)).1) emp c233L0b c233L0
def c234:=(fun e=>(⟨_,by cbv⟩:CoV (CoW [(0,1)] f234 e)).1) emp
def c235:=(fun e=>(⟨_,by cbv⟩:CoV (CoW [] f235 e)).1) emp
def ZxF (e) (N):=(⟨_,by cbv⟩:CoV (CoX e [] [] f239 N)).1
def c239L0b:=(fun e=>(⟨_,by cbv⟩:CoV (CoU ZxF e [] 0)).1) emp
def c239L0:=(fun e a=>(⟨_,by cbv⟩:CoV (CoU ZxF e [a] 1)).1) emp c239L0b
def c239:=(fun e a b=>(⟨_,by cbv⟩:CoV (CoU ZxF e [a,b] 2)).1) emp c239L0b c239L0
def ZFC (e) (N):=(⟨_,by cbv⟩:CoV (CoX e [] [] f240 N)).1
def c240L0b:=(fun e=>(⟨_,by cbv⟩:CoV (CoU ZFC e [] 0)).1) emp
def c240L0:=(fun e a=>(⟨_,by cbv⟩:CoV (CoU ZFC e [a] 1)).1) emp c240L0b
def c240:=(fun e a b=>(⟨_,by cbv⟩:CoV (CoU ZFC e [a,b] 2)).1) emp c240L0b c240L0
def c241:=(fun e=>(⟨_,by cbv⟩:CoV (CoW [] f241 e)).1) emp
def c245:=(fun e=>(⟨_,by cbv⟩:CoV (CoW [] f245 e)).1) emp
def ZFD (e) (N):=(⟨_,by cbv⟩:CoV (CoX e [] [(203,1),(310,1)] f246 N)).1
def c246L0b:=(fun e=>(⟨_,by cbv⟩:CoV (CoU ZFD e [] 0)).1) emp
def c246L0:=(fun e a=>(⟨_,by cbv⟩:CoV (CoU ZFD e [a] 1)).1) emp c246L0b
def c246:=(fun e a b=>(⟨_,by cbv⟩:CoV (CoU ZFD e [a,b] 2)).1) emp c246L0b c246L0
def ZxH (e) (N):=(⟨_,by cbv⟩:CoV (CoX e [] [(302,1)] f247 N)).1
def c247L0b:=(fun e=>(⟨_,by cbv⟩:CoV (CoU ZxH e [] 0)).1) emp
def c247L0:=(fun e a=>(⟨_,by cbv⟩:CoV (CoU ZxH e [a] 1)).1) emp c247L0b
def c247:=(fun e a b=>(⟨_,by cbv⟩:CoV (CoU ZxH e [a,b] 2)).1) emp c247L0b c247L0
def c248:=(fun e=>(⟨_,by cbv⟩:CoV (CoW [(2,1)] f248 e)).1) emp
def c249:=(fun e=>(⟨_,by cbv⟩:CoV (CoW [] f249 e)).1) emp
def c250:=(fun e=>(⟨_,by cbv⟩:CoV (CoW [(503,1)] f250 e)).1) emp
def c251:=(fun e=>(⟨_,by cbv⟩:CoV (CoW [] f251 e)).1) emp
def ZxI (e) (N):=(⟨_,by cbv⟩:CoV (CoX e [] [] f253 N)).1
def c253L0b:=(fun e=>(⟨_,by cbv⟩:CoV (CoU ZxI e [] 0)).1) emp
def c253L0:=(fun e a=>(⟨_,by cbv⟩:CoV (CoU ZxI e [a] 1)).1) emp c253L0b
def c253:=(fun e a b=>(⟨_,by cbv⟩:CoV (CoU ZxI e [a,b] 2)).1) emp c253L0b c253L0
def c261:=(fun e=>(⟨_,by cbv⟩:CoV (CoW [] f261 e)).1) emp
def c262:=(fun e=>(⟨_,by cbv⟩:CoV (CoW [(2,1)] f262 e)).1) emp
def c263:=(fun e=>(⟨_,by cbv⟩:CoV (CoW [] f263 e)).1) emp
def c264:=(fun e=>(⟨_,by cbv⟩:CoV (CoW [] f264 e)).1) emp
def FN0:List (Nat×AFun):=[(6,⟨[.tmp 8],c6⟩),(9,⟨[.tmp 0],c9⟩),(10,⟨[.tmp 4],c10⟩),(11,⟨[.tmp 2],c11⟩),(12,⟨[.cell 4 (some 2),.tmp 5],c12⟩),(13,⟨[.tmp 4],c13⟩),(14,⟨[.tmp 4],c14⟩),(15,⟨[.tmp 4],c15⟩),(16,⟨[.tmp 4,.tmp 5],c16⟩),(17,⟨[.tmp 4],c17⟩),(18,⟨[.tmp 4],c18⟩),(19,⟨[.tmp 2],c19⟩),(20,⟨[.cell 6 (some 7),.tmp 7],c20⟩),(21,⟨[.tmp 4],c21⟩)]
def FN1:List (Nat×AFun):=[(23,⟨[.cell 0 (some 7)],c23⟩),(24,⟨[.tmp 2],c24⟩),(25,⟨[.tmp 6],c25⟩),(26,⟨[.tmp 2],c26⟩),(27,⟨[.tmp 4],c27⟩),(28,⟨[.tmp 4],c28⟩),(29,⟨[.tmp 2],c29⟩),(30,⟨[.tmp 2],c30⟩),(31,⟨[.tmp 2],c31⟩),(32,⟨[.tmp 2],c32⟩),(33,⟨[.tmp 4],c33⟩),(34,⟨[.tmp 2],c34⟩),(35,⟨[.tmp 4],c35⟩),(37,⟨[.tmp 2],c37⟩)]
def FN2:List (Nat×AFun):=[(39,⟨[.tmp 2],c39⟩),(40,⟨[.tmp 4],c40⟩),(41,⟨[.tmp 3],c41⟩),(42,⟨[.tmp 3],c42⟩),(43,⟨[.tmp 2],c43⟩),(44,⟨[.tmp 2],c44⟩),(45,⟨[.tmp 2],c45⟩),(46,⟨[.tmp 2],c46⟩),(47,⟨[.tmp 2],c47⟩),(48,⟨[.tmp 2],c48⟩),(49,⟨[.tmp 2],c49⟩),(50,⟨[.tmp 2],c50⟩),(51,⟨[.tmp 2],c51⟩),(52,⟨[.tmp 2],c52⟩)]
def FN3:List (Nat×AFun):=[(53,⟨[.tmp 2],c53⟩),(54,⟨[.tmp 2],c54⟩),(55,⟨[.tmp 2],c55⟩),(56,⟨[.tmp 2],c56⟩),(57,⟨[.tmp 2],c57⟩),(58,⟨[.tmp 2],c58⟩),(59,⟨[.tmp 2],c59⟩),(60,⟨[.tmp 2],c60⟩),(61,⟨[.tmp 4],c61⟩),(63,⟨[.cell 2 (some 4)],c63⟩),(64,⟨[.tmp 6],c64⟩),(65,⟨[.tmp 4],c65⟩),(66,⟨[.tmp 4],c66⟩),(70,⟨[.tmp 4],c70⟩)]
def FN4:List (Nat×AFun):=[(71,⟨[],c71⟩),(77,⟨[.tmp 4],c77⟩),(78,⟨[.tmp 6],c78⟩),(79,⟨[.cell 2 (some 18)],c79⟩),(80,⟨[.cell 0 (some 16)],c80⟩),(81,⟨[.tmp 4],c81⟩),(82,⟨[.tmp 4],c82⟩),(83,⟨[.tmp 2],c83⟩),(84,⟨[.tmp 6],c84⟩),(85,⟨[],c85⟩),(86,⟨[.tmp 2],c86⟩),(87,⟨[],c87⟩),(88,⟨[.tmp 6],c88⟩),(89,⟨[],c89⟩)]
def FN5:List (Nat×AFun):=[(90,⟨[],c90⟩),(91,⟨[],c91⟩),(92,⟨[.tmp 2],c92⟩),(93,⟨[],c93⟩),(94,⟨[.tmp 2],c94⟩),(95,⟨[.tmp 3],c95⟩),(96,⟨[.tmp 4],c96⟩),(97,⟨[.tmp 3],c97⟩),(98,⟨[.tmp 6],c98⟩),(99,⟨[],c99⟩),(100,⟨[],c100⟩),(101,⟨[.tmp 4],c101⟩),(102,⟨[.tmp 6],c102⟩),(103,⟨[],c103⟩)]
def FN6:List (Nat×AFun):=[(104,⟨[],c104⟩),(105,⟨[.tmp 4],c105⟩),(106,⟨[.tmp 3],c106⟩),(107,⟨[],c107⟩),(108,⟨[.tmp 4],c108⟩),(109,⟨[.tmp 6],c109⟩),(110,⟨[],c110⟩),(111,⟨[.tmp 2],c111⟩),(112,⟨[.tmp 4],c112⟩),(113,⟨[.tmp 3],c113⟩),(114,⟨[.tmp 4],c114⟩),(115,⟨[.tmp 3],c115⟩),(118,⟨[.tmp 4],c118⟩),(119,⟨[.tmp 3],c119⟩)]
def FN7:List (Nat×AFun):=[(123,⟨[.tmp 3],c123⟩),(124,⟨[.tmp 2],c124⟩),(125,⟨[.tmp 2],c125⟩),(126,⟨[.tmp 2],c126⟩),(127,⟨[.tmp 4],c127⟩),(128,⟨[.tmp 3],c128⟩),(129,⟨[.tmp 2],c129⟩),(130,⟨[.tmp 3],c130⟩),(131,⟨[.tmp 2],c131⟩),(132,⟨[.tmp 3],c132⟩),(133,⟨[.tmp 2],c133⟩),(134,⟨[.tmp 2],c134⟩),(135,⟨[.tmp 2],c135⟩),(136,⟨[.tmp 3],c136⟩)]
def FN8:List (Nat×AFun):=[(137,⟨[.tmp 2],c137⟩),(138,⟨[.tmp 2],c138⟩),(139,⟨[.tmp 2],c139⟩),(140,⟨[.tmp 2],c140⟩),(141,⟨[.tmp 4],c141⟩),(142,⟨[.tmp 3],c142⟩),(143,⟨[.tmp 4],c143⟩),(144,⟨[.tmp 4],c144⟩),(145,⟨[.tmp 2],c145⟩),(146,⟨[.tmp 2],c146⟩),(147,⟨[.tmp 3],c147⟩),(148,⟨[.tmp 2],c148⟩),(149,⟨[.tmp 4],c149⟩),(150,⟨[.tmp 3],c150⟩)]
def FN9:List (Nat×AFun):=[(151,⟨[.tmp 4],c151⟩),(154,⟨[.tmp 2],c154⟩),(155,⟨[.tmp 4],c155⟩),(157,⟨[],c157⟩),(158,⟨[],c158⟩),(159,⟨[.tmp 4],c159⟩),(161,⟨[.tmp 4],c161⟩),(162,⟨[.tmp 3],c162⟩),(164,⟨[.tmp 4],c164⟩),(165,⟨[.tmp 4],c165⟩),(177,⟨[.tmp 4],c177⟩),(194,⟨[.tmp 2,.tmp 3,.tmp 4],c194⟩),(195,⟨[.tmp 4],c195⟩),(196,⟨[.tmp 2],c196⟩)]
def ZjY:List (Nat×AFun):=[(197,⟨[.tmp 2],c197⟩),(198,⟨[.tmp 2],c198⟩),(199,⟨[.tmp 2],c199⟩),(200,⟨[.tmp 2],c200⟩),(201,⟨[.tmp 2],c201⟩),(202,⟨[.tmp 4],c202⟩),(203,⟨[.tmp 2],c203⟩),(204,⟨[.tmp 2],c204⟩),(205,⟨[.tmp 4],c205⟩),(206,⟨[.tmp 2],c206⟩),(207,⟨[.tmp 4],c207⟩),(208,⟨[.tmp 2],c208⟩),(209,⟨[.tmp 3],c209⟩),(210,⟨[.tmp 2],c210⟩)]
def ZjZ:List (Nat×AFun):=[(211,⟨[.tmp 4],c211⟩),(212,⟨[.tmp 4],c212⟩),(224,⟨[.cell 0 (some 256)],c224⟩),(225,⟨[.tmp 4],c225⟩),(226,⟨[.cell 4 (some 4),.tmp 5,.tmp 6],c226⟩),(227,⟨[.tmp 4],c227⟩),(228,⟨[.tmp 2],c228⟩),(229,⟨[.tmp 6],c229⟩),(230,⟨[.tmp 8],c230⟩),(232,⟨[.tmp 2],c232⟩),(233,⟨[.tmp 4],c233⟩),(234,⟨[.cell 0 (some 56)],c234⟩),(235,⟨[.tmp 4],c235⟩),(239,⟨[],c239⟩)]
def Zk0:List (Nat×AFun):=[(240,⟨[.tmp 6],c240⟩),(241,⟨[.tmp 4],c241⟩),(245,⟨[.tmp 4],c245⟩),(246,⟨[],c246⟩),(247,⟨[.tmp 2],c247⟩),(248,⟨[.cell 4 (some 6)],c248⟩),(249,⟨[.tmp 4],c249⟩),(250,⟨[.tmp 6],c250⟩),(251,⟨[.tmp 6],c251⟩),(253,⟨[.tmp 6],c253⟩),(261,⟨[.tmp 4],c261⟩),(262,⟨[.cell 4 (some 2)],c262⟩),(263,⟨[.tmp 4],c263⟩),(264,⟨[.tmp 4],c264⟩)]
def ZjW (f:Nat) (l:List (Nat×AFun)):Option AFun:=l.foldr (fun p r=>bif Nat.beq f p.1 then some p.2 else r) none
def N0 (f:Nat):Option AFun:=bif Nat.blt f 23 then ZjW f FN0 else bif Nat.blt f 39 then ZjW f FN1 else bif Nat.blt f 53 then ZjW f FN2 else bif Nat.blt f 71 then ZjW f FN3 else bif Nat.blt f 90 then ZjW f FN4 else bif Nat.blt f 104 then ZjW f FN5 else bif Nat.blt f 123 then ZjW f FN6 else bif Nat.blt f 137 then ZjW f FN7 else bif Nat.blt f 151 then ZjW f FN8 else bif Nat.blt f 197 then ZjW f FN9 else bif Nat.blt f 211 then ZjW f ZjY else bif Nat.blt f 240 then ZjW f ZjZ else ZjW f Zk0
def a37:AFun:=⟨[.tmp 2],c37⟩
def a39:AFun:=⟨[.tmp 2],c39⟩
def Zz9:List (Nat×AFun):=[(37,⟨[.tmp 2],c37⟩),(39,⟨[.tmp 2],c39⟩),(73,⟨[.tmp 5],c73⟩),(74,⟨[.tmp 4],c74⟩),(76,⟨[.tmp 5],c76⟩),(121,⟨[.tmp 2],c121⟩)]
def Zza (f:Nat):Option AFun:=ZjW f Zz9
def e0:Env:={ fn:=Zza,gl:=fun _=>.bot,sum:=fun _=>none }
def ZGv:List (Nat×AFun):=[(36,⟨[.tmp 4],c36⟩),(38,⟨[.tmp 4],c38⟩)]
def ZGw (f:Nat):Option AFun:=ZjW f ZGv
def ckS (k:Nat):List AV→Bool
 | [.iptr false [.clo (.func f) [] []]]=>Nat.beq f k
 | _=>false
def ZEf:AV→Option (List Int)
 | .agg [.str s,.int .i64 _,.int .i64 _]=>some (s.data.toList.map fun b=>(b.toNat:Int))
 | _=>none
def ZEm (caps:List AV) (x:AV):Option (List Int):=bif ckS 39 caps then ZEf x else none
def ZFE (f:Nat):Option (List AV→Hp→Option (AV×Hp)):=bif Nat.beq f 72 then some (ZEt 73 (ckS 37)) else bif Nat.beq f 75 then some (ZvW 76 3 ZEm) else none
def e1:Env:={ fn:=ZGw,gl:=fun _=>.bot,sum:=ZFE }
end Go.AM
