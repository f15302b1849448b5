/- The code of the abstract machine for the functions that the statement WatchQuiet reaches. No condition. -/
import Derived.Test.YtleidcbidcdaiaaGreatDoorQ3
import Derived.Test.YtleidcbidcdaiaaGreatDoorProg
set_option linter.unusedVariables false
set_option linter.unusedSimpArgs false
set_option linter.unusedSectionVars false
namespace Go.AM
open Go
inductive CoTy where
 | b | i (k:IntKind) | s | sl (e by':Nat) | st (fs:List Nat) | ar (n e:Nat) | mp (k v:Nat) | p | f | j | o
structure CoCx where
 T:Nat→CoTy
 e:ByteArray
 S:List (Nat×ByteArray)
 H:List (Nat×Nat)
 N:Nat→ACode
def ZvB {α:Type} (d:α):List α→Nat→α
 | [],_=>d
 | x::r,n=>bif n==0 then x else ZvB d r (n - 1)
def Zwo (T:Nat→CoTy):Nat→Nat→Nat
 | 0,_=>1
 | n+1,t=>match T t with
  | .st fs=>fs.foldr (fun f s=>Zwo T n f+s) 0
  | .ar k e=>k * Zwo T n e
  | _=>1
def Zw0 (T:Nat→CoTy) (e:ByteArray):Nat→Nat→List AV
 | 0,_=>[]
 | n+1,t=>match T t with
  | .b=>[.bool false]
  | .i k=>[.int k 0]
  | .s=>[.str e]
  | .sl x _=>[.isl false false (Zwo T n x) []]
  | .st fs=>fs.foldr (fun f s=>Zw0 T e n f++s) []
  | .ar k x=>(List.replicate k (Zw0 T e n x)).flatten
  | .mp _ _=>[.nilmap]
  | .p=>[.nilp]
  | .f=>[.nilfn]
  | .j=>[.nilif]
  | .o=>[.bot]
def ZvR (T:Nat→CoTy):Nat→Nat→List Nat
 | 0,_=>[]
 | n+1,t=>match T t with
  | .b=>[0]
  | .i _=>[1]
  | .s=>[2]
  | .st fs=>fs.foldr (fun f s=>ZvR T n f++s) []
  | .ar k x=>(List.replicate k (ZvR T n x)).flatten
  | _=>[]
def Zw1:CoTy→Bool
 | .st _ | .ar _ _=>true
 | _=>false
def ZwJ (b:Bool):AV→AV
 | .isl w _ n l=>.isl w b n l
 | v=>v
def ZvK (X:CoCx) (top:Bool) (t:Nat):AV:=match X.T t with
 | .st _ | .ar _ _=>.agg (Zw0 X.T X.e 9 t)
 | _=>ZwJ top (ZvB .bot (Zw0 X.T X.e 9 t) 0)
def ZxZ:AV→AV
 | .agg cs=>.agg (cs.map (ZwJ true))
 | v=>ZwJ true v
def Zvk (X:CoCx) (t:Nat):Nat:=Zwo X.T 9 t
def ZwK (X:CoCx) (t:Nat):Option Nat:=bif Zw1 (X.T t) then some (Zvk X t) else none
def ZvC (X:CoCx) (t:Nat):Nat:=match X.T t with
 | .sl e _=>e
 | .ar _ e=>e
 | _=>0
def ZwL (X:CoCx) (t:Nat):Nat:=match X.T t with
 | .sl _ y=>y
 | _=>0
def Zwp (X:CoCx) (t:Nat):List Nat:=match X.T t with
 | .st fs=>fs
 | _=>[]
def ZwM (X:CoCx) (t i:Nat):Nat:=((Zwp X t).take i).foldr (fun f s=>Zvk X f+s) 0
def ZFJ (e:ByteArray) (k:Nat):List (Nat×ByteArray)→ByteArray
 | []=>e
 | p::r=>bif p.1==k then p.2 else ZFJ e k r
def Zzy (X:CoCx) (h:Nat) (ex:Bool) (t:Nat):Value→AV
 | .bool b=>.bool b
 | .int k n=>.int k n
 | .string s=>.str (match s.data.toList with | []=>X.e | l=>ZFJ X.e (l.foldl (fun n b=>256 * n+b.toNat) 1) X.S)
 | .pointer _=>.nilp
 | .slice _ _ _=>.isl false ex (Zvk X (ZvC X t)) []
 | .map _=>.nilmap
 | .nilFunc=>.nilfn
 | .nilIface=>.nilif
 | .agg _=>ZvK X false t
 | _=>.bot
def Zr1 (X:CoCx) (h:Nat) (ex:Bool) (t:Nat):Operand→Arg
 | .tmp t=>.t t
 | .const v=>.c (Zzy X h ex t v)
 | .func f=>.f f
 | .global g=>.g g
def Zw2 (X:CoCx) (h:Nat) (ex:Bool):List Operand→List Nat→List Arg
 | x::r,t::ts=>Zr1 X h ex t x::Zw2 X h ex r ts
 | x::r,[]=>Zr1 X h ex 0 x::Zw2 X h ex r []
 | [],_=>[]
def Zzz (X:CoCx) (h:Nat) (c:Call):AOp:=
 let ts:=c.argTypes.toList
 let t:=ZvB 0 ts 0
 match c.callee,c.args.toList with
 | .builtin .len,[x]=>.len (match X.T t with | .s=>0 | .sl _ _=>1 | _=>2) (Zr1 X h false t x)
 | .builtin .min,[x,y]=>.mm false (Zr1 X h false t x) (Zr1 X h false t y)
 | .builtin .max,[x,y]=>.mm true (Zr1 X h false t x) (Zr1 X h false t y)
 | .builtin .append,[x,y]=>
  bif h % 16==3 then .apa (Zvk X (ZvC X t)) (ZwL X t) (Zr1 X h true t x) (Zr1 X h false t y) else bif h % 16==2 then .apr (Zvk X (ZvC X t)) (ZwL X t) (Zr1 X h true t x) (Zr1 X h false t y) else .app (h % 16==1) (Zvk X (ZvC X t)) (ZwL X t) (Zr1 X h true t x) (Zr1 X h false t y)
 | .value (.func f),l=>.call (h % 2==0) f (Zw2 X h (h / 2 % 2==1) l ts)
 | .value x,l=>.callv (h % 2==0) (Zr1 X h false 0 x) (Zw2 X h false l ts)
 | _,_=>.bad
def ZzA (X:CoCx) (h:Nat) (ty:Nat):Op→AOp
 | .move x | .assign x=>bif h % 16==1 then .own (Zvk X (ZvC X ty)) else bif h % 16==2 then .rel (Zr1 X h false ty x) else .mv (Zr1 X h false ty x)
 | .pick a b c=>.pick (Zr1 X h false 0 a) (Zr1 X h false ty b) (Zr1 X h false ty c)
 | .alloc t=>bif h % 2==0 then .ibox (Zvk X t) (.c (bif h / 2 % 2==1 then ZxZ (ZvK X true t) else ZvK X true t)) else .box (Zvk X t) (.c (bif h / 2 % 2==1 then ZxZ (ZvK X true t) else ZvK X true t))
 | .box t x=>bif h % 2==0 then .ibox (Zvk X t) (Zr1 X h false t x) else .box (Zvk X t) (Zr1 X h false t x)
 | .build t ps=>match X.T t with
  | .ar _ e=>.build (Zw0 X.T X.e 9 t) (ps.toList.map fun p=>(p.1 * Zvk X e,Zvk X e,Zr1 X h false e p.2))
  | _=>.build (bif h==1 then (Zw0 X.T X.e 9 t).map (ZwJ true) else Zw0 X.T X.e 9 t) (ps.toList.map fun p=>(ZwM X t p.1,Zvk X (ZvB 0 (Zwp X t) p.1),Zr1 X h false (ZvB 0 (Zwp X t) p.1) p.2))
 | .buildSlice t n ps=>.bsl (h % 2==0) (h / 2 % 2==1) (Zvk X (ZvC X t)) (ZvK X false (ZvC X t)) n (ps.toList.map fun p=>(p.1,Zr1 X h false (ZvC X t) p.2))
 | .load t x=>bif h==0 then .load (ZwK X t) (Zr1 X h false 0 x) else .ldr (Zvk X t) h (Zr1 X 0 false 0 x)
 | .store t a x=>.store (Zvk X t) (Zr1 X h false 0 a) (Zr1 X h false t x)
 | .nilCheck x=>.nilck (Zr1 X h false 0 x)
 | .binOp op t x y _=>match op,X.T t with
  | .eql,.i _ | .neq,.i _ | .eql,.s | .neq,.s=>.bin op (Zr1 X h false t x) (Zr1 X h false t y)
  | .eql,.p=>.isn false (Zr1 X h false t x)
  | .neq,.p=>.isn true (Zr1 X h false t x)
  | .eql,k=>.eqv false (Zw1 k) (ZvR X.T 9 t) (Zr1 X h false t x) (Zr1 X h false t y)
  | .neq,k=>.eqv true (Zw1 k) (ZvR X.T 9 t) (Zr1 X h false t x) (Zr1 X h false t y)
  | _,_=>.bin op (Zr1 X h false t x) (Zr1 X h false t y)
 | .unOp op t x=>.un op (Zr1 X h false t x)
 | .convert _ d x=>.conv (match X.T d with | .i k=>some k | _=>none) (Zr1 X h false d x)
 | .field t x i=>.fld (ZwK X (ZvB 0 (Zwp X t) i)) (ZwM X t i) (Zr1 X h false t x)
 | .fieldAddr t x i=>.fadr (ZwM X t i) (Zr1 X h false t x)
 | .indexAddr t x i=>match X.T t with
  | .ar n e=>.aadr (Zvk X e) n (Zr1 X h false 0 x) (Zr1 X h false 0 i)
  | _=>.iadr (Zvk X (ZvC X t)) (Zr1 X h false t x) (Zr1 X h false 0 i)
 | .index t x i=>match X.T t with
  | .ar n e=>.aidx (ZwK X e) (Zvk X e) n (Zr1 X h false t x) (Zr1 X h false 0 i)
  | _=>.sidx (Zr1 X h false 0 x) (Zr1 X h false 0 i)
 | .extract x i=>.ext (Zr1 X h false 0 x) i
 | .makeFunc fn a b=>.mkf fn (Zw2 X h false a.toList []) (Zw2 X h false b.toList [])
 | .makeMap _ _=>.mkm
 | .insert t m k v=>match X.T t with
  | .mp a b=>.ins (Zw1 (X.T a)) (ZvR X.T 9 a) (Zr1 X h false 0 m) (Zr1 X h false a k) (Zr1 X h false b v)
  | _=>.bad
 | .mapUpdate t m k v=>match X.T t with
  | .mp a b=>.mupd (Zw1 (X.T a)) (ZvR X.T 9 a) (Zr1 X h false 0 m) (Zr1 X h false a k) (Zr1 X h false b v)
  | _=>.bad
 | .lookup t m k ok=>match X.T t with
  | .mp a b=>.lkp (Zw1 (X.T a)) (ZvR X.T 9 a) ok (ZvK X (h==1) b) (Zr1 X h false 0 m) (Zr1 X h false a k)
  | _=>.bad
 | .makeSlice t l c=>.mks (Zvk X (ZvC X t)) (ZvK X false (ZvC X t)) (ZwL X t) (Zr1 X h false 0 l) (Zr1 X h false 0 c)
 | .slice t x a b c=>match X.T t with
  | .s=>.ssl (Zr1 X h false t x) (a.map (Zr1 X h false 0)) (b.map (Zr1 X h false 0))
  | _=>.slc (Zvk X (ZvC X t)) (Zr1 X h false t x) (a.map (Zr1 X h false 0)) (b.map (Zr1 X h false 0)) (c.map (Zr1 X h false 0))
 | .range _ x=>.rng (Zr1 X h false 0 x)
 | .next x _=>.nxt (Zr1 X h false 0 x)
 | .makeInterface t x=>.mkif t (Zr1 X h false t x)
 | .call c=>Zzz X h c
 | _=>.bad
def Zwq:Operand→Nat
 | .tmp t=>1 <<< t
 | _=>0
def ZwN (l:List Operand):Nat:=l.foldr (fun x m=>Zwq x ||| m) 0
def ZzB:Op→List Operand
 | .call c=>(match c.callee with | .value f=>[f] | _=>[])++c.args.toList
 | .build _ ps | .buildSlice _ _ ps=>ps.toList.map (·.2)
 | .makeFunc _ a b=>a.toList++b.toList
 | .slice _ x a b c=>x::(a.toList++(b.toList++c.toList))
 | .makeMap _ r=>r.toList
 | .move x | .assign x | .box _ x | .load _ x | .nilCheck x | .unOp _ _ x | .convert _ _ x | .makeInterface _ x | .fieldAddr _ x _ | .field _ x _ | .range _ x | .next x _ | .extract x _=>[x]
 | .pick c a b=>[c,a,b]
 | .store _ a v | .binOp _ _ a v _ | .makeSlice _ a v | .indexAddr _ a v | .index _ a v | .lookup _ a v _=>[a,v]
 | .mapUpdate _ m k v | .insert _ m k v=>[m,k,v]
 | _=>[]
def ZwO (l:List Oper) (j:Nat):Option Nat:=match l with
 | []=>none
 | o::r=>bif j==0 then o.dst else ZwO r (j - 1)
def ZzC (ops:List Oper):Option (Nat×Bool)→Nat
 | some (j,_)=>(match ZwO ops j with | some d=>1 <<< d | none=>0)
 | none=>0
def Zy0 (ops:List Oper) (o:Oper) (m:Nat):Nat:=
 (match o.dst with | some d=>(m ||| (1 <<< d)) ^^^ (1 <<< d) | none=>m) ||| (ZwN (ZzB o.op) ||| ZzC ops o.guard)
def ZvO:List (Nat×Nat)→Nat→Nat
 | [],_=>0
 | p::r,i=>bif p.1==i then p.2 else ZvO r i
def Zy1 (f:Nat→Nat):Nat→Nat→Nat
 | 0,l=>l
 | n+1,l=>(fun m=>bif m==l then l else Zy1 f n m) (l ||| f l)
def ZzD (x:List (Nat×Nat)):Nat:=x.foldr (fun p m=>p.2 ||| m) 0
def ZvD:List (Nat×Nat)→Nat→Code→Nat→Nat
 | _,_,.region _ ops _,out=>ops.toList.foldr (Zy0 ops.toList) out
 | x,rt,.seq a b,out=>ZvD x rt a (ZvD x rt b out)
 | x,rt,.cond c a b,out=>Zwq c ||| (ZvD x rt a out ||| ZvD x rt b out)
 | x,rt,.block id b,out=>ZvD ((id,out)::x) rt b out
 | x,rt,.loop b,_=>Zy1 (fun l=>ZvD x rt b l) 8 0
 | x,rt,.rangeFunc f ps a b,out=>(fun m=>Zwq f ||| (((m ||| ZwN (ps.toList.map .tmp)) ^^^ ZwN (ps.toList.map .tmp)) ||| (out ||| (ZzD x ||| rt)))) (ZvD [] 0 a (ZvD [] 0 b 0))
 | x,_,.exit id,_=>ZvO x id
 | _,rt,.ret,_=>rt
 | _,_,_,out=>out
def Zw3:List (Nat×Nat)→Nat→Code→Nat
 | x,_,.exit i=>ZvO x i
 | _,rt,.ret=>rt
 | x,rt,.seq a b | x,rt,.cond _ a b | x,rt,.rangeFunc _ _ a b=>Zw3 x rt a ||| Zw3 x rt b
 | x,rt,.block id b=>Zw3 ((id,0)::x) rt b
 | x,rt,.loop b=>Zw3 x rt b
 | _,_,_=>0
def Zvs:Code→Nat
 | .seq a b | .cond _ a b=>Zvs a+Zvs b
 | .block _ b=>Zvs b
 | .loop b=>Zvs b+1
 | .rangeFunc _ _ a b=>Zvs a+Zvs b+1
 | _=>0
def ZwP:List Nat→Nat→Nat→List Nat→List Nat
 | [],o,m,acc=>bif m==0 then acc else o::acc
 | k::r,o,m,acc=>bif m==0 then acc else ZwP r o (m ^^^ ((m >>> k) <<< k)) (ZwP r (o+k) (m >>> k) acc)
def Zw9 (m:Nat):List Nat:=ZwP [256,128,64,32,16,8,4,2,1] 0 m []
def ZzE (ops:List Oper):Option (Nat×Bool)→Option (Nat×Bool)
 | some (j,b)=>(match ZwO ops j with | some d=>some (d,b) | none=>none)
 | none=>none
def ZwQ (X:CoCx) (ops:List Oper) (r:Nat):List Oper→Nat→List AOper
 | [],_=>[]
 | o::l,i=>⟨o.dst,ZzA X (ZvO X.H (100 * r+i)) o.type o.op,ZzE ops o.guard⟩::ZwQ X ops r l (i+1)
def Zy2 (ms:List Nat):Nat→Nat
 | 0=>0
 | i+1=>bif ZvB 0 ms i % 2 ^ i==2 ^ i - 1 then Zy2 ms i else i+1
def ZwR (m:Nat) (q:AOp):List AOper→Nat→List Nat
 | [],_=>[]
 | p::l,j=>bif m % 2==1||X3 q&&X3 p.op then ZwR (m / 2) q l (j+1) else j::ZwR (m / 2) q l (j+1)
def Zy3 (ms:List Nat) (p1:List AOper):List AOper→Nat→List (List Nat)
 | [],_=>[]
 | q::l,i=>ZwR (ZvB 0 ms i) q.op (p1.take i) 0::Zy3 ms p1 l (i+1)
def ZzF (ms:List Nat) (qs:List AOper):ACode:=(fun k=>.draw (Zy3 ms (qs.take k) (qs.take k) 0) (qs.take k) (qs.drop k)) (Zy2 ms qs.length)
def ZFK (n:Nat) (l:List (Nat×Nat)):List (Nat×Nat):=bif n==0 then l else (n / 100 - 1,n % 100)::l
def ZzG (X:CoCx) (r:Nat) (ops:List Oper) (out:Nat) (qs:List AOper):ACode:=
 bif ZvO X.H (100 * r+99)==0 then (bif Nat.blt 2 qs.length then .keep (Zw9 out) (.region qs) else .region qs) else
 match qs,ops with
 | [⟨some d,.fadr off p,_⟩,⟨_,.store _ _ (.c (.isl _ _ s _)),_⟩],_=>.nils s d off p
 | [⟨some d,_,_⟩],[o]=>match o.op with
  | .alloc t=>.zbox d (Zvk X t) (ZvK X true t) (ZFK (ZvO X.H (100 * r+99)) (ZFK (ZvO X.H (100 * r+98)) []))
  | _=>.bad
 | _,_=>.bad
def ZvL (X:CoCx):List (Nat×Nat)→Nat→Nat→Code→Nat→ACode×Nat×List ACode
 | _,_,_,.skip,out=>(.skip,out,[])
 | _,_,_,.label _,out=>(.skip,out,[])
 | _,_,_,.region r ops d,out=>
  (bif d then .keep (Zw9 out) (ZzF (YS ops.toList []) (ZwQ X ops.toList r ops.toList 0)) else ZzG X r ops.toList out (ZwQ X ops.toList r ops.toList 0),ops.toList.foldr (Zy0 ops.toList) out,[])
 | x,rt,k,.seq a b,out=>
  match ZvL X x rt (k+Zvs a) b out with
  | (cb,lb,db)=>match ZvL X x rt k a lb with
   | (ca,la,da)=>(.seq ca cb,la,da++db)
 | x,rt,k,.cond c a b,out=>
  match ZvL X x rt k a out,ZvL X x rt (k+Zvs a) b out with
  | (ca,la,da),(cb,lb,db)=>(.cond (Zr1 X 0 false 0 c) ca cb,Zwq c ||| (la ||| lb),da++db)
 | x,rt,k,.block id b,out=>
  match ZvL X ((id,out)::x) rt k b out with
  | (cb,lb,db)=>(.keep (Zw9 (out ||| Zw3 x rt (.block id b))) (.block id cb),lb,db)
 | x,rt,k,.loop b,_=>
  (fun l=>match ZvL X x rt k b l with
   | (cb,_,db)=>(X.N (2 * (k+Zvs b)+1),l,db++[.keep (Zw9 (l ||| Zw3 x rt b)) cb,.loop (Zw9 l) (X.N (2 * (k+Zvs b)))])) (ZvD x rt (.loop b) 0)
 | x,rt,k,.rangeFunc f ps a b,out=>
  match ZvL X [] 0 k a (ZvD [] 0 b 0),ZvL X [] 0 (k+Zvs a) b 0 with
  | (ca,_,da),(cb,_,db)=>(.rangeFunc (Zr1 X 0 false 0 f) ps.toList (X.N (2 * (k+Zvs a+Zvs b))) (X.N (2 * (k+Zvs a+Zvs b)+1)),ZvD x rt (.rangeFunc f ps a b) out,da++(db++[ca,cb]))
 | x,_,_,.exit id,_=>(.exit id,ZvO x id,[])
 | _,rt,_,.ret,_=>(.ret,rt,[])
 | _,_,_,_,out=>(.bad,out,[])
def Zy4 (f:Func):Nat:=f.results.toList.foldr (fun r m=>(match r with | .tmp t=>1 <<< t | .cell t _=>1 <<< t) ||| m) 0
def ZzH (X:CoCx) (f:Func):List ACode:=
 match f.body with
 | some c=>match ZvL X [] (Zy4 f) 0 c (Zy4 f) with
  | (q,_,ds)=>ds++[q]
 | none=>[]
abbrev CoV {α:Type} (a:α):={c:α // a=c}
def coY (X:(Nat→ACode)→List ACode) (l:List ACode) (n:Nat):ACode:=ZvB .bad (X (ZvB .bad l)) n
def Zr2:ACode→List Nat→ACode
 | c,[]=>c
 | .seq a b,i::r=>bif i==0 then Zr2 a r else Zr2 b r
 | .cond _ a b,i::r=>bif i==0 then Zr2 a r else Zr2 b r
 | .block _ a,_::r=>Zr2 a r
 | .keep _ a,_::r=>Zr2 a r
 | .loop _ a,_::r=>Zr2 a r
 | c,_=>c
def Zvt (t:Nat):List (Nat×CoTy)→CoTy
 | []=>.i .i64
 | p::r=>bif p.1==t then p.2 else Zvt t r
end Go.AM
set_option maxRecDepth 100000
namespace Go.AM
open Go Go.Proofs.Tryz
def coT (t:Nat):CoTy:=bif Nat.blt t 26 then Zvt t [(4,.b),(5,.i .u8),(9,.s),(21,.i .i32),(22,.sl 93 88),(23,.sl 96 80),(24,.sl 98 56),(25,.sl 60 184)] else bif Nat.blt t 40 then Zvt t [(26,.sl 100 72),(27,.sl 164 16),(29,.st [22,23,24,25,26,27,27]),(30,.sl 45 32),(33,.sl 50 168),(35,.o),(37,.sl 9 16),(38,.sl 90 32)] else bif Nat.blt t 65 then Zvt t [(40,.st [37,38]),(41,.sl 78 136),(45,.st [9,9]),(50,.st [9,40,40,4,41,41]),(52,.o),(56,.st [3,9,3,3]),(58,.st [3,3]),(60,.st [9,9,9,3,56,58,3,3,37,3,3,9])] else bif Nat.blt t 79 then Zvt t [(65,.sl 131 40),(66,.sl 58 16),(67,.sl 102 72),(69,.st [3,3,3,3,3,9,9,9,37,65,56,58,66,67]),(70,.f),(71,.o),(74,.o),(78,.st [9,9,9,9,9,56,58])] else bif Nat.blt t 100 then Zvt t [(79,.o),(82,.st [40,41]),(85,.f),(86,.o),(90,.st [9,3,3]),(93,.st [9,3,3,66,65,3]),(96,.st [9,3,66,65,3]),(98,.st [9,3,66,3])] else bif Nat.blt t 121 then Zvt t [(100,.st [9,9,9,3,3,3]),(102,.st [9,56,58]),(104,.f),(106,.p),(107,.ar 16 104),(110,.st [29,3,69,37]),(116,.mp 9 4),(117,.f)] else bif Nat.blt t 138 then Zvt t [(121,.f),(122,.f),(124,.st [29,122]),(127,.f),(129,.f),(131,.st [9,3,9]),(133,.ar 16 70),(137,.p)] else bif Nat.blt t 156 then Zvt t [(138,.f),(141,.p),(142,.f),(146,.f),(149,.p),(150,.f),(152,.sl 3 8),(155,.p)] else bif Nat.blt t 171 then Zvt t [(156,.f),(158,.f),(160,.p),(161,.f),(164,.ar 2 3),(165,.mp 167 4),(167,.st [9,56]),(169,.sl 210 48)] else bif Nat.blt t 186 then Zvt t [(171,.o),(173,.f),(174,.mp 3 4),(177,.sl 27 24),(178,.sl 182 40),(179,.o),(182,.st [3,3,3,9]),(184,.f)] else bif Nat.blt t 210 then Zvt t [(186,.f),(187,.f),(191,.f),(196,.f),(199,.f),(201,.f),(206,.f),(208,.f)] else bif Nat.blt t 239 then Zvt t [(210,.st [9,3,66]),(211,.o),(216,.ar 256 3),(219,.st [9,216]),(221,.o),(225,.sl 58 16),(231,.f),(233,.sl 56 40)] else bif Nat.blt t 283 then Zvt t [(239,.f),(249,.o),(255,.f),(256,.p),(260,.j),(261,.o),(275,.f),(280,.mp 131 4)] else bif Nat.blt t 314 then Zvt t [(283,.st [3,3]),(284,.ar 28 283),(287,.mp 56 4),(288,.f),(306,.f),(308,.st [58,58]),(310,.st [3,3]),(312,.st [308,310])] else Zvt t [(314,.f)]
abbrev CoX (e:ByteArray) (S:List (Nat×ByteArray)) (H:List (Nat×Nat)) (f:Func) (N:Nat→ACode):List ACode:=ZzH ⟨coT,e,S,H,N⟩ f
abbrev CoW (H:List (Nat×Nat)) (f:Func) (e:ByteArray):ACode:=coY (CoX e [] H f) [] 0
abbrev CoU (X:ByteArray→(Nat→ACode)→List ACode) (e:ByteArray) (l:List ACode) (n:Nat):ACode:=coY (X e) l n
def c8:=(fun e s0=>(⟨_,by cbv⟩:CoV (coY (CoX e [(375,s0)] [(406,1)] f8) [] 0)).1) emp (B [119])
def c9:=(fun e s0 s1 s2 s3 s4=>(⟨_,by cbv⟩:CoV (coY (CoX e [(91441,s0),(91442,s1),(91443,s2),(96049,s3),(96050,s4)] [(104,1),(105,1),(602,1),(702,1),(805,1),(910,1),(1008,1)] f9) [] 0)).1) emp (B [101,49]) (B [101,50]) (B [101,51]) (B [119,49]) (B [119,50])
def X11 (e) (N):=(⟨_,by cbv⟩:CoV (CoX e [] [(399,108),(300,1),(702,1),(802,1)] f11 N)).1
def c11L0b:=(fun e=>(⟨_,by cbv⟩:CoV (CoU X11 e [] 0)).1) emp
def c11L0:=(fun e a=>(⟨_,by cbv⟩:CoV (CoU X11 e [a] 1)).1) emp c11L0b
def c11:=(fun e a b=>(⟨_,by cbv⟩:CoV (CoU X11 e [a,b] 2)).1) emp c11L0b c11L0
def X14 (e) (N):=(⟨_,by cbv⟩:CoV (CoX e [] [] f14 N)).1
def c14L0b:=(fun e=>(⟨_,by cbv⟩:CoV (CoU X14 e [] 0)).1) emp
def c14L0:=(fun e a=>(⟨_,by cbv⟩:CoV (CoU X14 e [a] 1)).1) emp c14L0b
def c14:=(fun e a b=>(⟨_,by cbv⟩:CoV (CoU X14 e [a,b] 2)).1) emp c14L0b c14L0
def X16 (e) (N):=(⟨_,by cbv⟩:CoV (CoX e [] [(2105,1)] f16 N)).1
def c16L0b:=(fun e=>(⟨_,by cbv⟩:CoV (CoU X16 e [] 0)).1) emp
def c16L0:=(fun e a=>(⟨_,by cbv⟩:CoV (CoU X16 e [a] 1)).1) emp c16L0b
def c16L1b:=(fun e a b=>(⟨_,by cbv⟩:CoV (CoU X16 e [a,b] 2)).1) emp c16L0b c16L0
def c16L1:=(fun e a b c=>(⟨_,by cbv⟩:CoV (CoU X16 e [a,b,c] 3)).1) emp c16L0b c16L0 c16L1b
def c16L2b:=(fun e a b c d=>(⟨_,by cbv⟩:CoV (CoU X16 e [a,b,c,d] 4)).1) emp c16L0b c16L0 c16L1b c16L1
def c16L2:=(fun e a b c d g=>(⟨_,by cbv⟩:CoV (CoU X16 e [a,b,c,d,g] 5)).1) emp c16L0b c16L0 c16L1b c16L1 c16L2b
def c16L3b:=(fun e a b c d g h=>(⟨_,by cbv⟩:CoV (CoU X16 e [a,b,c,d,g,h] 6)).1) emp c16L0b c16L0 c16L1b c16L1 c16L2b c16L2
def c16L3:=(fun e a b c d g h i=>(⟨_,by cbv⟩:CoV (CoU X16 e [a,b,c,d,g,h,i] 7)).1) emp c16L0b c16L0 c16L1b c16L1 c16L2b c16L2 c16L3b
def c16L4b:=(fun e a b c d g h i j=>(⟨_,by cbv⟩:CoV (CoU X16 e [a,b,c,d,g,h,i,j] 8)).1) emp c16L0b c16L0 c16L1b c16L1 c16L2b c16L2 c16L3b c16L3
def c16L4:=(fun e a b c d g h i j k=>(⟨_,by cbv⟩:CoV (CoU X16 e [a,b,c,d,g,h,i,j,k] 9)).1) emp c16L0b c16L0 c16L1b c16L1 c16L2b c16L2 c16L3b c16L3 c16L4b
def c16:=(fun e a b c d g h i j k l=>(⟨_,by cbv⟩:CoV (CoU X16 e [a,b,c,d,g,h,i,j,k,l] 10)).1) emp c16L0b c16L0 c16L1b c16L1 c16L2b c16L2 c16L3b c16L3 c16L4b c16L4
def X17 (e) (N):=(⟨_,by cbv⟩:CoV (CoX e [] [(1,1),(101,2),(103,1),(402,1)] f17 N)).1
def c17L0b:=(fun e=>(⟨_,by cbv⟩:CoV (CoU X17 e [] 0)).1) emp
def c17L0:=(fun e a=>(⟨_,by cbv⟩:CoV (CoU X17 e [a] 1)).1) emp c17L0b
def c17:=(fun e a b=>(⟨_,by cbv⟩:CoV (CoU X17 e [a,b] 2)).1) emp c17L0b c17L0
def X20 (e) (N):=(⟨_,by cbv⟩:CoV (CoX e [] [] f20 N)).1
def c20L0b:=(fun e=>(⟨_,by cbv⟩:CoV (CoU X20 e [] 0)).1) emp
def c20L0:=(fun e a=>(⟨_,by cbv⟩:CoV (CoU X20 e [a] 1)).1) emp c20L0b
def c20:=(fun e a b=>(⟨_,by cbv⟩:CoV (CoU X20 e [a,b] 2)).1) emp c20L0b c20L0
def X21 (e) (N):=(⟨_,by cbv⟩:CoV (CoX e [] [(2,1),(301,1),(406,1),(505,1)] f21 N)).1
def s21p0:=(fun e=>(⟨_,by cbv⟩:CoV (Zr2 (CoU X21 e [] 0) [0])).1) emp
def s21p1:=(fun e=>(⟨_,by cbv⟩:CoV (Zr2 (CoU X21 e [] 0) [1,0])).1) emp
def s21p2:=(fun e=>(⟨_,by cbv⟩:CoV (Zr2 (CoU X21 e [] 0) [1,1,0])).1) emp
def s21p3:=(fun e=>(⟨_,by cbv⟩:CoV (Zr2 (CoU X21 e [] 0) [1,1,1,0])).1) emp
def s21p4:=(fun e=>(⟨_,by cbv⟩:CoV (Zr2 (CoU X21 e [] 0) [1,1,1,1,0])).1) emp
def s21p5:=(fun e=>(⟨_,by cbv⟩:CoV (Zr2 (CoU X21 e [] 0) [1,1,1,1,1,0])).1) emp
def s21p6:=(fun e=>(⟨_,by cbv⟩:CoV (Zr2 (CoU X21 e [] 0) [1,1,1,1,1,1,0])).1) emp
def c21:ACode:=.seq s21p0 (.seq s21p1 (.seq s21p2 (.seq s21p3 (.seq s21p4 (.seq s21p5 (.seq s21p6 .ret))))))
def c22:=(fun e s0 s1 s2 s3 s4 s5 s6=>(⟨_,by cbv⟩:CoV (coY (CoX e [(371,s0),(354,s1),(91441,s2),(360,s3),(376,s4),(91442,s5),(91443,s6)] [(0,1),(1,1),(204,2),(212,1),(311,1)] f22) [] 0)).1) emp (B [115]) (B [98]) (B [101,49]) (B [104]) (B [120]) (B [101,50]) (B [101,51])
def c23:=(fun e s0 s1 s2 s3 s4 s5=>(⟨_,by cbv⟩:CoV (coY (CoX e [(96049,s0),(91441,s1),(96050,s2),(91442,s3),(96051,s4),(360,s5)] [] f23) [] 0)).1) emp (B [119,49]) (B [101,49]) (B [119,50]) (B [101,50]) (B [119,51]) (B [104])
def c24:=(fun e=>(⟨_,by cbv⟩:CoV (CoW [(1,1)] f24 e)).1) emp
def X25 (e) (N):=(⟨_,by cbv⟩:CoV (CoX e [] [(302,1),(902,1),(1502,1),(2103,1),(2702,1)] f25 N)).1
def c25L0b:=(fun e=>(⟨_,by cbv⟩:CoV (CoU X25 e [] 0)).1) emp
def c25L0:=(fun e a=>(⟨_,by cbv⟩:CoV (CoU X25 e [a] 1)).1) emp c25L0b
def c25L1b:=(fun e a b=>(⟨_,by cbv⟩:CoV (CoU X25 e [a,b] 2)).1) emp c25L0b c25L0
def c25L1:=(fun e a b c=>(⟨_,by cbv⟩:CoV (CoU X25 e [a,b,c] 3)).1) emp c25L0b c25L0 c25L1b
def c25L2b:=(fun e a b c d=>(⟨_,by cbv⟩:CoV (CoU X25 e [a,b,c,d] 4)).1) emp c25L0b c25L0 c25L1b c25L1
def c25L2:=(fun e a b c d g=>(⟨_,by cbv⟩:CoV (CoU X25 e [a,b,c,d,g] 5)).1) emp c25L0b c25L0 c25L1b c25L1 c25L2b
def c25L3b:=(fun e a b c d g h=>(⟨_,by cbv⟩:CoV (CoU X25 e [a,b,c,d,g,h] 6)).1) emp c25L0b c25L0 c25L1b c25L1 c25L2b c25L2
def c25L3:=(fun e a b c d g h i=>(⟨_,by cbv⟩:CoV (CoU X25 e [a,b,c,d,g,h,i] 7)).1) emp c25L0b c25L0 c25L1b c25L1 c25L2b c25L2 c25L3b
def c25L4b:=(fun e a b c d g h i j=>(⟨_,by cbv⟩:CoV (CoU X25 e [a,b,c,d,g,h,i,j] 8)).1) emp c25L0b c25L0 c25L1b c25L1 c25L2b c25L2 c25L3b c25L3
def c25L4:=(fun e a b c d g h i j k=>(⟨_,by cbv⟩:CoV (CoU X25 e [a,b,c,d,g,h,i,j,k] 9)).1) emp c25L0b c25L0 c25L1b c25L1 c25L2b c25L2 c25L3b c25L3 c25L4b
def c25:=(fun e a b c d g h i j k l=>(⟨_,by cbv⟩:CoV (CoU X25 e [a,b,c,d,g,h,i,j,k,l] 10)).1) emp c25L0b c25L0 c25L1b c25L1 c25L2b c25L2 c25L3b c25L3 c25L4b c25L4
def X26 (e) (N):=(⟨_,by cbv⟩:CoV (CoX e [] [(402,1)] f26 N)).1
def c26L0b:=(fun e=>(⟨_,by cbv⟩:CoV (CoU X26 e [] 0)).1) emp
def c26L0:=(fun e a=>(⟨_,by cbv⟩:CoV (CoU X26 e [a] 1)).1) emp c26L0b
def c26:=(fun e a b=>(⟨_,by cbv⟩:CoV (CoU X26 e [a,b] 2)).1) emp c26L0b c26L0
def c27:=(fun e=>(⟨_,by cbv⟩:CoV (CoW [(108,1),(109,1)] f27 e)).1) emp
def X28 (e) (N):=(⟨_,by cbv⟩:CoV (CoX e [] [(1,1),(199,311),(100,1),(606,1)] f28 N)).1
def c28L0b:=(fun e=>(⟨_,by cbv⟩:CoV (CoU X28 e [] 0)).1) emp
def c28L0:=(fun e a=>(⟨_,by cbv⟩:CoV (CoU X28 e [a] 1)).1) emp c28L0b
def c28:=(fun e a b=>(⟨_,by cbv⟩:CoV (CoU X28 e [a,b] 2)).1) emp c28L0b c28L0
def c29:=(fun e=>(⟨_,by cbv⟩:CoV (CoW [] f29 e)).1) emp
def c30:=(fun e=>(⟨_,by cbv⟩:CoV (CoW [(100,2),(101,2)] f30 e)).1) emp
def X31 (e) (N):=(⟨_,by cbv⟩:CoV (CoX e [] [(1,1),(499,101),(498,203),(400,1),(503,1),(600,1),(1102,1),(1105,1)] f31 N)).1
def c31R0a:=(fun e=>(⟨_,by cbv⟩:CoV (CoU X31 e [] 0)).1) emp
def c31R0b:=(fun e a=>(⟨_,by cbv⟩:CoV (CoU X31 e [a] 1)).1) emp c31R0a
def c31:=(fun e a b=>(⟨_,by cbv⟩:CoV (CoU X31 e [a,b] 2)).1) emp c31R0a c31R0b
def X32 (e) (N):=(⟨_,by cbv⟩:CoV (CoX e [] [] f32 N)).1
def c32L0b:=(fun e=>(⟨_,by cbv⟩:CoV (CoU X32 e [] 0)).1) emp
def c32L0:=(fun e a=>(⟨_,by cbv⟩:CoV (CoU X32 e [a] 1)).1) emp c32L0b
def c32:=(fun e a b=>(⟨_,by cbv⟩:CoV (CoU X32 e [a,b] 2)).1) emp c32L0b c32L0
def X33 (e) (N):=(⟨_,by cbv⟩:CoV (CoX e [] [] f33 N)).1
def c33L0b:=(fun e=>(⟨_,by cbv⟩:CoV (CoU X33 e [] 0)).1) emp
def c33L0:=(fun e a=>(⟨_,by cbv⟩:CoV (CoU X33 e [a] 1)).1) emp c33L0b
def c33:=(fun e a b=>(⟨_,by cbv⟩:CoV (CoU X33 e [a,b] 2)).1) emp c33L0b c33L0
def X34 (e) (N):=(⟨_,by cbv⟩:CoV (CoX e [] [] f34 N)).1
def c34L0b:=(fun e=>(⟨_,by cbv⟩:CoV (CoU X34 e [] 0)).1) emp
def c34L0:=(fun e a=>(⟨_,by cbv⟩:CoV (CoU X34 e [a] 1)).1) emp c34L0b
def c34:=(fun e a b=>(⟨_,by cbv⟩:CoV (CoU X34 e [a,b] 2)).1) emp c34L0b c34L0
def c35:=(fun e=>(⟨_,by cbv⟩:CoV (CoW [] f35 e)).1) emp
def c36:=(fun e=>(⟨_,by cbv⟩:CoV (CoW [(302,1)] f36 e)).1) emp
def c37:=(fun e=>(⟨_,by cbv⟩:CoV (CoW [(528,1)] f37 e)).1) emp
def c38:=(fun e=>(⟨_,by cbv⟩:CoV (CoW [(323,1)] f38 e)).1) emp
def c39:=(fun e=>(⟨_,by cbv⟩:CoV (CoW [] f39 e)).1) emp
def c40:=(fun e=>(⟨_,by cbv⟩:CoV (CoW [(618,1),(619,1)] f40 e)).1) emp
def c41:=(fun e=>(⟨_,by cbv⟩:CoV (CoW [(323,1)] f41 e)).1) emp
def c42:=(fun e=>(⟨_,by cbv⟩:CoV (CoW [(827,1)] f42 e)).1) emp
def c43:=(fun e=>(⟨_,by cbv⟩:CoV (CoW [(829,1)] f43 e)).1) emp
def X44 (e) (N):=(⟨_,by cbv⟩:CoV (CoX e [] [(1002,1)] f44 N)).1
def c44L0b:=(fun e=>(⟨_,by cbv⟩:CoV (CoU X44 e [] 0)).1) emp
def c44L0:=(fun e a=>(⟨_,by cbv⟩:CoV (CoU X44 e [a] 1)).1) emp c44L0b
def c44:=(fun e a b=>(⟨_,by cbv⟩:CoV (CoU X44 e [a,b] 2)).1) emp c44L0b c44L0
def X45 (e) (N):=(⟨_,by cbv⟩:CoV (CoX e [] [(100,1),(402,1),(1408,1),(1702,1),(1812,1),(2002,2),(2003,1)] f45 N)).1
def c45L0b:=(fun e=>(⟨_,by cbv⟩:CoV (CoU X45 e [] 0)).1) emp
def c45L0:=(fun e a=>(⟨_,by cbv⟩:CoV (CoU X45 e [a] 1)).1) emp c45L0b
def c45L1b:=(fun e a b=>(⟨_,by cbv⟩:CoV (CoU X45 e [a,b] 2)).1) emp c45L0b c45L0
def c45L1:=(fun e a b c=>(⟨_,by cbv⟩:CoV (CoU X45 e [a,b,c] 3)).1) emp c45L0b c45L0 c45L1b
def c45:=(fun e a b c d=>(⟨_,by cbv⟩:CoV (CoU X45 e [a,b,c,d] 4)).1) emp c45L0b c45L0 c45L1b c45L1
def X46 (e) (N):=(⟨_,by cbv⟩:CoV (CoX e [] [(300,1),(1110,1),(1508,1),(1921,1),(2308,1)] f46 N)).1
def c46L0b:=(fun e=>(⟨_,by cbv⟩:CoV (CoU X46 e [] 0)).1) emp
def c46L0:=(fun e a=>(⟨_,by cbv⟩:CoV (CoU X46 e [a] 1)).1) emp c46L0b
def c46L1b:=(fun e a b=>(⟨_,by cbv⟩:CoV (CoU X46 e [a,b] 2)).1) emp c46L0b c46L0
def c46L1:=(fun e a b c=>(⟨_,by cbv⟩:CoV (CoU X46 e [a,b,c] 3)).1) emp c46L0b c46L0 c46L1b
def c46L2b:=(fun e a b c d=>(⟨_,by cbv⟩:CoV (CoU X46 e [a,b,c,d] 4)).1) emp c46L0b c46L0 c46L1b c46L1
def c46L2:=(fun e a b c d g=>(⟨_,by cbv⟩:CoV (CoU X46 e [a,b,c,d,g] 5)).1) emp c46L0b c46L0 c46L1b c46L1 c46L2b
def c46:=(fun e a b c d g h=>(⟨_,by cbv⟩:CoV (CoU X46 e [a,b,c,d,g,h] 6)).1) emp c46L0b c46L0 c46L1b c46L1 c46L2b c46L2
def X47 (e) (N):=(⟨_,by cbv⟩:CoV (CoX e [] [(903,1),(1102,1)] f47 N)).1
def c47L0b:=(fun e=>(⟨_,by cbv⟩:CoV (CoU X47 e [] 0)).1) emp
def c47L0:=(fun e a=>(⟨_,by cbv⟩:CoV (CoU X47 e [a] 1)).1) emp c47L0b
def c47:=(fun e a b=>(⟨_,by cbv⟩:CoV (CoU X47 e [a,b] 2)).1) emp c47L0b c47L0
def X48 (e) (N):=(⟨_,by cbv⟩:CoV (CoX e [] [(105,1),(1402,1)] f48 N)).1
def s48p0:=(fun e=>(⟨_,by cbv⟩:CoV (Zr2 (CoU X48 e [] 0) [0])).1) emp
def s48p1:=(fun e=>(⟨_,by cbv⟩:CoV (Zr2 (CoU X48 e [] 0) [1,0])).1) emp
def s48p2:=(fun e=>(⟨_,by cbv⟩:CoV (Zr2 (CoU X48 e [] 0) [1,1,0])).1) emp
def s48p3:=(fun e=>(⟨_,by cbv⟩:CoV (Zr2 (CoU X48 e [] 0) [1,1,1,0])).1) emp
def s48p4:=(fun e=>(⟨_,by cbv⟩:CoV (Zr2 (CoU X48 e [] 0) [1,1,1,1,0])).1) emp
def s48p5:=(fun e=>(⟨_,by cbv⟩:CoV (Zr2 (CoU X48 e [] 0) [1,1,1,1,1,0])).1) emp
def s48p6:=(fun e=>(⟨_,by cbv⟩:CoV (Zr2 (CoU X48 e [] 0) [1,1,1,1,1,1,0])).1) emp
def s48p7:=(fun e=>(⟨_,by cbv⟩:CoV (Zr2 (CoU X48 e [] 0) [1,1,1,1,1,1,1,0])).1) emp
def c48:ACode:=.seq s48p0 (.seq s48p1 (.seq s48p2 (.seq s48p3 (.seq s48p4 (.seq s48p5 (.seq s48p6 (.seq s48p7 .ret)))))))
def X49 (e) (N):=(⟨_,by cbv⟩:CoV (CoX e [] [(819,1)] f49 N)).1
def c49L0b:=(fun e=>(⟨_,by cbv⟩:CoV (CoU X49 e [] 0)).1) emp
def c49L0:=(fun e a=>(⟨_,by cbv⟩:CoV (CoU X49 e [a] 1)).1) emp c49L0b
def c49:=(fun e a b=>(⟨_,by cbv⟩:CoV (CoU X49 e [a,b] 2)).1) emp c49L0b c49L0
def c50:=(fun e=>(⟨_,by cbv⟩:CoV (CoW [(119,1)] f50 e)).1) emp
def c51:=(fun e=>(⟨_,by cbv⟩:CoV (CoW [(317,1)] f51 e)).1) emp
def X52 (e) (N):=(⟨_,by cbv⟩:CoV (CoX e [] [(100,1),(402,1),(902,1),(1402,1),(1902,1),(2402,1)] f52 N)).1
def c52L0b:=(fun e=>(⟨_,by cbv⟩:CoV (CoU X52 e [] 0)).1) emp
def c52L0:=(fun e a=>(⟨_,by cbv⟩:CoV (CoU X52 e [a] 1)).1) emp c52L0b
def c52L1b:=(fun e a b=>(⟨_,by cbv⟩:CoV (CoU X52 e [a,b] 2)).1) emp c52L0b c52L0
def c52L1:=(fun e a b c=>(⟨_,by cbv⟩:CoV (CoU X52 e [a,b,c] 3)).1) emp c52L0b c52L0 c52L1b
def c52L2b:=(fun e a b c d=>(⟨_,by cbv⟩:CoV (CoU X52 e [a,b,c,d] 4)).1) emp c52L0b c52L0 c52L1b c52L1
def c52L2:=(fun e a b c d g=>(⟨_,by cbv⟩:CoV (CoU X52 e [a,b,c,d,g] 5)).1) emp c52L0b c52L0 c52L1b c52L1 c52L2b
def c52L3b:=(fun e a b c d g h=>(⟨_,by cbv⟩:CoV (CoU X52 e [a,b,c,d,g,h] 6)).1) emp c52L0b c52L0 c52L1b c52L1 c52L2b c52L2
def c52L3:=(fun e a b c d g h i=>(⟨_,by cbv⟩:CoV (CoU X52 e [a,b,c,d,g,h,i] 7)).1) emp c52L0b c52L0 c52L1b c52L1 c52L2b c52L2 c52L3b
def c52L4b:=(fun e a b c d g h i j=>(⟨_,by cbv⟩:CoV (CoU X52 e [a,b,c,d,g,h,i,j] 8)).1) emp c52L0b c52L0 c52L1b c52L1 c52L2b c52L2 c52L3b c52L3
def c52L4:=(fun e a b c d g h i j k=>(⟨_,by cbv⟩:CoV (CoU X52 e [a,b,c,d,g,h,i,j,k] 9)).1) emp c52L0b c52L0 c52L1b c52L1 c52L2b c52L2 c52L3b c52L3 c52L4b
def c52:=(fun e a b c d g h i j k l=>(⟨_,by cbv⟩:CoV (CoU X52 e [a,b,c,d,g,h,i,j,k,l] 10)).1) emp c52L0b c52L0 c52L1b c52L1 c52L2b c52L2 c52L3b c52L3 c52L4b c52L4
def X53 (e) (N):=(⟨_,by cbv⟩:CoV (CoX e [] [(402,1),(505,1)] f53 N)).1
def c53L0b:=(fun e=>(⟨_,by cbv⟩:CoV (CoU X53 e [] 0)).1) emp
def c53L0:=(fun e a=>(⟨_,by cbv⟩:CoV (CoU X53 e [a] 1)).1) emp c53L0b
def c53:=(fun e a b=>(⟨_,by cbv⟩:CoV (CoU X53 e [a,b] 2)).1) emp c53L0b c53L0
def c54:=(fun e=>(⟨_,by cbv⟩:CoV (CoW [] f54 e)).1) emp
def c55:=(fun e=>(⟨_,by cbv⟩:CoV (CoW [(2,1),(102,1)] f55 e)).1) emp
def c56:=(fun e s0=>(⟨_,by cbv⟩:CoV (coY (CoX e [(376,s0)] [(104,2)] f56) [] 0)).1) emp (B [120])
def c57:=(fun e=>(⟨_,by cbv⟩:CoV (CoW [(0,1)] f57 e)).1) emp
def X58 (e) (N):=(⟨_,by cbv⟩:CoV (CoX e [] [(105,1)] f58 N)).1
def c58L0b:=(fun e=>(⟨_,by cbv⟩:CoV (CoU X58 e [] 0)).1) emp
def c58L0:=(fun e a=>(⟨_,by cbv⟩:CoV (CoU X58 e [a] 1)).1) emp c58L0b
def s58p0:=(fun e a b=>(⟨_,by cbv⟩:CoV (Zr2 (CoU X58 e [a,b] 2) [0])).1) emp c58L0b c58L0
def s58p1:=(fun e a b=>(⟨_,by cbv⟩:CoV (Zr2 (CoU X58 e [a,b] 2) [1,0])).1) emp c58L0b c58L0
def s58p2:=(fun e a b=>(⟨_,by cbv⟩:CoV (Zr2 (CoU X58 e [a,b] 2) [1,1,0])).1) emp c58L0b c58L0
def s58p3:=(fun e a b=>(⟨_,by cbv⟩:CoV (Zr2 (CoU X58 e [a,b] 2) [1,1,1,0])).1) emp c58L0b c58L0
def s58p4:=(fun e a b=>(⟨_,by cbv⟩:CoV (Zr2 (CoU X58 e [a,b] 2) [1,1,1,1,0])).1) emp c58L0b c58L0
def s58p5:=(fun e a b=>(⟨_,by cbv⟩:CoV (Zr2 (CoU X58 e [a,b] 2) [1,1,1,1,1,0])).1) emp c58L0b c58L0
def s58p6:=(fun e a b=>(⟨_,by cbv⟩:CoV (Zr2 (CoU X58 e [a,b] 2) [1,1,1,1,1,1,0])).1) emp c58L0b c58L0
def s58p7:=(fun e a b=>(⟨_,by cbv⟩:CoV (Zr2 (CoU X58 e [a,b] 2) [1,1,1,1,1,1,1,0])).1) emp c58L0b c58L0
def s58p8:=(fun e a b=>(⟨_,by cbv⟩:CoV (Zr2 (CoU X58 e [a,b] 2) [1,1,1,1,1,1,1,1,0])).1) emp c58L0b c58L0
def s58p9:=(fun e a b=>(⟨_,by cbv⟩:CoV (Zr2 (CoU X58 e [a,b] 2) [1,1,1,1,1,1,1,1,1,0])).1) emp c58L0b c58L0
def s58p10:=(fun e a b=>(⟨_,by cbv⟩:CoV (Zr2 (CoU X58 e [a,b] 2) [1,1,1,1,1,1,1,1,1,1,0])).1) emp c58L0b c58L0
def c58:ACode:=.seq s58p0 (.seq s58p1 (.seq s58p2 (.seq s58p3 (.seq s58p4 (.seq s58p5 (.seq s58p6 (.seq s58p7 (.seq s58p8 (.seq s58p9 (.seq s58p10 .ret))))))))))
def c59:=(fun e=>(⟨_,by cbv⟩:CoV (CoW [(100,2),(101,1),(301,1),(401,1)] f59 e)).1) emp
def X60 (e) (N):=(⟨_,by cbv⟩:CoV (CoX e [] [(702,1),(1502,1)] f60 N)).1
def c60L0b:=(fun e=>(⟨_,by cbv⟩:CoV (CoU X60 e [] 0)).1) emp
def c60L0:=(fun e a=>(⟨_,by cbv⟩:CoV (CoU X60 e [a] 1)).1) emp c60L0b
def c60L1b:=(fun e a b=>(⟨_,by cbv⟩:CoV (CoU X60 e [a,b] 2)).1) emp c60L0b c60L0
def c60L1:=(fun e a b c=>(⟨_,by cbv⟩:CoV (CoU X60 e [a,b,c] 3)).1) emp c60L0b c60L0 c60L1b
def c60L2b:=(fun e a b c d=>(⟨_,by cbv⟩:CoV (CoU X60 e [a,b,c,d] 4)).1) emp c60L0b c60L0 c60L1b c60L1
def c60L2:=(fun e a b c d g=>(⟨_,by cbv⟩:CoV (CoU X60 e [a,b,c,d,g] 5)).1) emp c60L0b c60L0 c60L1b c60L1 c60L2b
def c60L3b:=(fun e a b c d g h=>(⟨_,by cbv⟩:CoV (CoU X60 e [a,b,c,d,g,h] 6)).1) emp c60L0b c60L0 c60L1b c60L1 c60L2b c60L2
def c60L3:=(fun e a b c d g h i=>(⟨_,by cbv⟩:CoV (CoU X60 e [a,b,c,d,g,h,i] 7)).1) emp c60L0b c60L0 c60L1b c60L1 c60L2b c60L2 c60L3b
def c60:=(fun e a b c d g h i j=>(⟨_,by cbv⟩:CoV (CoU X60 e [a,b,c,d,g,h,i,j] 8)).1) emp c60L0b c60L0 c60L1b c60L1 c60L2b c60L2 c60L3b c60L3
def c61:=(fun e=>(⟨_,by cbv⟩:CoV (CoW [] f61 e)).1) emp
def c62:=(fun e=>(⟨_,by cbv⟩:CoV (CoW [(100,2),(101,2)] f62 e)).1) emp
def c63:=(fun e=>(⟨_,by cbv⟩:CoV (CoW [(100,2),(101,2)] f63 e)).1) emp
def X64 (e) (N):=(⟨_,by cbv⟩:CoV (CoX e [] [] f64 N)).1
def c64L0b:=(fun e=>(⟨_,by cbv⟩:CoV (CoU X64 e [] 0)).1) emp
def c64L0:=(fun e a=>(⟨_,by cbv⟩:CoV (CoU X64 e [a] 1)).1) emp c64L0b
def c64:=(fun e a b=>(⟨_,by cbv⟩:CoV (CoU X64 e [a,b] 2)).1) emp c64L0b c64L0
def c65:=(fun e=>(⟨_,by cbv⟩:CoV (CoW [] f65 e)).1) emp
def c66:=(fun e=>(⟨_,by cbv⟩:CoV (CoW [] f66 e)).1) emp
def c67:=(fun e=>(⟨_,by cbv⟩:CoV (CoW [] f67 e)).1) emp
def c68:=(fun e=>(⟨_,by cbv⟩:CoV (CoW [(102,1)] f68 e)).1) emp
def c69:=(fun e=>(⟨_,by cbv⟩:CoV (CoW [] f69 e)).1) emp
def c70:=(fun e=>(⟨_,by cbv⟩:CoV (CoW [(102,1)] f70 e)).1) emp
def c71:=(fun e=>(⟨_,by cbv⟩:CoV (CoW [] f71 e)).1) emp
def c72:=(fun e=>(⟨_,by cbv⟩:CoV (CoW [] f72 e)).1) emp
def c73:=(fun e=>(⟨_,by cbv⟩:CoV (CoW [] f73 e)).1) emp
def c74:=(fun e=>(⟨_,by cbv⟩:CoV (CoW [(0,1),(1,1),(102,1)] f74 e)).1) emp
def c75:=(fun e=>(⟨_,by cbv⟩:CoV (CoW [(0,1),(100,1)] f75 e)).1) emp
def c76:=(fun e=>(⟨_,by cbv⟩:CoV (CoW [] f76 e)).1) emp
def c77:=(fun e=>(⟨_,by cbv⟩:CoV (CoW [] f77 e)).1) emp
def c78:=(fun e=>(⟨_,by cbv⟩:CoV (CoW [] f78 e)).1) emp
def c79:=(fun e=>(⟨_,by cbv⟩:CoV (CoW [(100,2),(101,1),(204,1)] f79 e)).1) emp
def c80:=(fun e=>(⟨_,by cbv⟩:CoV (CoW [] f80 e)).1) emp
def c81:=(fun e=>(⟨_,by cbv⟩:CoV (CoW [] f81 e)).1) emp
def c82:=(fun e=>(⟨_,by cbv⟩:CoV (CoW [] f82 e)).1) emp
def c83:=(fun e=>(⟨_,by cbv⟩:CoV (CoW [] f83 e)).1) emp
def c84:=(fun e=>(⟨_,by cbv⟩:CoV (CoW [(100,2),(101,1),(204,1)] f84 e)).1) emp
def c85:=(fun e=>(⟨_,by cbv⟩:CoV (CoW [] f85 e)).1) emp
def c86:=(fun e=>(⟨_,by cbv⟩:CoV (CoW [] f86 e)).1) emp
def c87:=(fun e=>(⟨_,by cbv⟩:CoV (CoW [] f87 e)).1) emp
def c88:=(fun e=>(⟨_,by cbv⟩:CoV (CoW [] f88 e)).1) emp
def c89:=(fun e=>(⟨_,by cbv⟩:CoV (CoW [] f89 e)).1) emp
def c90:=(fun e=>(⟨_,by cbv⟩:CoV (CoW [(0,1),(209,1)] f90 e)).1) emp
def c91:=(fun e=>(⟨_,by cbv⟩:CoV (CoW [] f91 e)).1) emp
def c92:=(fun e=>(⟨_,by cbv⟩:CoV (CoW [] f92 e)).1) emp
def c93:=(fun e=>(⟨_,by cbv⟩:CoV (CoW [(100,2)] f93 e)).1) emp
def c94:=(fun e=>(⟨_,by cbv⟩:CoV (CoW [(114,1)] f94 e)).1) emp
def c95:=(fun e=>(⟨_,by cbv⟩:CoV (CoW [(100,2),(101,1),(204,1)] f95 e)).1) emp
def c96:=(fun e=>(⟨_,by cbv⟩:CoV (CoW [] f96 e)).1) emp
def X97 (e) (N):=(⟨_,by cbv⟩:CoV (CoX e [] [(503,1)] f97 N)).1
def c97L0b:=(fun e=>(⟨_,by cbv⟩:CoV (CoU X97 e [] 0)).1) emp
def c97L0:=(fun e a=>(⟨_,by cbv⟩:CoV (CoU X97 e [a] 1)).1) emp c97L0b
def c97:=(fun e a b=>(⟨_,by cbv⟩:CoV (CoU X97 e [a,b] 2)).1) emp c97L0b c97L0
def c98:=(fun e=>(⟨_,by cbv⟩:CoV (CoW [(100,2)] f98 e)).1) emp
def c99:=(fun e=>(⟨_,by cbv⟩:CoV (CoW [(100,2),(101,1),(204,1)] f99 e)).1) emp
def c100:=(fun e=>(⟨_,by cbv⟩:CoV (CoW [] f100 e)).1) emp
def c101:=(fun e=>(⟨_,by cbv⟩:CoV (CoW [] f101 e)).1) emp
def c102:=(fun e=>(⟨_,by cbv⟩:CoV (CoW [(100,2)] f102 e)).1) emp
def c103:=(fun e=>(⟨_,by cbv⟩:CoV (CoW [] f103 e)).1) emp
def c104:=(fun e=>(⟨_,by cbv⟩:CoV (CoW [] f104 e)).1) emp
def c105:=(fun e=>(⟨_,by cbv⟩:CoV (CoW [] f105 e)).1) emp
def c106:=(fun e=>(⟨_,by cbv⟩:CoV (CoW [(100,2),(101,1),(204,1)] f106 e)).1) emp
def c107:=(fun e=>(⟨_,by cbv⟩:CoV (CoW [] f107 e)).1) emp
def c108:=(fun e=>(⟨_,by cbv⟩:CoV (CoW [] f108 e)).1) emp
def c109:=(fun e=>(⟨_,by cbv⟩:CoV (CoW [] f109 e)).1) emp
def c110:=(fun e=>(⟨_,by cbv⟩:CoV (CoW [(100,2)] f110 e)).1) emp
def c111:=(fun e=>(⟨_,by cbv⟩:CoV (CoW [] f111 e)).1) emp
def ZLB (e) (N):=(⟨_,by cbv⟩:CoV (CoX e [] [(100,1),(402,1)] f112 N)).1
def c112L0b:=(fun e=>(⟨_,by cbv⟩:CoV (CoU ZLB e [] 0)).1) emp
def c112L0:=(fun e a=>(⟨_,by cbv⟩:CoV (CoU ZLB e [a] 1)).1) emp c112L0b
def c112:=(fun e a b=>(⟨_,by cbv⟩:CoV (CoU ZLB e [a,b] 2)).1) emp c112L0b c112L0
def c113:=(fun e=>(⟨_,by cbv⟩:CoV (CoW [] f113 e)).1) emp
def c114:=(fun e=>(⟨_,by cbv⟩:CoV (CoW [(100,2)] f114 e)).1) emp
def ZLC (e) (N):=(⟨_,by cbv⟩:CoV (CoX e [] [(303,1),(400,1),(806,1)] f118 N)).1
def c118L0b:=(fun e=>(⟨_,by cbv⟩:CoV (CoU ZLC e [] 0)).1) emp
def c118L0:=(fun e a=>(⟨_,by cbv⟩:CoV (CoU ZLC e [a] 1)).1) emp c118L0b
def c118:=(fun e a b=>(⟨_,by cbv⟩:CoV (CoU ZLC e [a,b] 2)).1) emp c118L0b c118L0
def ZLD (e) (N):=(⟨_,by cbv⟩:CoV (CoX e [] [] f119 N)).1
def c119L0b:=(fun e=>(⟨_,by cbv⟩:CoV (CoU ZLD e [] 0)).1) emp
def c119L0:=(fun e a=>(⟨_,by cbv⟩:CoV (CoU ZLD e [a] 1)).1) emp c119L0b
def c119:=(fun e a b=>(⟨_,by cbv⟩:CoV (CoU ZLD e [a,b] 2)).1) emp c119L0b c119L0
def ZLE (e) (N):=(⟨_,by cbv⟩:CoV (CoX e [] [] f120 N)).1
def c120L0b:=(fun e=>(⟨_,by cbv⟩:CoV (CoU ZLE e [] 0)).1) emp
def c120L0:=(fun e a=>(⟨_,by cbv⟩:CoV (CoU ZLE e [a] 1)).1) emp c120L0b
def c120:=(fun e a b=>(⟨_,by cbv⟩:CoV (CoU ZLE e [a,b] 2)).1) emp c120L0b c120L0
def ZLn (e) (N):=(⟨_,by cbv⟩:CoV (CoX e [] [(101,1),(411,1),(502,1),(603,1),(1103,3)] f121 N)).1
def c121L0b:=(fun e=>(⟨_,by cbv⟩:CoV (CoU ZLn e [] 0)).1) emp
def c121L0:=(fun e a=>(⟨_,by cbv⟩:CoV (CoU ZLn e [a] 1)).1) emp c121L0b
def c121L1b:=(fun e a b=>(⟨_,by cbv⟩:CoV (CoU ZLn e [a,b] 2)).1) emp c121L0b c121L0
def c121L1:=(fun e a b c=>(⟨_,by cbv⟩:CoV (CoU ZLn e [a,b,c] 3)).1) emp c121L0b c121L0 c121L1b
def c121:=(fun e a b c d=>(⟨_,by cbv⟩:CoV (CoU ZLn e [a,b,c,d] 4)).1) emp c121L0b c121L0 c121L1b c121L1
def c123:=(fun e=>(⟨_,by cbv⟩:CoV (CoW [] f123 e)).1) emp
def c124:=(fun e=>(⟨_,by cbv⟩:CoV (CoW [] f124 e)).1) emp
def c126:=(fun e=>(⟨_,by cbv⟩:CoV (CoW [] f126 e)).1) emp
def c127:=(fun e=>(⟨_,by cbv⟩:CoV (CoW [(100,2)] f127 e)).1) emp
def c128:=(fun e=>(⟨_,by cbv⟩:CoV (CoW [] f128 e)).1) emp
def c129:=(fun e=>(⟨_,by cbv⟩:CoV (CoW [] f129 e)).1) emp
def c130:=(fun e=>(⟨_,by cbv⟩:CoV (CoW [] f130 e)).1) emp
def c131:=(fun e=>(⟨_,by cbv⟩:CoV (CoW [] f131 e)).1) emp
def c132:=(fun e=>(⟨_,by cbv⟩:CoV (CoW [] f132 e)).1) emp
def c133:=(fun e=>(⟨_,by cbv⟩:CoV (CoW [(219,2)] f133 e)).1) emp
def c134:=(fun e=>(⟨_,by cbv⟩:CoV (CoW [] f134 e)).1) emp
def ZLF (e) (N):=(⟨_,by cbv⟩:CoV (CoX e [] [(303,1)] f135 N)).1
def c135L0b:=(fun e=>(⟨_,by cbv⟩:CoV (CoU ZLF e [] 0)).1) emp
def c135L0:=(fun e a=>(⟨_,by cbv⟩:CoV (CoU ZLF e [a] 1)).1) emp c135L0b
def c135:=(fun e a b=>(⟨_,by cbv⟩:CoV (CoU ZLF e [a,b] 2)).1) emp c135L0b c135L0
def c136:=(fun e=>(⟨_,by cbv⟩:CoV (CoW [] f136 e)).1) emp
def ZLG (e) (N):=(⟨_,by cbv⟩:CoV (CoX e [] [(100,1),(402,1),(1004,2)] f137 N)).1
def c137L0b:=(fun e=>(⟨_,by cbv⟩:CoV (CoU ZLG e [] 0)).1) emp
def c137L0:=(fun e a=>(⟨_,by cbv⟩:CoV (CoU ZLG e [a] 1)).1) emp c137L0b
def c137:=(fun e a b=>(⟨_,by cbv⟩:CoV (CoU ZLG e [a,b] 2)).1) emp c137L0b c137L0
def c138:=(fun e=>(⟨_,by cbv⟩:CoV (CoW [] f138 e)).1) emp
def c139:=(fun e=>(⟨_,by cbv⟩:CoV (CoW [(103,2)] f139 e)).1) emp
def c140:=(fun e=>(⟨_,by cbv⟩:CoV (CoW [] f140 e)).1) emp
def c141:=(fun e=>(⟨_,by cbv⟩:CoV (CoW [] f141 e)).1) emp
def c142:=(fun e=>(⟨_,by cbv⟩:CoV (CoW [] f142 e)).1) emp
def c143:=(fun e=>(⟨_,by cbv⟩:CoV (CoW [] f143 e)).1) emp
def c144:=(fun e=>(⟨_,by cbv⟩:CoV (CoW [] f144 e)).1) emp
def c145:=(fun e=>(⟨_,by cbv⟩:CoV (CoW [] f145 e)).1) emp
def c146:=(fun e=>(⟨_,by cbv⟩:CoV (CoW [(112,2)] f146 e)).1) emp
def ZLH (e) (N):=(⟨_,by cbv⟩:CoV (CoX e [] [(100,1),(402,1),(900,2),(903,2)] f147 N)).1
def c147L0b:=(fun e=>(⟨_,by cbv⟩:CoV (CoU ZLH e [] 0)).1) emp
def c147L0:=(fun e a=>(⟨_,by cbv⟩:CoV (CoU ZLH e [a] 1)).1) emp c147L0b
def c147:=(fun e a b=>(⟨_,by cbv⟩:CoV (CoU ZLH e [a,b] 2)).1) emp c147L0b c147L0
def c148:=(fun e=>(⟨_,by cbv⟩:CoV (CoW [(100,2)] f148 e)).1) emp
def c149:=(fun e=>(⟨_,by cbv⟩:CoV (CoW [(109,1)] f149 e)).1) emp
def c150:=(fun e=>(⟨_,by cbv⟩:CoV (CoW [(107,1)] f150 e)).1) emp
def c151:=(fun e=>(⟨_,by cbv⟩:CoV (CoW [] f151 e)).1) emp
def c152:=(fun e=>(⟨_,by cbv⟩:CoV (CoW [] f152 e)).1) emp
def c153:=(fun e=>(⟨_,by cbv⟩:CoV (CoW [(100,2)] f153 e)).1) emp
def c154:=(fun e=>(⟨_,by cbv⟩:CoV (CoW [] f154 e)).1) emp
def c155:=(fun e=>(⟨_,by cbv⟩:CoV (CoW [(100,2)] f155 e)).1) emp
def c157:=(fun e=>(⟨_,by cbv⟩:CoV (CoW [(100,2)] f157 e)).1) emp
def c158:=(fun e=>(⟨_,by cbv⟩:CoV (CoW [] f158 e)).1) emp
def c160:=(fun e=>(⟨_,by cbv⟩:CoV (CoW [(100,2)] f160 e)).1) emp
def c161:=(fun e=>(⟨_,by cbv⟩:CoV (CoW [] f161 e)).1) emp
def c162:=(fun e=>(⟨_,by cbv⟩:CoV (CoW [] f162 e)).1) emp
def ZLI (e) (N):=(⟨_,by cbv⟩:CoV (CoX e [] [] f163 N)).1
def c163L0b:=(fun e=>(⟨_,by cbv⟩:CoV (CoU ZLI e [] 0)).1) emp
def c163L0:=(fun e a=>(⟨_,by cbv⟩:CoV (CoU ZLI e [a] 1)).1) emp c163L0b
def c163:=(fun e a b=>(⟨_,by cbv⟩:CoV (CoU ZLI e [a,b] 2)).1) emp c163L0b c163L0
def c165:=(fun e=>(⟨_,by cbv⟩:CoV (CoW [] f165 e)).1) emp
def c166:=(fun e=>(⟨_,by cbv⟩:CoV (CoW [] f166 e)).1) emp
def ZLJ (e) (N):=(⟨_,by cbv⟩:CoV (CoX e [] [] f167 N)).1
def c167L0b:=(fun e=>(⟨_,by cbv⟩:CoV (CoU ZLJ e [] 0)).1) emp
def c167L0:=(fun e a=>(⟨_,by cbv⟩:CoV (CoU ZLJ e [a] 1)).1) emp c167L0b
def c167:=(fun e a b=>(⟨_,by cbv⟩:CoV (CoU ZLJ e [a,b] 2)).1) emp c167L0b c167L0
def ZLK (e) (N):=(⟨_,by cbv⟩:CoV (CoX e [] [] f169 N)).1
def c169L0b:=(fun e=>(⟨_,by cbv⟩:CoV (CoU ZLK e [] 0)).1) emp
def c169L0:=(fun e a=>(⟨_,by cbv⟩:CoV (CoU ZLK e [a] 1)).1) emp c169L0b
def c169:=(fun e a b=>(⟨_,by cbv⟩:CoV (CoU ZLK e [a,b] 2)).1) emp c169L0b c169L0
def c170:=(fun e=>(⟨_,by cbv⟩:CoV (CoW [(100,2)] f170 e)).1) emp
def c171:=(fun e=>(⟨_,by cbv⟩:CoV (CoW [] f171 e)).1) emp
def c173:=(fun e=>(⟨_,by cbv⟩:CoV (CoW [(100,2)] f173 e)).1) emp
def c174:=(fun e=>(⟨_,by cbv⟩:CoV (CoW [] f174 e)).1) emp
def ZLL (e) (N):=(⟨_,by cbv⟩:CoV (CoX e [] [(399,101),(300,1),(400,1),(500,2),(502,1),(600,1),(1101,1)] f175 N)).1
def c175R0a:=(fun e=>(⟨_,by cbv⟩:CoV (CoU ZLL e [] 0)).1) emp
def c175R0b:=(fun e a=>(⟨_,by cbv⟩:CoV (CoU ZLL e [a] 1)).1) emp c175R0a
def c175:=(fun e a b=>(⟨_,by cbv⟩:CoV (CoU ZLL e [a,b] 2)).1) emp c175R0a c175R0b
def c178:=(fun e s0 s1 s2 s3 s4 s5 s6 s7 s8=>(⟨_,by cbv⟩:CoV (coY (CoX e [(233606820031262824291793228925311306333649869794303002079163341563213949795593257878683467579756910891606622701420032317479258,s0),(1436506918544312769132601,s1),(351,s2),(18876682,s3),(291,s4),(290,s5),(289,s6),(80958,s7),(24970544417651213645683474901805,s8)] [(0,1),(100,1),(301,1),(401,1),(501,1),(601,1),(701,1),(801,1),(901,1),(1001,1),(1101,1)] f178) [] 0)).1) emp (B [97,98,99,100,101,102,103,104,105,106,107,108,109,110,111,112,113,114,115,116,117,118,119,120,121,122,65,66,67,68,69,70,71,72,73,74,75,76,77,78,79,80,81,82,83,84,85,86,87,88,89,90]) (B [48,49,50,51,52,53,54,55,56,57]) (B [95]) (B [32,9,10]) (B [35]) (B [34]) (B [33]) (B [60,62]) (B [59,44,46,58,40,41,91,93,123,125,61,43,45])
def ZvM (e) (N):=(⟨_,by cbv⟩:CoV (CoX e [] [] f179 N)).1
def c179L0b:=(fun e=>(⟨_,by cbv⟩:CoV (CoU ZvM e [] 0)).1) emp
def c179L0:=(fun e a=>(⟨_,by cbv⟩:CoV (CoU ZvM e [a] 1)).1) emp c179L0b
def c179:=(fun e a b=>(⟨_,by cbv⟩:CoV (CoU ZvM e [a,b] 2)).1) emp c179L0b c179L0
def c180:=(fun e s0 s1=>(⟨_,by cbv⟩:CoV (coY (CoX e [(74250,s0),(317,s1)] [(0,1)] f180) [] 0)).1) emp (B [34,10]) (B [61])
def c182:=(fun e=>(⟨_,by cbv⟩:CoV (CoW [] f182 e)).1) emp
def c184:=(fun e=>(⟨_,by cbv⟩:CoV (CoW [(100,2)] f184 e)).1) emp
def c185:=(fun e=>(⟨_,by cbv⟩:CoV (CoW [] f185 e)).1) emp
def Zxr (e) (N):=(⟨_,by cbv⟩:CoV (CoX e [] [(100,1),(200,2),(201,1),(300,1),(400,1)] f186 N)).1
def c186R0a:=(fun e=>(⟨_,by cbv⟩:CoV (CoU Zxr e [] 0)).1) emp
def c186R0b:=(fun e a=>(⟨_,by cbv⟩:CoV (CoU Zxr e [a] 1)).1) emp c186R0a
def c186:=(fun e a b=>(⟨_,by cbv⟩:CoV (CoU Zxr e [a,b] 2)).1) emp c186R0a c186R0b
def Zxs (e) (N):=(⟨_,by cbv⟩:CoV (CoX e [] [(511,1),(512,1)] f187 N)).1
def c187L0b:=(fun e=>(⟨_,by cbv⟩:CoV (CoU Zxs e [] 0)).1) emp
def c187L0:=(fun e a=>(⟨_,by cbv⟩:CoV (CoU Zxs e [a] 1)).1) emp c187L0b
def c187L1b:=(fun e a b=>(⟨_,by cbv⟩:CoV (CoU Zxs e [a,b] 2)).1) emp c187L0b c187L0
def c187L1:=(fun e a b c=>(⟨_,by cbv⟩:CoV (CoU Zxs e [a,b,c] 3)).1) emp c187L0b c187L0 c187L1b
def c187:=(fun e a b c d=>(⟨_,by cbv⟩:CoV (CoU Zxs e [a,b,c,d] 4)).1) emp c187L0b c187L0 c187L1b c187L1
def c188:=(fun e s0=>(⟨_,by cbv⟩:CoV (coY (CoX e [(288,s0)] [] f188) [] 0)).1) emp (B [32])
def ZLM (e) (N):=(⟨_,by cbv⟩:CoV (CoX e [] [(402,1)] f189 N)).1
def c189L0b:=(fun e=>(⟨_,by cbv⟩:CoV (CoU ZLM e [] 0)).1) emp
def c189L0:=(fun e a=>(⟨_,by cbv⟩:CoV (CoU ZLM e [a] 1)).1) emp c189L0b
def c189:=(fun e a b=>(⟨_,by cbv⟩:CoV (CoU ZLM e [a,b] 2)).1) emp c189L0b c189L0
def ZLN (e) (N):=(⟨_,by cbv⟩:CoV (CoX e [] [] f190 N)).1
def c190L0b:=(fun e=>(⟨_,by cbv⟩:CoV (CoU ZLN e [] 0)).1) emp
def c190L0:=(fun e a=>(⟨_,by cbv⟩:CoV (CoU ZLN e [a] 1)).1) emp c190L0b
def c190:=(fun e a b=>(⟨_,by cbv⟩:CoV (CoU ZLN e [a,b] 2)).1) emp c190L0b c190L0
def c191:=(fun e=>(⟨_,by cbv⟩:CoV (CoW [(100,2)] f191 e)).1) emp
def c192:=(fun e=>(⟨_,by cbv⟩:CoV (CoW [] f192 e)).1) emp
def c193:=(fun e=>(⟨_,by cbv⟩:CoV (CoW [] f193 e)).1) emp
def Zxt (e) (N):=(⟨_,by cbv⟩:CoV (CoX e [] [(302,1)] f194 N)).1
def c194L0b:=(fun e=>(⟨_,by cbv⟩:CoV (CoU Zxt e [] 0)).1) emp
def c194L0:=(fun e a=>(⟨_,by cbv⟩:CoV (CoU Zxt e [a] 1)).1) emp c194L0b
def c194:=(fun e a b=>(⟨_,by cbv⟩:CoV (CoU Zxt e [a,b] 2)).1) emp c194L0b c194L0
def c195:=(fun e=>(⟨_,by cbv⟩:CoV (CoW [] f195 e)).1) emp
def c196:=(fun e=>(⟨_,by cbv⟩:CoV (CoW [] f196 e)).1) emp
def ZFs (e) (N):=(⟨_,by cbv⟩:CoV (CoX e [] [(402,1)] f197 N)).1
def c197L0b:=(fun e=>(⟨_,by cbv⟩:CoV (CoU ZFs e [] 0)).1) emp
def c197L0:=(fun e a=>(⟨_,by cbv⟩:CoV (CoU ZFs e [a] 1)).1) emp c197L0b
def c197:=(fun e a b=>(⟨_,by cbv⟩:CoV (CoU ZFs e [a,b] 2)).1) emp c197L0b c197L0
def c198:=(fun e=>(⟨_,by cbv⟩:CoV (CoW [] f198 e)).1) emp
def c199:=(fun e=>(⟨_,by cbv⟩:CoV (CoW [] f199 e)).1) emp
def ZFt (e) (N):=(⟨_,by cbv⟩:CoV (CoX e [] [] f200 N)).1
def c200L0b:=(fun e=>(⟨_,by cbv⟩:CoV (CoU ZFt e [] 0)).1) emp
def c200L0:=(fun e a=>(⟨_,by cbv⟩:CoV (CoU ZFt e [a] 1)).1) emp c200L0b
def c200:=(fun e a b=>(⟨_,by cbv⟩:CoV (CoU ZFt e [a,b] 2)).1) emp c200L0b c200L0
def ZFu (e) (N):=(⟨_,by cbv⟩:CoV (CoX e [] [] f201 N)).1
def c201L0b:=(fun e=>(⟨_,by cbv⟩:CoV (CoU ZFu e [] 0)).1) emp
def c201L0:=(fun e a=>(⟨_,by cbv⟩:CoV (CoU ZFu e [a] 1)).1) emp c201L0b
def c201:=(fun e a b=>(⟨_,by cbv⟩:CoV (CoU ZFu e [a,b] 2)).1) emp c201L0b c201L0
def Zxu (e) (N):=(⟨_,by cbv⟩:CoV (CoX e [] [] f202 N)).1
def c202L0b:=(fun e=>(⟨_,by cbv⟩:CoV (CoU Zxu e [] 0)).1) emp
def c202L0:=(fun e a=>(⟨_,by cbv⟩:CoV (CoU Zxu e [a] 1)).1) emp c202L0b
def c202:=(fun e a b=>(⟨_,by cbv⟩:CoV (CoU Zxu e [a,b] 2)).1) emp c202L0b c202L0
def Zxv (e) (N):=(⟨_,by cbv⟩:CoV (CoX e [] [] f203 N)).1
def c203L0b:=(fun e=>(⟨_,by cbv⟩:CoV (CoU Zxv e [] 0)).1) emp
def c203L0:=(fun e a=>(⟨_,by cbv⟩:CoV (CoU Zxv e [a] 1)).1) emp c203L0b
def c203:=(fun e a b=>(⟨_,by cbv⟩:CoV (CoU Zxv e [a,b] 2)).1) emp c203L0b c203L0
def ZLO (e) (N):=(⟨_,by cbv⟩:CoV (CoX e [] [] f204 N)).1
def c204L0b:=(fun e=>(⟨_,by cbv⟩:CoV (CoU ZLO e [] 0)).1) emp
def c204L0:=(fun e a=>(⟨_,by cbv⟩:CoV (CoU ZLO e [a] 1)).1) emp c204L0b
def c204:=(fun e a b=>(⟨_,by cbv⟩:CoV (CoU ZLO e [a,b] 2)).1) emp c204L0b c204L0
def ZFv (e) (N):=(⟨_,by cbv⟩:CoV (CoX e [] [] f205 N)).1
def c205L0b:=(fun e=>(⟨_,by cbv⟩:CoV (CoU ZFv e [] 0)).1) emp
def c205L0:=(fun e a=>(⟨_,by cbv⟩:CoV (CoU ZFv e [a] 1)).1) emp c205L0b
def c205:=(fun e a b=>(⟨_,by cbv⟩:CoV (CoU ZFv e [a,b] 2)).1) emp c205L0b c205L0
def ZLP (e) (N):=(⟨_,by cbv⟩:CoV (CoX e [] [(402,1)] f206 N)).1
def c206L0b:=(fun e=>(⟨_,by cbv⟩:CoV (CoU ZLP e [] 0)).1) emp
def c206L0:=(fun e a=>(⟨_,by cbv⟩:CoV (CoU ZLP e [a] 1)).1) emp c206L0b
def c206:=(fun e a b=>(⟨_,by cbv⟩:CoV (CoU ZLP e [a,b] 2)).1) emp c206L0b c206L0
def c207:=(fun e=>(⟨_,by cbv⟩:CoV (CoW [] f207 e)).1) emp
def c208:=(fun e=>(⟨_,by cbv⟩:CoV (CoW [] f208 e)).1) emp
def c209:=(fun e=>(⟨_,by cbv⟩:CoV (CoW [(108,1),(200,2),(400,2)] f209 e)).1) emp
def Zxz (e) (N):=(⟨_,by cbv⟩:CoV (CoX e [] [] f221 N)).1
def c221L0b:=(fun e=>(⟨_,by cbv⟩:CoV (CoU Zxz e [] 0)).1) emp
def c221L0:=(fun e a=>(⟨_,by cbv⟩:CoV (CoU Zxz e [a] 1)).1) emp c221L0b
def c221:=(fun e a b=>(⟨_,by cbv⟩:CoV (CoU Zxz e [a,b] 2)).1) emp c221L0b c221L0
def ZxA (e) (N):=(⟨_,by cbv⟩:CoV (CoX e [] [] f222 N)).1
def c222L0b:=(fun e=>(⟨_,by cbv⟩:CoV (CoU ZxA e [] 0)).1) emp
def c222L0:=(fun e a=>(⟨_,by cbv⟩:CoV (CoU ZxA e [a] 1)).1) emp c222L0b
def c222:=(fun e a b=>(⟨_,by cbv⟩:CoV (CoU ZxA e [a,b] 2)).1) emp c222L0b c222L0
def c223:=(fun e=>(⟨_,by cbv⟩:CoV (CoW [] f223 e)).1) emp
def c227:=(fun e=>(⟨_,by cbv⟩:CoV (CoW [] f227 e)).1) emp
def ZLQ (e) (N):=(⟨_,by cbv⟩:CoV (CoX e [] [] f244 N)).1
def c244L0b:=(fun e=>(⟨_,by cbv⟩:CoV (CoU ZLQ e [] 0)).1) emp
def c244L0:=(fun e a=>(⟨_,by cbv⟩:CoV (CoU ZLQ e [a] 1)).1) emp c244L0b
def c244:=(fun e a b=>(⟨_,by cbv⟩:CoV (CoU ZLQ e [a,b] 2)).1) emp c244L0b c244L0
def c245:=(fun e=>(⟨_,by cbv⟩:CoV (CoW [] f245 e)).1) emp
def c246:=(fun e=>(⟨_,by cbv⟩:CoV (CoW [] f246 e)).1) emp
def c247:=(fun e=>(⟨_,by cbv⟩:CoV (CoW [(106,1),(107,1)] f247 e)).1) emp
def c249:=(fun e=>(⟨_,by cbv⟩:CoV (CoW [] f249 e)).1) emp
def ZLR (e) (N):=(⟨_,by cbv⟩:CoV (CoX e [] [] f250 N)).1
def c250L0b:=(fun e=>(⟨_,by cbv⟩:CoV (CoU ZLR e [] 0)).1) emp
def c250L0:=(fun e a=>(⟨_,by cbv⟩:CoV (CoU ZLR e [a] 1)).1) emp c250L0b
def c250:=(fun e a b=>(⟨_,by cbv⟩:CoV (CoU ZLR e [a,b] 2)).1) emp c250L0b c250L0
def c251:=(fun e=>(⟨_,by cbv⟩:CoV (CoW [(0,1)] f251 e)).1) emp
def c252:=(fun e=>(⟨_,by cbv⟩:CoV (CoW [] f252 e)).1) emp
def c253:=(fun e=>(⟨_,by cbv⟩:CoV (CoW [] f253 e)).1) emp
def ZLS (e) (N):=(⟨_,by cbv⟩:CoV (CoX e [] [(202,1),(307,1)] f254 N)).1
def c254L0b:=(fun e=>(⟨_,by cbv⟩:CoV (CoU ZLS e [] 0)).1) emp
def c254L0:=(fun e a=>(⟨_,by cbv⟩:CoV (CoU ZLS e [a] 1)).1) emp c254L0b
def c254:=(fun e a b=>(⟨_,by cbv⟩:CoV (CoU ZLS e [a,b] 2)).1) emp c254L0b c254L0
def c255:=(fun e=>(⟨_,by cbv⟩:CoV (CoW [(100,2)] f255 e)).1) emp
def c256:=(fun e=>(⟨_,by cbv⟩:CoV (CoW [(100,2)] f256 e)).1) emp
def c269:=(fun e=>(⟨_,by cbv⟩:CoV (CoW [] f269 e)).1) emp
def ZLT (e) (N):=(⟨_,by cbv⟩:CoV (CoX e [] [(203,1),(310,1)] f276 N)).1
def c276L0b:=(fun e=>(⟨_,by cbv⟩:CoV (CoU ZLT e [] 0)).1) emp
def c276L0:=(fun e a=>(⟨_,by cbv⟩:CoV (CoU ZLT e [a] 1)).1) emp c276L0b
def c276:=(fun e a b=>(⟨_,by cbv⟩:CoV (CoU ZLT e [a,b] 2)).1) emp c276L0b c276L0
def ZLU (e) (N):=(⟨_,by cbv⟩:CoV (CoX e [] [(302,1)] f277 N)).1
def c277L0b:=(fun e=>(⟨_,by cbv⟩:CoV (CoU ZLU e [] 0)).1) emp
def c277L0:=(fun e a=>(⟨_,by cbv⟩:CoV (CoU ZLU e [a] 1)).1) emp c277L0b
def c277:=(fun e a b=>(⟨_,by cbv⟩:CoV (CoU ZLU e [a,b] 2)).1) emp c277L0b c277L0
def c278:=(fun e=>(⟨_,by cbv⟩:CoV (CoW [(2,1)] f278 e)).1) emp
def c279:=(fun e=>(⟨_,by cbv⟩:CoV (CoW [] f279 e)).1) emp
def c280:=(fun e=>(⟨_,by cbv⟩:CoV (CoW [(503,1)] f280 e)).1) emp
def c281:=(fun e=>(⟨_,by cbv⟩:CoV (CoW [] f281 e)).1) emp
def ZLV (e) (N):=(⟨_,by cbv⟩:CoV (CoX e [] [] f283 N)).1
def c283L0b:=(fun e=>(⟨_,by cbv⟩:CoV (CoU ZLV e [] 0)).1) emp
def c283L0:=(fun e a=>(⟨_,by cbv⟩:CoV (CoU ZLV e [a] 1)).1) emp c283L0b
def c283:=(fun e a b=>(⟨_,by cbv⟩:CoV (CoU ZLV e [a,b] 2)).1) emp c283L0b c283L0
def ZLW (e) (N):=(⟨_,by cbv⟩:CoV (CoX e [] [(1,1),(2,1),(100,2),(101,1),(200,1),(300,1)] f284 N)).1
def c284R0a:=(fun e=>(⟨_,by cbv⟩:CoV (CoU ZLW e [] 0)).1) emp
def c284R0b:=(fun e a=>(⟨_,by cbv⟩:CoV (CoU ZLW e [a] 1)).1) emp c284R0a
def c284:=(fun e a b=>(⟨_,by cbv⟩:CoV (CoU ZLW e [a,b] 2)).1) emp c284R0a c284R0b
def c297:=(fun e=>(⟨_,by cbv⟩:CoV (CoW [(2,1)] f297 e)).1) emp
def c298:=(fun e=>(⟨_,by cbv⟩:CoV (CoW [] f298 e)).1) emp
def c299:=(fun e=>(⟨_,by cbv⟩:CoV (CoW [] f299 e)).1) emp
def FN0:List (Nat×AFun):=[(8,⟨[.tmp 6],c8⟩),(9,⟨[.tmp 0],c9⟩),(11,⟨[.tmp 6,.tmp 7],c11⟩),(14,⟨[.tmp 4],c14⟩),(16,⟨[.tmp 2],c16⟩),(17,⟨[.cell 6 (some 2),.tmp 7,.tmp 8],c17⟩),(20,⟨[.tmp 2],c20⟩),(21,⟨[.cell 6 (some 7),.tmp 7],c21⟩),(22,⟨[.cell 0 (some 7),.cell 1 (some 7)],c22⟩),(23,⟨[.tmp 0],c23⟩),(24,⟨[.cell 4 (some 11),.tmp 5],c24⟩),(25,⟨[.tmp 2],c25⟩),(26,⟨[.tmp 2],c26⟩),(27,⟨[],c27⟩)]
def FN1:List (Nat×AFun):=[(28,⟨[.cell 4 (some 3)],c28⟩),(29,⟨[.tmp 4],c29⟩),(30,⟨[.tmp 4],c30⟩),(31,⟨[.cell 4 (some 2),.tmp 5],c31⟩),(32,⟨[.tmp 4],c32⟩),(33,⟨[.tmp 2],c33⟩),(34,⟨[.tmp 2],c34⟩),(35,⟨[.tmp 6],c35⟩),(36,⟨[.tmp 2],c36⟩),(37,⟨[.tmp 2],c37⟩),(38,⟨[.tmp 2],c38⟩),(39,⟨[.tmp 2],c39⟩),(40,⟨[.tmp 2],c40⟩),(41,⟨[.tmp 2],c41⟩)]
def FN2:List (Nat×AFun):=[(42,⟨[.tmp 2],c42⟩),(43,⟨[.tmp 2],c43⟩),(44,⟨[.tmp 2],c44⟩),(45,⟨[.tmp 2],c45⟩),(46,⟨[.tmp 2],c46⟩),(47,⟨[.tmp 2],c47⟩),(48,⟨[.tmp 2],c48⟩),(49,⟨[.tmp 2],c49⟩),(50,⟨[.tmp 2],c50⟩),(51,⟨[.tmp 2],c51⟩),(52,⟨[.tmp 2],c52⟩),(53,⟨[.tmp 2],c53⟩),(54,⟨[.tmp 4],c54⟩),(55,⟨[.cell 4 (some 11)],c55⟩)]
def FN3:List (Nat×AFun):=[(56,⟨[.tmp 2],c56⟩),(57,⟨[.tmp 4],c57⟩),(58,⟨[.tmp 4],c58⟩),(59,⟨[.tmp 2],c59⟩),(60,⟨[.tmp 2],c60⟩),(61,⟨[.tmp 2],c61⟩),(62,⟨[.tmp 4],c62⟩),(63,⟨[.tmp 4],c63⟩),(64,⟨[.tmp 4],c64⟩),(65,⟨[.tmp 4],c65⟩),(66,⟨[.tmp 2],c66⟩),(67,⟨[.tmp 4],c67⟩),(69,⟨[.tmp 2],c69⟩),(71,⟨[.tmp 2],c71⟩)]
def FN4:List (Nat×AFun):=[(72,⟨[.tmp 6],c72⟩),(73,⟨[.tmp 6],c73⟩),(74,⟨[.cell 2 (some 18)],c74⟩),(75,⟨[.cell 0 (some 16)],c75⟩),(76,⟨[.tmp 4],c76⟩),(77,⟨[.tmp 4],c77⟩),(78,⟨[.tmp 2],c78⟩),(79,⟨[.tmp 6],c79⟩),(80,⟨[],c80⟩),(81,⟨[.tmp 2],c81⟩),(82,⟨[.tmp 4],c82⟩),(83,⟨[],c83⟩),(84,⟨[.tmp 6],c84⟩),(85,⟨[],c85⟩)]
def FN5:List (Nat×AFun):=[(86,⟨[],c86⟩),(87,⟨[],c87⟩),(88,⟨[.tmp 2],c88⟩),(89,⟨[.tmp 4],c89⟩),(90,⟨[],c90⟩),(91,⟨[.tmp 2],c91⟩),(92,⟨[.tmp 3],c92⟩),(93,⟨[.tmp 4],c93⟩),(94,⟨[.tmp 3],c94⟩),(95,⟨[.tmp 6],c95⟩),(96,⟨[],c96⟩),(97,⟨[],c97⟩),(98,⟨[.tmp 4],c98⟩),(99,⟨[.tmp 6],c99⟩)]
def FN6:List (Nat×AFun):=[(100,⟨[],c100⟩),(101,⟨[],c101⟩),(102,⟨[.tmp 4],c102⟩),(103,⟨[.tmp 3],c103⟩),(104,⟨[],c104⟩),(105,⟨[.tmp 4],c105⟩),(106,⟨[.tmp 6],c106⟩),(107,⟨[],c107⟩),(108,⟨[.tmp 4],c108⟩),(109,⟨[.tmp 2],c109⟩),(110,⟨[.tmp 4],c110⟩),(111,⟨[.tmp 3],c111⟩),(112,⟨[.tmp 2],c112⟩),(113,⟨[.tmp 4],c113⟩)]
def FN7:List (Nat×AFun):=[(114,⟨[.tmp 6,.tmp 7],c114⟩),(118,⟨[.tmp 2,.tmp 3,.tmp 4],c118⟩),(119,⟨[.tmp 4],c119⟩),(120,⟨[.tmp 4],c120⟩),(121,⟨[],c121⟩),(127,⟨[.tmp 3],c127⟩),(128,⟨[.tmp 2],c128⟩),(129,⟨[.tmp 2],c129⟩),(130,⟨[.tmp 2],c130⟩),(131,⟨[.tmp 4],c131⟩),(132,⟨[.tmp 3],c132⟩),(133,⟨[.tmp 2],c133⟩),(134,⟨[.tmp 3],c134⟩),(135,⟨[.tmp 2],c135⟩)]
def FN8:List (Nat×AFun):=[(136,⟨[.tmp 3],c136⟩),(137,⟨[.tmp 2],c137⟩),(138,⟨[.tmp 2],c138⟩),(139,⟨[.tmp 2],c139⟩),(140,⟨[.tmp 3],c140⟩),(141,⟨[.tmp 2],c141⟩),(142,⟨[.tmp 2],c142⟩),(143,⟨[.tmp 2],c143⟩),(144,⟨[.tmp 2],c144⟩),(145,⟨[.tmp 4],c145⟩),(146,⟨[.tmp 3],c146⟩),(147,⟨[.tmp 4],c147⟩),(148,⟨[.tmp 4],c148⟩),(149,⟨[.tmp 2],c149⟩)]
def FN9:List (Nat×AFun):=[(150,⟨[.tmp 2],c150⟩),(151,⟨[.tmp 3],c151⟩),(152,⟨[.tmp 2],c152⟩),(153,⟨[.tmp 4],c153⟩),(154,⟨[.tmp 3],c154⟩),(155,⟨[.tmp 4],c155⟩),(157,⟨[.tmp 4],c157⟩),(158,⟨[.tmp 3],c158⟩),(160,⟨[.tmp 4],c160⟩),(161,⟨[.tmp 3],c161⟩),(162,⟨[.tmp 2],c162⟩),(163,⟨[.tmp 4],c163⟩),(165,⟨[],c165⟩),(166,⟨[],c166⟩)]
def ZjY:List (Nat×AFun):=[(167,⟨[.tmp 4],c167⟩),(169,⟨[.tmp 4],c169⟩),(170,⟨[.tmp 4],c170⟩),(171,⟨[.tmp 3],c171⟩),(173,⟨[.tmp 4],c173⟩),(174,⟨[.tmp 3],c174⟩),(175,⟨[.tmp 6,.tmp 7,.tmp 8],c175⟩),(178,⟨[.cell 0 (some 256)],c178⟩),(179,⟨[.tmp 4],c179⟩),(180,⟨[.cell 4 (some 4),.tmp 5,.tmp 6],c180⟩),(184,⟨[.tmp 4],c184⟩),(185,⟨[.tmp 2],c185⟩),(186,⟨[.tmp 2],c186⟩),(187,⟨[.tmp 2],c187⟩)]
def ZjZ:List (Nat×AFun):=[(188,⟨[.tmp 2],c188⟩),(189,⟨[.tmp 2],c189⟩),(190,⟨[.tmp 2],c190⟩),(191,⟨[.tmp 4],c191⟩),(192,⟨[.tmp 2],c192⟩),(193,⟨[.tmp 2],c193⟩),(194,⟨[.tmp 4],c194⟩),(195,⟨[.tmp 2],c195⟩),(196,⟨[.tmp 4],c196⟩),(197,⟨[.tmp 2],c197⟩),(198,⟨[.tmp 3],c198⟩),(199,⟨[.tmp 2],c199⟩),(200,⟨[.tmp 4],c200⟩),(201,⟨[.tmp 4],c201⟩)]
def Zk0:List (Nat×AFun):=[(202,⟨[.tmp 4],c202⟩),(203,⟨[.tmp 4],c203⟩),(204,⟨[.tmp 4],c204⟩),(205,⟨[.tmp 4],c205⟩),(206,⟨[.tmp 2],c206⟩),(207,⟨[.tmp 2],c207⟩),(208,⟨[.tmp 4],c208⟩),(209,⟨[.tmp 4],c209⟩),(221,⟨[],c221⟩),(222,⟨[.tmp 6],c222⟩),(223,⟨[.tmp 4],c223⟩),(227,⟨[.tmp 4],c227⟩),(244,⟨[.tmp 4],c244⟩),(245,⟨[.tmp 2],c245⟩)]
def Zsg:List (Nat×AFun):=[(246,⟨[.tmp 6],c246⟩),(247,⟨[.tmp 8],c247⟩),(249,⟨[.tmp 2],c249⟩),(250,⟨[.tmp 4],c250⟩),(251,⟨[.cell 0 (some 56)],c251⟩),(252,⟨[.tmp 4],c252⟩),(253,⟨[.tmp 2],c253⟩),(254,⟨[],c254⟩),(255,⟨[.tmp 4],c255⟩),(256,⟨[.tmp 4],c256⟩),(269,⟨[.tmp 4],c269⟩),(276,⟨[],c276⟩),(277,⟨[.tmp 2],c277⟩),(278,⟨[.cell 4 (some 6)],c278⟩)]
def Zsh:List (Nat×AFun):=[(279,⟨[.tmp 4],c279⟩),(280,⟨[.tmp 6],c280⟩),(281,⟨[.tmp 6],c281⟩),(283,⟨[.tmp 6],c283⟩),(284,⟨[.cell 4 none,.cell 5 none],c284⟩),(297,⟨[.cell 4 (some 2)],c297⟩),(298,⟨[.tmp 4],c298⟩),(299,⟨[.tmp 4],c299⟩)]
def ZjW (f:Nat) (l:List (Nat×AFun)):Option AFun:=l.foldr (fun p r=>bif Nat.beq f p.1 then some p.2 else r) none
def N0 (f:Nat):Option AFun:=bif Nat.blt f 28 then ZjW f FN0 else bif Nat.blt f 42 then ZjW f FN1 else bif Nat.blt f 56 then ZjW f FN2 else bif Nat.blt f 72 then ZjW f FN3 else bif Nat.blt f 86 then ZjW f FN4 else bif Nat.blt f 100 then ZjW f FN5 else bif Nat.blt f 114 then ZjW f FN6 else bif Nat.blt f 136 then ZjW f FN7 else bif Nat.blt f 150 then ZjW f FN8 else bif Nat.blt f 167 then ZjW f FN9 else bif Nat.blt f 188 then ZjW f ZjY else bif Nat.blt f 202 then ZjW f ZjZ else bif Nat.blt f 246 then ZjW f Zk0 else bif Nat.blt f 279 then ZjW f Zsg else ZjW f Zsh
def a69:AFun:=⟨[.tmp 2],c69⟩
def a71:AFun:=⟨[.tmp 2],c71⟩
def Zz9:List (Nat×AFun):=[(69,⟨[.tmp 2],c69⟩),(71,⟨[.tmp 2],c71⟩),(123,⟨[.tmp 5],c123⟩),(124,⟨[.tmp 4],c124⟩),(126,⟨[.tmp 5],c126⟩),(182,⟨[.tmp 2],c182⟩)]
def Zza (f:Nat):Option AFun:=ZjW f Zz9
def e0:Env:={ fn:=Zza,gl:=fun _=>.bot,sum:=fun _=>none }
def ZGv:List (Nat×AFun):=[(68,⟨[.tmp 4],c68⟩),(70,⟨[.tmp 4],c70⟩)]
def ZGw (f:Nat):Option AFun:=ZjW f ZGv
def ckS (k:Nat):List AV→Bool
 | [.iptr false [.clo (.func f) [] []]]=>Nat.beq f k
 | _=>false
def ZEf:AV→Option (List Int)
 | .agg [.str s,.int .i64 _,.int .i64 _]=>some (s.data.toList.map fun b=>(b.toNat:Int))
 | _=>none
def ZEm (caps:List AV) (x:AV):Option (List Int):=bif ckS 71 caps then ZEf x else none
def ZFE (f:Nat):Option (List AV→Hp→Option (AV×Hp)):=bif Nat.beq f 122 then some (ZEt 123 (ckS 69)) else bif Nat.beq f 125 then some (ZvW 126 3 ZEm) else none
def e1:Env:={ fn:=ZGw,gl:=fun _=>.bot,sum:=ZFE }
end Go.AM
