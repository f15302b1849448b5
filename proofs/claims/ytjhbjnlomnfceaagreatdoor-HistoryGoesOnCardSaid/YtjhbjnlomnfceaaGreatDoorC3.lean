/- The code of the abstract machine for the functions that the statement HistoryGoesOn reaches. No condition. -/
import Derived.Test.YtjhbjnlomnfceaaGreatDoorQ3
import Derived.Test.YtjhbjnlomnfceaaGreatDoorProg
set_option linter.unusedVariables false
set_option linter.unusedSimpArgs false
set_option linter.unusedSectionVars false
namespace Go.AM
open Go
inductive CoTy where
 | b | i (k:IntKind) | s | sl (e by':Nat) | st (fs:List Nat) | ar (n e:Nat) | mp (k v:Nat) | p | f | j | o
structure CoCx where
 T:Nat→CoTy
 e:ByteArray
 S:List ByteArray
 H:List (Nat×Nat)
 N:Nat→ACode
def ZvB {α:Type} (d:α):List α→Nat→α
 | [],_=>d
 | x::r,n=>bif n==0 then x else ZvB d r (n - 1)
def Zwo (T:Nat→CoTy):Nat→Nat→Nat
 | 0,_=>1
 | n+1,t=>match T t with
  | .st fs=>fs.foldr (fun f s=>Zwo T n f+s) 0
  | .ar k e=>k * Zwo T n e
  | _=>1
def Zw0 (T:Nat→CoTy) (e:ByteArray):Nat→Nat→List AV
 | 0,_=>[]
 | n+1,t=>match T t with
  | .b=>[.bool false]
  | .i k=>[.int k 0]
  | .s=>[.str e]
  | .sl x _=>[.isl false false (Zwo T n x) []]
  | .st fs=>fs.foldr (fun f s=>Zw0 T e n f++s) []
  | .ar k x=>(List.replicate k (Zw0 T e n x)).flatten
  | .mp _ _=>[.nilmap]
  | .p=>[.nilp]
  | .f=>[.nilfn]
  | .j=>[.nilif]
  | .o=>[.bot]
def ZvR (T:Nat→CoTy):Nat→Nat→List Nat
 | 0,_=>[]
 | n+1,t=>match T t with
  | .b=>[0]
  | .i _=>[1]
  | .s=>[2]
  | .st fs=>fs.foldr (fun f s=>ZvR T n f++s) []
  | .ar k x=>(List.replicate k (ZvR T n x)).flatten
  | _=>[]
def Zw1:CoTy→Bool
 | .st _ | .ar _ _=>true
 | _=>false
def ZwJ (b:Bool):AV→AV
 | .isl w _ n l=>.isl w b n l
 | v=>v
def ZvK (X:CoCx) (top:Bool) (t:Nat):AV:=match X.T t with
 | .st _ | .ar _ _=>.agg (Zw0 X.T X.e 9 t)
 | _=>ZwJ top (ZvB .bot (Zw0 X.T X.e 9 t) 0)
def ZxZ:AV→AV
 | .agg cs=>.agg (cs.map (ZwJ true))
 | v=>ZwJ true v
def Zvk (X:CoCx) (t:Nat):Nat:=Zwo X.T 9 t
def ZwK (X:CoCx) (t:Nat):Option Nat:=bif Zw1 (X.T t) then some (Zvk X t) else none
def ZvC (X:CoCx) (t:Nat):Nat:=match X.T t with
 | .sl e _=>e
 | .ar _ e=>e
 | _=>0
def ZwL (X:CoCx) (t:Nat):Nat:=match X.T t with
 | .sl _ y=>y
 | _=>0
def Zwp (X:CoCx) (t:Nat):List Nat:=match X.T t with
 | .st fs=>fs
 | _=>[]
def ZwM (X:CoCx) (t i:Nat):Nat:=((Zwp X t).take i).foldr (fun f s=>Zvk X f+s) 0
def Zzy (X:CoCx) (h:Nat) (ex:Bool) (t:Nat):Value→AV
 | .bool b=>.bool b
 | .int k n=>.int k n
 | .string s=>.str (match s.data.toList with | []=>X.e | _=>ZvB X.e X.S (h / 16))
 | .pointer _=>.nilp
 | .slice _ _ _=>.isl false ex (Zvk X (ZvC X t)) []
 | .map _=>.nilmap
 | .nilFunc=>.nilfn
 | .nilIface=>.nilif
 | .agg _=>ZvK X false t
 | _=>.bot
def Zr1 (X:CoCx) (h:Nat) (ex:Bool) (t:Nat):Operand→Arg
 | .tmp t=>.t t
 | .const v=>.c (Zzy X h ex t v)
 | .func f=>.f f
 | .global g=>.g g
def Zw2 (X:CoCx) (h:Nat) (ex:Bool):List Operand→List Nat→List Arg
 | x::r,t::ts=>Zr1 X h ex t x::Zw2 X h ex r ts
 | x::r,[]=>Zr1 X h ex 0 x::Zw2 X h ex r []
 | [],_=>[]
def Zzz (X:CoCx) (h:Nat) (c:Call):AOp:=
 let ts:=c.argTypes.toList
 let t:=ZvB 0 ts 0
 match c.callee,c.args.toList with
 | .builtin .len,[x]=>.len (match X.T t with | .s=>0 | .sl _ _=>1 | _=>2) (Zr1 X h false t x)
 | .builtin .min,[x,y]=>.mm false (Zr1 X h false t x) (Zr1 X h false t y)
 | .builtin .max,[x,y]=>.mm true (Zr1 X h false t x) (Zr1 X h false t y)
 | .builtin .append,[x,y]=>
  bif h % 16==2 then .apr (Zvk X (ZvC X t)) (ZwL X t) (Zr1 X h true t x) (Zr1 X h false t y) else .app (h % 16==1) (Zvk X (ZvC X t)) (ZwL X t) (Zr1 X h true t x) (Zr1 X h false t y)
 | .value (.func f),l=>.call (h % 2==0) f (Zw2 X h (h / 2 % 2==1) l ts)
 | .value x,l=>.callv (h % 2==0) (Zr1 X h false 0 x) (Zw2 X h false l ts)
 | _,_=>.bad
def ZzA (X:CoCx) (h:Nat) (ty:Nat):Op→AOp
 | .move x | .assign x=>bif h % 16==1 then .own (Zvk X (ZvC X ty)) else bif h % 16==2 then .rel (Zr1 X h false ty x) else .mv (Zr1 X h false ty x)
 | .pick a b c=>.pick (Zr1 X h false 0 a) (Zr1 X h false ty b) (Zr1 X h false ty c)
 | .alloc t=>bif h % 2==0 then .ibox (Zvk X t) (.c (bif h / 2 % 2==1 then ZxZ (ZvK X true t) else ZvK X true t)) else .box (Zvk X t) (.c (bif h / 2 % 2==1 then ZxZ (ZvK X true t) else ZvK X true t))
 | .box t x=>bif h % 2==0 then .ibox (Zvk X t) (Zr1 X h false t x) else .box (Zvk X t) (Zr1 X h false t x)
 | .build t ps=>match X.T t with
  | .ar _ e=>.build (Zw0 X.T X.e 9 t) (ps.toList.map fun p=>(p.1 * Zvk X e,Zvk X e,Zr1 X h false e p.2))
  | _=>.build (Zw0 X.T X.e 9 t) (ps.toList.map fun p=>(ZwM X t p.1,Zvk X (ZvB 0 (Zwp X t) p.1),Zr1 X h false (ZvB 0 (Zwp X t) p.1) p.2))
 | .buildSlice t n ps=>.bsl (h % 2==0) (h / 2 % 2==1) (Zvk X (ZvC X t)) (ZvK X false (ZvC X t)) n (ps.toList.map fun p=>(p.1,Zr1 X h false (ZvC X t) p.2))
 | .load t x=>bif h==0 then .load (ZwK X t) (Zr1 X h false 0 x) else .ldr (Zvk X t) h (Zr1 X 0 false 0 x)
 | .store t a x=>.store (Zvk X t) (Zr1 X h false 0 a) (Zr1 X h false t x)
 | .nilCheck x=>.nilck (Zr1 X h false 0 x)
 | .binOp op t x y _=>match op,X.T t with
  | .eql,.i _ | .neq,.i _ | .eql,.s | .neq,.s=>.bin op (Zr1 X h false t x) (Zr1 X h false t y)
  | .eql,k=>.eqv false (Zw1 k) (ZvR X.T 9 t) (Zr1 X h false t x) (Zr1 X h false t y)
  | .neq,k=>.eqv true (Zw1 k) (ZvR X.T 9 t) (Zr1 X h false t x) (Zr1 X h false t y)
  | _,_=>.bin op (Zr1 X h false t x) (Zr1 X h false t y)
 | .unOp op t x=>.un op (Zr1 X h false t x)
 | .convert _ d x=>.conv (match X.T d with | .i k=>some k | _=>none) (Zr1 X h false d x)
 | .field t x i=>.fld (ZwK X (ZvB 0 (Zwp X t) i)) (ZwM X t i) (Zr1 X h false t x)
 | .fieldAddr t x i=>.fadr (ZwM X t i) (Zr1 X h false t x)
 | .indexAddr t x i=>match X.T t with
  | .ar n e=>.aadr (Zvk X e) n (Zr1 X h false 0 x) (Zr1 X h false 0 i)
  | _=>.iadr (Zvk X (ZvC X t)) (Zr1 X h false t x) (Zr1 X h false 0 i)
 | .index t x i=>match X.T t with
  | .ar n e=>.aidx (ZwK X e) (Zvk X e) n (Zr1 X h false t x) (Zr1 X h false 0 i)
  | _=>.sidx (Zr1 X h false 0 x) (Zr1 X h false 0 i)
 | .extract x i=>.ext (Zr1 X h false 0 x) i
 | .makeFunc fn a b=>.mkf fn (Zw2 X h false a.toList []) (Zw2 X h false b.toList [])
 | .makeMap _ _=>.mkm
 | .insert t m k v=>match X.T t with
  | .mp a b=>.ins (Zw1 (X.T a)) (ZvR X.T 9 a) (Zr1 X h false 0 m) (Zr1 X h false a k) (Zr1 X h false b v)
  | _=>.bad
 | .mapUpdate t m k v=>match X.T t with
  | .mp a b=>.mupd (Zw1 (X.T a)) (ZvR X.T 9 a) (Zr1 X h false 0 m) (Zr1 X h false a k) (Zr1 X h false b v)
  | _=>.bad
 | .lookup t m k ok=>match X.T t with
  | .mp a b=>.lkp (Zw1 (X.T a)) (ZvR X.T 9 a) ok (ZvK X false b) (Zr1 X h false 0 m) (Zr1 X h false a k)
  | _=>.bad
 | .makeSlice t l c=>.mks (Zvk X (ZvC X t)) (ZvK X false (ZvC X t)) (ZwL X t) (Zr1 X h false 0 l) (Zr1 X h false 0 c)
 | .slice t x a b c=>match X.T t with
  | .s=>.ssl (Zr1 X h false t x) (a.map (Zr1 X h false 0)) (b.map (Zr1 X h false 0))
  | _=>.slc (Zvk X (ZvC X t)) (Zr1 X h false t x) (a.map (Zr1 X h false 0)) (b.map (Zr1 X h false 0)) (c.map (Zr1 X h false 0))
 | .range _ x=>.rng (Zr1 X h false 0 x)
 | .next x _=>.nxt (Zr1 X h false 0 x)
 | .makeInterface t x=>.mkif t (Zr1 X h false t x)
 | .call c=>Zzz X h c
 | _=>.bad
def Zwq:Operand→Nat
 | .tmp t=>1 <<< t
 | _=>0
def ZwN (l:List Operand):Nat:=l.foldr (fun x m=>Zwq x ||| m) 0
def ZzB:Op→List Operand
 | .call c=>(match c.callee with | .value f=>[f] | _=>[])++c.args.toList
 | .build _ ps | .buildSlice _ _ ps=>ps.toList.map (·.2)
 | .makeFunc _ a b=>a.toList++b.toList
 | .slice _ x a b c=>x::(a.toList++(b.toList++c.toList))
 | .makeMap _ r=>r.toList
 | .move x | .assign x | .box _ x | .load _ x | .nilCheck x | .unOp _ _ x | .convert _ _ x | .makeInterface _ x | .fieldAddr _ x _ | .field _ x _ | .range _ x | .next x _ | .extract x _=>[x]
 | .pick c a b=>[c,a,b]
 | .store _ a v | .binOp _ _ a v _ | .makeSlice _ a v | .indexAddr _ a v | .index _ a v | .lookup _ a v _=>[a,v]
 | .mapUpdate _ m k v | .insert _ m k v=>[m,k,v]
 | _=>[]
def ZwO (l:List Oper) (j:Nat):Option Nat:=match l with
 | []=>none
 | o::r=>bif j==0 then o.dst else ZwO r (j - 1)
def ZzC (ops:List Oper):Option (Nat×Bool)→Nat
 | some (j,_)=>(match ZwO ops j with | some d=>1 <<< d | none=>0)
 | none=>0
def Zy0 (ops:List Oper) (o:Oper) (m:Nat):Nat:=
 (match o.dst with | some d=>(m ||| (1 <<< d)) ^^^ (1 <<< d) | none=>m) ||| (ZwN (ZzB o.op) ||| ZzC ops o.guard)
def ZvO:List (Nat×Nat)→Nat→Nat
 | [],_=>0
 | p::r,i=>bif p.1==i then p.2 else ZvO r i
def Zy1 (f:Nat→Nat):Nat→Nat→Nat
 | 0,l=>l
 | n+1,l=>(fun m=>bif m==l then l else Zy1 f n m) (l ||| f l)
def ZzD (x:List (Nat×Nat)):Nat:=x.foldr (fun p m=>p.2 ||| m) 0
def ZvD:List (Nat×Nat)→Nat→Code→Nat→Nat
 | _,_,.region _ ops _,out=>ops.toList.foldr (Zy0 ops.toList) out
 | x,rt,.seq a b,out=>ZvD x rt a (ZvD x rt b out)
 | x,rt,.cond c a b,out=>Zwq c ||| (ZvD x rt a out ||| ZvD x rt b out)
 | x,rt,.block id b,out=>ZvD ((id,out)::x) rt b out
 | x,rt,.loop b,_=>Zy1 (fun l=>ZvD x rt b l) 8 0
 | x,rt,.rangeFunc f ps a b,out=>(fun m=>Zwq f ||| (((m ||| ZwN (ps.toList.map .tmp)) ^^^ ZwN (ps.toList.map .tmp)) ||| (out ||| (ZzD x ||| rt)))) (ZvD [] 0 a (ZvD [] 0 b 0))
 | x,_,.exit id,_=>ZvO x id
 | _,rt,.ret,_=>rt
 | _,_,_,out=>out
def Zw3:List (Nat×Nat)→Nat→Code→Nat
 | x,_,.exit i=>ZvO x i
 | _,rt,.ret=>rt
 | x,rt,.seq a b | x,rt,.cond _ a b | x,rt,.rangeFunc _ _ a b=>Zw3 x rt a ||| Zw3 x rt b
 | x,rt,.block id b=>Zw3 ((id,0)::x) rt b
 | x,rt,.loop b=>Zw3 x rt b
 | _,_,_=>0
def Zvs:Code→Nat
 | .seq a b | .cond _ a b=>Zvs a+Zvs b
 | .block _ b=>Zvs b
 | .loop b=>Zvs b+1
 | .rangeFunc _ _ a b=>Zvs a+Zvs b+1
 | _=>0
def ZwP:List Nat→Nat→Nat→List Nat→List Nat
 | [],o,m,acc=>bif m==0 then acc else o::acc
 | k::r,o,m,acc=>bif m==0 then acc else ZwP r o (m ^^^ ((m >>> k) <<< k)) (ZwP r (o+k) (m >>> k) acc)
def Zw9 (m:Nat):List Nat:=ZwP [256,128,64,32,16,8,4,2,1] 0 m []
def ZzE (ops:List Oper):Option (Nat×Bool)→Option (Nat×Bool)
 | some (j,b)=>(match ZwO ops j with | some d=>some (d,b) | none=>none)
 | none=>none
def ZwQ (X:CoCx) (ops:List Oper) (r:Nat):List Oper→Nat→List AOper
 | [],_=>[]
 | o::l,i=>⟨o.dst,ZzA X (ZvO X.H (100 * r+i)) o.type o.op,ZzE ops o.guard⟩::ZwQ X ops r l (i+1)
def Zy2 (ms:List Nat):Nat→Nat
 | 0=>0
 | i+1=>bif ZvB 0 ms i % 2 ^ i==2 ^ i - 1 then Zy2 ms i else i+1
def ZwR (m:Nat) (q:AOp):List AOper→Nat→List Nat
 | [],_=>[]
 | p::l,j=>bif m % 2==1||X3 q&&X3 p.op then ZwR (m / 2) q l (j+1) else j::ZwR (m / 2) q l (j+1)
def Zy3 (ms:List Nat) (p1:List AOper):List AOper→Nat→List (List Nat)
 | [],_=>[]
 | q::l,i=>ZwR (ZvB 0 ms i) q.op (p1.take i) 0::Zy3 ms p1 l (i+1)
def ZzF (ms:List Nat) (qs:List AOper):ACode:=(fun k=>.draw (Zy3 ms (qs.take k) (qs.take k) 0) (qs.take k) (qs.drop k)) (Zy2 ms qs.length)
def ZzG (X:CoCx) (r:Nat) (ops:List Oper) (out:Nat) (qs:List AOper):ACode:=
 bif ZvO X.H (100 * r+99)==0 then (bif Nat.blt 2 qs.length then .keep (Zw9 out) (.region qs) else .region qs) else
 match qs,ops with
 | [⟨some d,.fadr off p,_⟩,⟨_,.store _ _ (.c (.isl _ _ s _)),_⟩],_=>.nils s d off p
 | [⟨some d,_,_⟩],[o]=>match o.op with
  | .alloc t=>.zbox d (Zvk X t) (ZvK X true t) [(ZvO X.H (100 * r+99) / 100 - 1,ZvO X.H (100 * r+99) % 100)]
  | _=>.bad
 | _,_=>.bad
def ZvL (X:CoCx):List (Nat×Nat)→Nat→Nat→Code→Nat→ACode×Nat×List ACode
 | _,_,_,.skip,out=>(.skip,out,[])
 | _,_,_,.label _,out=>(.skip,out,[])
 | _,_,_,.region r ops d,out=>
  (bif d then .keep (Zw9 out) (ZzF (YS ops.toList []) (ZwQ X ops.toList r ops.toList 0)) else ZzG X r ops.toList out (ZwQ X ops.toList r ops.toList 0),ops.toList.foldr (Zy0 ops.toList) out,[])
 | x,rt,k,.seq a b,out=>
  match ZvL X x rt (k+Zvs a) b out with
  | (cb,lb,db)=>match ZvL X x rt k a lb with
   | (ca,la,da)=>(.seq ca cb,la,da++db)
 | x,rt,k,.cond c a b,out=>
  match ZvL X x rt k a out,ZvL X x rt (k+Zvs a) b out with
  | (ca,la,da),(cb,lb,db)=>(.cond (Zr1 X 0 false 0 c) ca cb,Zwq c ||| (la ||| lb),da++db)
 | x,rt,k,.block id b,out=>
  match ZvL X ((id,out)::x) rt k b out with
  | (cb,lb,db)=>(.keep (Zw9 (out ||| Zw3 x rt (.block id b))) (.block id cb),lb,db)
 | x,rt,k,.loop b,_=>
  (fun l=>match ZvL X x rt k b l with
   | (cb,_,db)=>(X.N (2 * (k+Zvs b)+1),l,db++[.keep (Zw9 (l ||| Zw3 x rt b)) cb,.loop (Zw9 l) (X.N (2 * (k+Zvs b)))])) (ZvD x rt (.loop b) 0)
 | x,rt,k,.rangeFunc f ps a b,out=>
  match ZvL X [] 0 k a (ZvD [] 0 b 0),ZvL X [] 0 (k+Zvs a) b 0 with
  | (ca,_,da),(cb,_,db)=>(.rangeFunc (Zr1 X 0 false 0 f) ps.toList (X.N (2 * (k+Zvs a+Zvs b))) (X.N (2 * (k+Zvs a+Zvs b)+1)),ZvD x rt (.rangeFunc f ps a b) out,da++(db++[ca,cb]))
 | x,_,_,.exit id,_=>(.exit id,ZvO x id,[])
 | _,rt,_,.ret,_=>(.ret,rt,[])
 | _,_,_,_,out=>(.bad,out,[])
def Zy4 (f:Func):Nat:=f.results.toList.foldr (fun r m=>(match r with | .tmp t=>1 <<< t | .cell t _=>1 <<< t) ||| m) 0
def ZzH (X:CoCx) (f:Func):List ACode:=
 match f.body with
 | some c=>match ZvL X [] (Zy4 f) 0 c (Zy4 f) with
  | (q,_,ds)=>ds++[q]
 | none=>[]
abbrev CoV {α:Type} (a:α):={c:α // a=c}
def coY (X:(Nat→ACode)→List ACode) (l:List ACode) (n:Nat):ACode:=ZvB .bad (X (ZvB .bad l)) n
def Zr2:ACode→List Nat→ACode
 | c,[]=>c
 | .seq a b,i::r=>bif i==0 then Zr2 a r else Zr2 b r
 | .cond _ a b,i::r=>bif i==0 then Zr2 a r else Zr2 b r
 | .block _ a,_::r=>Zr2 a r
 | .keep _ a,_::r=>Zr2 a r
 | .loop _ a,_::r=>Zr2 a r
 | c,_=>c
def Zvt (t:Nat):List (Nat×CoTy)→CoTy
 | []=>.i .i64
 | p::r=>bif p.1==t then p.2 else Zvt t r
end Go.AM
set_option maxRecDepth 100000
namespace Go.AM
open Go Go.Proofs.Tryz
def coT (t:Nat):CoTy:=bif Nat.blt t 29 then Zvt t [(4,.b),(5,.i .u8),(9,.s),(21,.i .i32),(22,.sl 47 120),(25,.sl 55 16),(27,.sl 67 88),(28,.sl 83 80)] else bif Nat.blt t 45 then Zvt t [(29,.sl 85 56),(30,.sl 87 184),(31,.sl 90 72),(33,.st [27,28,29,30,31,25,25]),(34,.sl 56 8),(35,.o),(42,.sl 65 240),(43,.sl 9 16)] else bif Nat.blt t 63 then Zvt t [(45,.st [3,43,43]),(47,.st [3,3,3,9,42,45]),(50,.sl 3 8),(55,.ar 2 3),(58,.st [3,3]),(59,.sl 58 16),(60,.sl 138 40),(62,.st [3,9,3,3])] else bif Nat.blt t 85 then Zvt t [(63,.sl 101 72),(65,.st [3,3,3,3,3,9,9,9,43,60,62,58,59,63]),(67,.st [9,3,3,59,60,3]),(68,.f),(70,.f),(75,.f),(77,.o),(83,.st [9,3,59,60,3])] else bif Nat.blt t 110 then Zvt t [(85,.st [9,3,59,3]),(87,.st [9,9,9,3,62,58,3,3,43,3,3,9]),(90,.st [9,9,9,3,3,3]),(101,.st [9,62,58]),(102,.f),(103,.mp 105 4),(105,.st [3,3]),(109,.f)] else bif Nat.blt t 121 then Zvt t [(110,.p),(111,.o),(113,.p),(116,.st [110,65,3,3]),(117,.f),(118,.sl 117 8),(119,.f),(120,.p)] else bif Nat.blt t 145 then Zvt t [(121,.ar 16 119),(123,.st [33,3,65,43]),(124,.mp 3 4),(126,.f),(129,.mp 131 4),(131,.st [9,62]),(132,.sl 25 24),(138,.st [9,3,9])] else bif Nat.blt t 171 then Zvt t [(145,.o),(151,.mp 3 3),(153,.st [33,151]),(155,.ar 16 68),(158,.f),(160,.f),(167,.f),(170,.p)] else bif Nat.blt t 190 then Zvt t [(171,.f),(174,.p),(175,.f),(179,.f),(182,.p),(183,.f),(186,.p),(187,.f)] else bif Nat.blt t 236 then Zvt t [(190,.p),(191,.f),(194,.f),(196,.f),(205,.f),(208,.f),(221,.f),(226,.f)] else bif Nat.blt t 258 then Zvt t [(236,.sl 240 40),(237,.o),(240,.st [3,3,3,9]),(241,.sl 58 16),(246,.f),(248,.sl 62 40),(252,.f),(255,.ar 256 3)] else bif Nat.blt t 281 then Zvt t [(258,.st [9,255]),(259,.o),(263,.f),(268,.mp 138 4),(269,.mp 9 4),(272,.st [3,3]),(273,.ar 28 272),(276,.mp 62 4)] else bif Nat.blt t 298 then Zvt t [(281,.f),(282,.p),(286,.j),(287,.o),(290,.f),(292,.st [58,58]),(294,.st [3,3]),(296,.st [292,294])] else Zvt t [(298,.f)]
abbrev CoX (e:ByteArray) (S:List ByteArray) (H:List (Nat×Nat)) (f:Func) (N:Nat→ACode):List ACode:=ZzH ⟨coT,e,S,H,N⟩ f
abbrev CoW (H:List (Nat×Nat)) (f:Func) (e:ByteArray):ACode:=coY (CoX e [] H f) [] 0
abbrev CoU (X:ByteArray→(Nat→ACode)→List ACode) (e:ByteArray) (l:List ACode) (n:Nat):ACode:=coY (X e) l n
def c3:=(fun e=>(⟨_,by cbv⟩:CoV (CoW [(607,1),(700,2),(710,1),(1010,2)] f3 e)).1) emp
def Zvz (e) (s0) (s1) (N):=(⟨_,by cbv⟩:CoV (CoX e [s0,s1] [(200,2),(202,1),(303,16),(304,1),(404,2),(605,1),(705,1),(805,1),(900,2),(907,2),(1104,16),(1108,2),(1205,1),(1315,2)] f8 N)).1
def s8p0:=(fun e s0 s1=>(⟨_,by cbv⟩:CoV (Zr2 (coY (Zvz e s0 s1) [] 0) [0])).1) emp (B [109,49]) (B [115,49])
def s8p1:=(fun e s0 s1=>(⟨_,by cbv⟩:CoV (Zr2 (coY (Zvz e s0 s1) [] 0) [1,0])).1) emp (B [109,49]) (B [115,49])
def s8p2:=(fun e s0 s1=>(⟨_,by cbv⟩:CoV (Zr2 (coY (Zvz e s0 s1) [] 0) [1,1,0])).1) emp (B [109,49]) (B [115,49])
def s8p3:=(fun e s0 s1=>(⟨_,by cbv⟩:CoV (Zr2 (coY (Zvz e s0 s1) [] 0) [1,1,1,0])).1) emp (B [109,49]) (B [115,49])
def s8p4:=(fun e s0 s1=>(⟨_,by cbv⟩:CoV (Zr2 (coY (Zvz e s0 s1) [] 0) [1,1,1,1,0])).1) emp (B [109,49]) (B [115,49])
def s8p5:=(fun e s0 s1=>(⟨_,by cbv⟩:CoV (Zr2 (coY (Zvz e s0 s1) [] 0) [1,1,1,1,1,0])).1) emp (B [109,49]) (B [115,49])
def s8p6:=(fun e s0 s1=>(⟨_,by cbv⟩:CoV (Zr2 (coY (Zvz e s0 s1) [] 0) [1,1,1,1,1,1,0])).1) emp (B [109,49]) (B [115,49])
def s8p7:=(fun e s0 s1=>(⟨_,by cbv⟩:CoV (Zr2 (coY (Zvz e s0 s1) [] 0) [1,1,1,1,1,1,1,0])).1) emp (B [109,49]) (B [115,49])
def s8p8:=(fun e s0 s1=>(⟨_,by cbv⟩:CoV (Zr2 (coY (Zvz e s0 s1) [] 0) [1,1,1,1,1,1,1,1,0])).1) emp (B [109,49]) (B [115,49])
def s8p9:=(fun e s0 s1=>(⟨_,by cbv⟩:CoV (Zr2 (coY (Zvz e s0 s1) [] 0) [1,1,1,1,1,1,1,1,1,0])).1) emp (B [109,49]) (B [115,49])
def s8p10:=(fun e s0 s1=>(⟨_,by cbv⟩:CoV (Zr2 (coY (Zvz e s0 s1) [] 0) [1,1,1,1,1,1,1,1,1,1,0])).1) emp (B [109,49]) (B [115,49])
def s8p11:=(fun e s0 s1=>(⟨_,by cbv⟩:CoV (Zr2 (coY (Zvz e s0 s1) [] 0) [1,1,1,1,1,1,1,1,1,1,1,0])).1) emp (B [109,49]) (B [115,49])
def s8p12:=(fun e s0 s1=>(⟨_,by cbv⟩:CoV (Zr2 (coY (Zvz e s0 s1) [] 0) [1,1,1,1,1,1,1,1,1,1,1,1,0])).1) emp (B [109,49]) (B [115,49])
def c8:ACode:=.seq s8p0 (.seq s8p1 (.seq s8p2 (.seq s8p3 (.seq s8p4 (.seq s8p5 (.seq s8p6 (.seq s8p7 (.seq s8p8 (.seq s8p9 (.seq s8p10 (.seq s8p11 (.seq s8p12 .ret))))))))))))
def Zwi (e) (N):=(⟨_,by cbv⟩:CoV (CoX e [] [] f9 N)).1
def c9L0b:=(fun e=>(⟨_,by cbv⟩:CoV (CoU Zwi e [] 0)).1) emp
def c9L0:=(fun e a=>(⟨_,by cbv⟩:CoV (CoU Zwi e [a] 1)).1) emp c9L0b
def c9L1b:=(fun e a b=>(⟨_,by cbv⟩:CoV (CoU Zwi e [a,b] 2)).1) emp c9L0b c9L0
def c9L1:=(fun e a b c=>(⟨_,by cbv⟩:CoV (CoU Zwi e [a,b,c] 3)).1) emp c9L0b c9L0 c9L1b
def c9:=(fun e a b c d=>(⟨_,by cbv⟩:CoV (CoU Zwi e [a,b,c,d] 4)).1) emp c9L0b c9L0 c9L1b c9L1
def X10 (e) (N):=(⟨_,by cbv⟩:CoV (CoX e [] [(199,102),(100,1),(203,1),(300,1),(502,1)] f10 N)).1
def c10R0a:=(fun e=>(⟨_,by cbv⟩:CoV (CoU X10 e [] 0)).1) emp
def c10R0b:=(fun e a=>(⟨_,by cbv⟩:CoV (CoU X10 e [a] 1)).1) emp c10R0a
def c10:=(fun e a b=>(⟨_,by cbv⟩:CoV (CoU X10 e [a,b] 2)).1) emp c10R0a c10R0b
def X11 (e) (N):=(⟨_,by cbv⟩:CoV (CoX e [] [(0,1),(100,1),(200,1),(502,1),(616,1),(900,1)] f11 N)).1
def c11L0b:=(fun e=>(⟨_,by cbv⟩:CoV (CoU X11 e [] 0)).1) emp
def c11L0:=(fun e a=>(⟨_,by cbv⟩:CoV (CoU X11 e [a] 1)).1) emp c11L0b
def c11:=(fun e a b=>(⟨_,by cbv⟩:CoV (CoU X11 e [a,b] 2)).1) emp c11L0b c11L0
def X12 (e) (N):=(⟨_,by cbv⟩:CoV (CoX e [] [(302,1),(902,1),(1502,1),(2103,1),(2702,1)] f12 N)).1
def c12L0b:=(fun e=>(⟨_,by cbv⟩:CoV (CoU X12 e [] 0)).1) emp
def c12L0:=(fun e a=>(⟨_,by cbv⟩:CoV (CoU X12 e [a] 1)).1) emp c12L0b
def c12L1b:=(fun e a b=>(⟨_,by cbv⟩:CoV (CoU X12 e [a,b] 2)).1) emp c12L0b c12L0
def c12L1:=(fun e a b c=>(⟨_,by cbv⟩:CoV (CoU X12 e [a,b,c] 3)).1) emp c12L0b c12L0 c12L1b
def c12L2b:=(fun e a b c d=>(⟨_,by cbv⟩:CoV (CoU X12 e [a,b,c,d] 4)).1) emp c12L0b c12L0 c12L1b c12L1
def c12L2:=(fun e a b c d g=>(⟨_,by cbv⟩:CoV (CoU X12 e [a,b,c,d,g] 5)).1) emp c12L0b c12L0 c12L1b c12L1 c12L2b
def c12L3b:=(fun e a b c d g h=>(⟨_,by cbv⟩:CoV (CoU X12 e [a,b,c,d,g,h] 6)).1) emp c12L0b c12L0 c12L1b c12L1 c12L2b c12L2
def c12L3:=(fun e a b c d g h i=>(⟨_,by cbv⟩:CoV (CoU X12 e [a,b,c,d,g,h,i] 7)).1) emp c12L0b c12L0 c12L1b c12L1 c12L2b c12L2 c12L3b
def c12L4b:=(fun e a b c d g h i j=>(⟨_,by cbv⟩:CoV (CoU X12 e [a,b,c,d,g,h,i,j] 8)).1) emp c12L0b c12L0 c12L1b c12L1 c12L2b c12L2 c12L3b c12L3
def c12L4:=(fun e a b c d g h i j k=>(⟨_,by cbv⟩:CoV (CoU X12 e [a,b,c,d,g,h,i,j,k] 9)).1) emp c12L0b c12L0 c12L1b c12L1 c12L2b c12L2 c12L3b c12L3 c12L4b
def c12:=(fun e a b c d g h i j k l=>(⟨_,by cbv⟩:CoV (CoU X12 e [a,b,c,d,g,h,i,j,k,l] 10)).1) emp c12L0b c12L0 c12L1b c12L1 c12L2b c12L2 c12L3b c12L3 c12L4b c12L4
def X13 (e) (N):=(⟨_,by cbv⟩:CoV (CoX e [] [] f13 N)).1
def c13L0b:=(fun e=>(⟨_,by cbv⟩:CoV (CoU X13 e [] 0)).1) emp
def c13L0:=(fun e a=>(⟨_,by cbv⟩:CoV (CoU X13 e [a] 1)).1) emp c13L0b
def c13:=(fun e a b=>(⟨_,by cbv⟩:CoV (CoU X13 e [a,b] 2)).1) emp c13L0b c13L0
def X14 (e) (N):=(⟨_,by cbv⟩:CoV (CoX e [] [] f14 N)).1
def c14L0b:=(fun e=>(⟨_,by cbv⟩:CoV (CoU X14 e [] 0)).1) emp
def c14L0:=(fun e a=>(⟨_,by cbv⟩:CoV (CoU X14 e [a] 1)).1) emp c14L0b
def c14:=(fun e a b=>(⟨_,by cbv⟩:CoV (CoU X14 e [a,b] 2)).1) emp c14L0b c14L0
def X16 (e) (N):=(⟨_,by cbv⟩:CoV (CoX e [] [] f16 N)).1
def c16L0b:=(fun e=>(⟨_,by cbv⟩:CoV (CoU X16 e [] 0)).1) emp
def c16L0:=(fun e a=>(⟨_,by cbv⟩:CoV (CoU X16 e [a] 1)).1) emp c16L0b
def c16L1b:=(fun e a b=>(⟨_,by cbv⟩:CoV (CoU X16 e [a,b] 2)).1) emp c16L0b c16L0
def c16L1:=(fun e a b c=>(⟨_,by cbv⟩:CoV (CoU X16 e [a,b,c] 3)).1) emp c16L0b c16L0 c16L1b
def c16L2b:=(fun e a b c d=>(⟨_,by cbv⟩:CoV (CoU X16 e [a,b,c,d] 4)).1) emp c16L0b c16L0 c16L1b c16L1
def c16L2:=(fun e a b c d g=>(⟨_,by cbv⟩:CoV (CoU X16 e [a,b,c,d,g] 5)).1) emp c16L0b c16L0 c16L1b c16L1 c16L2b
def c16L3b:=(fun e a b c d g h=>(⟨_,by cbv⟩:CoV (CoU X16 e [a,b,c,d,g,h] 6)).1) emp c16L0b c16L0 c16L1b c16L1 c16L2b c16L2
def c16L3:=(fun e a b c d g h i=>(⟨_,by cbv⟩:CoV (CoU X16 e [a,b,c,d,g,h,i] 7)).1) emp c16L0b c16L0 c16L1b c16L1 c16L2b c16L2 c16L3b
def c16L4b:=(fun e a b c d g h i j=>(⟨_,by cbv⟩:CoV (CoU X16 e [a,b,c,d,g,h,i,j] 8)).1) emp c16L0b c16L0 c16L1b c16L1 c16L2b c16L2 c16L3b c16L3
def c16L4:=(fun e a b c d g h i j k=>(⟨_,by cbv⟩:CoV (CoU X16 e [a,b,c,d,g,h,i,j,k] 9)).1) emp c16L0b c16L0 c16L1b c16L1 c16L2b c16L2 c16L3b c16L3 c16L4b
def c16:=(fun e a b c d g h i j k l=>(⟨_,by cbv⟩:CoV (CoU X16 e [a,b,c,d,g,h,i,j,k,l] 10)).1) emp c16L0b c16L0 c16L1b c16L1 c16L2b c16L2 c16L3b c16L3 c16L4b c16L4
def X17 (e) (N):=(⟨_,by cbv⟩:CoV (CoX e [] [] f17 N)).1
def c17L0b:=(fun e=>(⟨_,by cbv⟩:CoV (CoU X17 e [] 0)).1) emp
def c17L0:=(fun e a=>(⟨_,by cbv⟩:CoV (CoU X17 e [a] 1)).1) emp c17L0b
def c17:=(fun e a b=>(⟨_,by cbv⟩:CoV (CoU X17 e [a,b] 2)).1) emp c17L0b c17L0
def X18 (e) (N):=(⟨_,by cbv⟩:CoV (CoX e [] [(206,1),(300,1),(603,1),(1001,1)] f18 N)).1
def c18L0b:=(fun e=>(⟨_,by cbv⟩:CoV (CoU X18 e [] 0)).1) emp
def c18L0:=(fun e a=>(⟨_,by cbv⟩:CoV (CoU X18 e [a] 1)).1) emp c18L0b
def c18:=(fun e a b=>(⟨_,by cbv⟩:CoV (CoU X18 e [a,b] 2)).1) emp c18L0b c18L0
def X20 (e) (N):=(⟨_,by cbv⟩:CoV (CoX e [] [] f20 N)).1
def c20L0b:=(fun e=>(⟨_,by cbv⟩:CoV (CoU X20 e [] 0)).1) emp
def c20L0:=(fun e a=>(⟨_,by cbv⟩:CoV (CoU X20 e [a] 1)).1) emp c20L0b
def c20:=(fun e a b=>(⟨_,by cbv⟩:CoV (CoU X20 e [a,b] 2)).1) emp c20L0b c20L0
def c21:=(fun e=>(⟨_,by cbv⟩:CoV (CoW [] f21 e)).1) emp
def c23:=(fun e=>(⟨_,by cbv⟩:CoV (CoW [(110,1),(111,1)] f23 e)).1) emp
def X24 (e) (N):=(⟨_,by cbv⟩:CoV (CoX e [] [] f24 N)).1
def c24L0b:=(fun e=>(⟨_,by cbv⟩:CoV (CoU X24 e [] 0)).1) emp
def c24L0:=(fun e a=>(⟨_,by cbv⟩:CoV (CoU X24 e [a] 1)).1) emp c24L0b
def c24:=(fun e a b=>(⟨_,by cbv⟩:CoV (CoU X24 e [a,b] 2)).1) emp c24L0b c24L0
def c25:=(fun e=>(⟨_,by cbv⟩:CoV (CoW [] f25 e)).1) emp
def X26 (e) (N):=(⟨_,by cbv⟩:CoV (CoX e [] [] f26 N)).1
def c26L0b:=(fun e=>(⟨_,by cbv⟩:CoV (CoU X26 e [] 0)).1) emp
def c26L0:=(fun e a=>(⟨_,by cbv⟩:CoV (CoU X26 e [a] 1)).1) emp c26L0b
def c26:=(fun e a b=>(⟨_,by cbv⟩:CoV (CoU X26 e [a,b] 2)).1) emp c26L0b c26L0
def X27 (e) (N):=(⟨_,by cbv⟩:CoV (CoX e [] [(2,1),(301,1),(406,1),(505,1)] f27 N)).1
def s27p0:=(fun e=>(⟨_,by cbv⟩:CoV (Zr2 (CoU X27 e [] 0) [0])).1) emp
def s27p1:=(fun e=>(⟨_,by cbv⟩:CoV (Zr2 (CoU X27 e [] 0) [1,0])).1) emp
def s27p2:=(fun e=>(⟨_,by cbv⟩:CoV (Zr2 (CoU X27 e [] 0) [1,1,0])).1) emp
def s27p3:=(fun e=>(⟨_,by cbv⟩:CoV (Zr2 (CoU X27 e [] 0) [1,1,1,0])).1) emp
def s27p4:=(fun e=>(⟨_,by cbv⟩:CoV (Zr2 (CoU X27 e [] 0) [1,1,1,1,0])).1) emp
def s27p5:=(fun e=>(⟨_,by cbv⟩:CoV (Zr2 (CoU X27 e [] 0) [1,1,1,1,1,0])).1) emp
def s27p6:=(fun e=>(⟨_,by cbv⟩:CoV (Zr2 (CoU X27 e [] 0) [1,1,1,1,1,1,0])).1) emp
def c27:ACode:=.seq s27p0 (.seq s27p1 (.seq s27p2 (.seq s27p3 (.seq s27p4 (.seq s27p5 (.seq s27p6 .ret))))))
def c28:=(fun e=>(⟨_,by cbv⟩:CoV (CoW [] f28 e)).1) emp
def c29:=(fun e s0=>(⟨_,by cbv⟩:CoV (coY (CoX e [s0] [(104,2)] f29) [] 0)).1) emp (B [120])
def c30:=(fun e=>(⟨_,by cbv⟩:CoV (CoW [(0,1)] f30 e)).1) emp
def X31 (e) (N):=(⟨_,by cbv⟩:CoV (CoX e [] [(105,1)] f31 N)).1
def c31L0b:=(fun e=>(⟨_,by cbv⟩:CoV (CoU X31 e [] 0)).1) emp
def c31L0:=(fun e a=>(⟨_,by cbv⟩:CoV (CoU X31 e [a] 1)).1) emp c31L0b
def s31p0:=(fun e a b=>(⟨_,by cbv⟩:CoV (Zr2 (CoU X31 e [a,b] 2) [0])).1) emp c31L0b c31L0
def s31p1:=(fun e a b=>(⟨_,by cbv⟩:CoV (Zr2 (CoU X31 e [a,b] 2) [1,0])).1) emp c31L0b c31L0
def s31p2:=(fun e a b=>(⟨_,by cbv⟩:CoV (Zr2 (CoU X31 e [a,b] 2) [1,1,0])).1) emp c31L0b c31L0
def s31p3:=(fun e a b=>(⟨_,by cbv⟩:CoV (Zr2 (CoU X31 e [a,b] 2) [1,1,1,0])).1) emp c31L0b c31L0
def s31p4:=(fun e a b=>(⟨_,by cbv⟩:CoV (Zr2 (CoU X31 e [a,b] 2) [1,1,1,1,0])).1) emp c31L0b c31L0
def s31p5:=(fun e a b=>(⟨_,by cbv⟩:CoV (Zr2 (CoU X31 e [a,b] 2) [1,1,1,1,1,0])).1) emp c31L0b c31L0
def s31p6:=(fun e a b=>(⟨_,by cbv⟩:CoV (Zr2 (CoU X31 e [a,b] 2) [1,1,1,1,1,1,0])).1) emp c31L0b c31L0
def s31p7:=(fun e a b=>(⟨_,by cbv⟩:CoV (Zr2 (CoU X31 e [a,b] 2) [1,1,1,1,1,1,1,0])).1) emp c31L0b c31L0
def s31p8:=(fun e a b=>(⟨_,by cbv⟩:CoV (Zr2 (CoU X31 e [a,b] 2) [1,1,1,1,1,1,1,1,0])).1) emp c31L0b c31L0
def s31p9:=(fun e a b=>(⟨_,by cbv⟩:CoV (Zr2 (CoU X31 e [a,b] 2) [1,1,1,1,1,1,1,1,1,0])).1) emp c31L0b c31L0
def s31p10:=(fun e a b=>(⟨_,by cbv⟩:CoV (Zr2 (CoU X31 e [a,b] 2) [1,1,1,1,1,1,1,1,1,1,0])).1) emp c31L0b c31L0
def c31:ACode:=.seq s31p0 (.seq s31p1 (.seq s31p2 (.seq s31p3 (.seq s31p4 (.seq s31p5 (.seq s31p6 (.seq s31p7 (.seq s31p8 (.seq s31p9 (.seq s31p10 .ret))))))))))
def c32:=(fun e=>(⟨_,by cbv⟩:CoV (CoW [] f32 e)).1) emp
def c33:=(fun e=>(⟨_,by cbv⟩:CoV (CoW [(100,2),(101,1),(301,1),(401,1)] f33 e)).1) emp
def X34 (e) (N):=(⟨_,by cbv⟩:CoV (CoX e [] [(100,1),(402,1),(902,1),(1402,1),(1902,1),(2402,1)] f34 N)).1
def c34L0b:=(fun e=>(⟨_,by cbv⟩:CoV (CoU X34 e [] 0)).1) emp
def c34L0:=(fun e a=>(⟨_,by cbv⟩:CoV (CoU X34 e [a] 1)).1) emp c34L0b
def c34L1b:=(fun e a b=>(⟨_,by cbv⟩:CoV (CoU X34 e [a,b] 2)).1) emp c34L0b c34L0
def c34L1:=(fun e a b c=>(⟨_,by cbv⟩:CoV (CoU X34 e [a,b,c] 3)).1) emp c34L0b c34L0 c34L1b
def c34L2b:=(fun e a b c d=>(⟨_,by cbv⟩:CoV (CoU X34 e [a,b,c,d] 4)).1) emp c34L0b c34L0 c34L1b c34L1
def c34L2:=(fun e a b c d g=>(⟨_,by cbv⟩:CoV (CoU X34 e [a,b,c,d,g] 5)).1) emp c34L0b c34L0 c34L1b c34L1 c34L2b
def c34L3b:=(fun e a b c d g h=>(⟨_,by cbv⟩:CoV (CoU X34 e [a,b,c,d,g,h] 6)).1) emp c34L0b c34L0 c34L1b c34L1 c34L2b c34L2
def c34L3:=(fun e a b c d g h i=>(⟨_,by cbv⟩:CoV (CoU X34 e [a,b,c,d,g,h,i] 7)).1) emp c34L0b c34L0 c34L1b c34L1 c34L2b c34L2 c34L3b
def c34L4b:=(fun e a b c d g h i j=>(⟨_,by cbv⟩:CoV (CoU X34 e [a,b,c,d,g,h,i,j] 8)).1) emp c34L0b c34L0 c34L1b c34L1 c34L2b c34L2 c34L3b c34L3
def c34L4:=(fun e a b c d g h i j k=>(⟨_,by cbv⟩:CoV (CoU X34 e [a,b,c,d,g,h,i,j,k] 9)).1) emp c34L0b c34L0 c34L1b c34L1 c34L2b c34L2 c34L3b c34L3 c34L4b
def c34:=(fun e a b c d g h i j k l=>(⟨_,by cbv⟩:CoV (CoU X34 e [a,b,c,d,g,h,i,j,k,l] 10)).1) emp c34L0b c34L0 c34L1b c34L1 c34L2b c34L2 c34L3b c34L3 c34L4b c34L4
def X35 (e) (N):=(⟨_,by cbv⟩:CoV (CoX e [] [(402,1),(505,1)] f35 N)).1
def c35L0b:=(fun e=>(⟨_,by cbv⟩:CoV (CoU X35 e [] 0)).1) emp
def c35L0:=(fun e a=>(⟨_,by cbv⟩:CoV (CoU X35 e [a] 1)).1) emp c35L0b
def c35:=(fun e a b=>(⟨_,by cbv⟩:CoV (CoU X35 e [a,b] 2)).1) emp c35L0b c35L0
def X36 (e) (N):=(⟨_,by cbv⟩:CoV (CoX e [] [(702,1),(1502,1)] f36 N)).1
def c36L0b:=(fun e=>(⟨_,by cbv⟩:CoV (CoU X36 e [] 0)).1) emp
def c36L0:=(fun e a=>(⟨_,by cbv⟩:CoV (CoU X36 e [a] 1)).1) emp c36L0b
def c36L1b:=(fun e a b=>(⟨_,by cbv⟩:CoV (CoU X36 e [a,b] 2)).1) emp c36L0b c36L0
def c36L1:=(fun e a b c=>(⟨_,by cbv⟩:CoV (CoU X36 e [a,b,c] 3)).1) emp c36L0b c36L0 c36L1b
def c36L2b:=(fun e a b c d=>(⟨_,by cbv⟩:CoV (CoU X36 e [a,b,c,d] 4)).1) emp c36L0b c36L0 c36L1b c36L1
def c36L2:=(fun e a b c d g=>(⟨_,by cbv⟩:CoV (CoU X36 e [a,b,c,d,g] 5)).1) emp c36L0b c36L0 c36L1b c36L1 c36L2b
def c36L3b:=(fun e a b c d g h=>(⟨_,by cbv⟩:CoV (CoU X36 e [a,b,c,d,g,h] 6)).1) emp c36L0b c36L0 c36L1b c36L1 c36L2b c36L2
def c36L3:=(fun e a b c d g h i=>(⟨_,by cbv⟩:CoV (CoU X36 e [a,b,c,d,g,h,i] 7)).1) emp c36L0b c36L0 c36L1b c36L1 c36L2b c36L2 c36L3b
def c36:=(fun e a b c d g h i j=>(⟨_,by cbv⟩:CoV (CoU X36 e [a,b,c,d,g,h,i,j] 8)).1) emp c36L0b c36L0 c36L1b c36L1 c36L2b c36L2 c36L3b c36L3
def c38:=(fun e=>(⟨_,by cbv⟩:CoV (CoW [] f38 e)).1) emp
def c39:=(fun e=>(⟨_,by cbv⟩:CoV (CoW [] f39 e)).1) emp
def c40:=(fun e=>(⟨_,by cbv⟩:CoV (CoW [] f40 e)).1) emp
def c41:=(fun e=>(⟨_,by cbv⟩:CoV (CoW [] f41 e)).1) emp
def X42 (e) (N):=(⟨_,by cbv⟩:CoV (CoX e [] [] f42 N)).1
def c42L0b:=(fun e=>(⟨_,by cbv⟩:CoV (CoU X42 e [] 0)).1) emp
def c42L0:=(fun e a=>(⟨_,by cbv⟩:CoV (CoU X42 e [a] 1)).1) emp c42L0b
def c42:=(fun e a b=>(⟨_,by cbv⟩:CoV (CoU X42 e [a,b] 2)).1) emp c42L0b c42L0
def X44 (e) (N):=(⟨_,by cbv⟩:CoV (CoX e [] [] f44 N)).1
def c44L0b:=(fun e=>(⟨_,by cbv⟩:CoV (CoU X44 e [] 0)).1) emp
def c44L0:=(fun e a=>(⟨_,by cbv⟩:CoV (CoU X44 e [a] 1)).1) emp c44L0b
def c44:=(fun e a b=>(⟨_,by cbv⟩:CoV (CoU X44 e [a,b] 2)).1) emp c44L0b c44L0
def X45 (e) (N):=(⟨_,by cbv⟩:CoV (CoX e [] [] f45 N)).1
def c45L0b:=(fun e=>(⟨_,by cbv⟩:CoV (CoU X45 e [] 0)).1) emp
def c45L0:=(fun e a=>(⟨_,by cbv⟩:CoV (CoU X45 e [a] 1)).1) emp c45L0b
def c45:=(fun e a b=>(⟨_,by cbv⟩:CoV (CoU X45 e [a,b] 2)).1) emp c45L0b c45L0
def X46 (e) (N):=(⟨_,by cbv⟩:CoV (CoX e [] [(303,1),(405,1),(1003,1),(1109,1)] f46 N)).1
def c46L0b:=(fun e=>(⟨_,by cbv⟩:CoV (CoU X46 e [] 0)).1) emp
def c46L0:=(fun e a=>(⟨_,by cbv⟩:CoV (CoU X46 e [a] 1)).1) emp c46L0b
def c46L1b:=(fun e a b=>(⟨_,by cbv⟩:CoV (CoU X46 e [a,b] 2)).1) emp c46L0b c46L0
def c46L1:=(fun e a b c=>(⟨_,by cbv⟩:CoV (CoU X46 e [a,b,c] 3)).1) emp c46L0b c46L0 c46L1b
def c46:=(fun e a b c d=>(⟨_,by cbv⟩:CoV (CoU X46 e [a,b,c,d] 4)).1) emp c46L0b c46L0 c46L1b c46L1
def c49:=(fun e=>(⟨_,by cbv⟩:CoV (CoW [] f49 e)).1) emp
def X50 (e) (N):=(⟨_,by cbv⟩:CoV (CoX e [] [(402,1)] f50 N)).1
def c50L0b:=(fun e=>(⟨_,by cbv⟩:CoV (CoU X50 e [] 0)).1) emp
def c50L0:=(fun e a=>(⟨_,by cbv⟩:CoV (CoU X50 e [a] 1)).1) emp c50L0b
def c50:=(fun e a b=>(⟨_,by cbv⟩:CoV (CoU X50 e [a,b] 2)).1) emp c50L0b c50L0
def c51:=(fun e=>(⟨_,by cbv⟩:CoV (CoW [] f51 e)).1) emp
def c52:=(fun e=>(⟨_,by cbv⟩:CoV (CoW [(302,1)] f52 e)).1) emp
def X53 (e) (N):=(⟨_,by cbv⟩:CoV (CoX e [] [] f53 N)).1
def c53L0b:=(fun e=>(⟨_,by cbv⟩:CoV (CoU X53 e [] 0)).1) emp
def c53L0:=(fun e a=>(⟨_,by cbv⟩:CoV (CoU X53 e [a] 1)).1) emp c53L0b
def c53:=(fun e a b=>(⟨_,by cbv⟩:CoV (CoU X53 e [a,b] 2)).1) emp c53L0b c53L0
def c54:=(fun e=>(⟨_,by cbv⟩:CoV (CoW [] f54 e)).1) emp
def X55 (e) (N):=(⟨_,by cbv⟩:CoV (CoX e [] [(1,1),(108,1)] f55 N)).1
def c55R0a:=(fun e=>(⟨_,by cbv⟩:CoV (CoU X55 e [] 0)).1) emp
def c55R0b:=(fun e a=>(⟨_,by cbv⟩:CoV (CoU X55 e [a] 1)).1) emp c55R0a
def c55:=(fun e a b=>(⟨_,by cbv⟩:CoV (CoU X55 e [a,b] 2)).1) emp c55R0a c55R0b
def c56:=(fun e=>(⟨_,by cbv⟩:CoV (CoW [] f56 e)).1) emp
def X57 (e) (N):=(⟨_,by cbv⟩:CoV (CoX e [] [(1102,1),(1500,2)] f57 N)).1
def c57L0b:=(fun e=>(⟨_,by cbv⟩:CoV (CoU X57 e [] 0)).1) emp
def c57L0:=(fun e a=>(⟨_,by cbv⟩:CoV (CoU X57 e [a] 1)).1) emp c57L0b
def c57:=(fun e a b=>(⟨_,by cbv⟩:CoV (CoU X57 e [a,b] 2)).1) emp c57L0b c57L0
def c58:=(fun e=>(⟨_,by cbv⟩:CoV (CoW [(528,1)] f58 e)).1) emp
def c59:=(fun e=>(⟨_,by cbv⟩:CoV (CoW [(323,1)] f59 e)).1) emp
def c60:=(fun e=>(⟨_,by cbv⟩:CoV (CoW [] f60 e)).1) emp
def c61:=(fun e=>(⟨_,by cbv⟩:CoV (CoW [(618,1),(619,1)] f61 e)).1) emp
def c62:=(fun e=>(⟨_,by cbv⟩:CoV (CoW [(323,1)] f62 e)).1) emp
def c63:=(fun e=>(⟨_,by cbv⟩:CoV (CoW [(827,1)] f63 e)).1) emp
def c64:=(fun e=>(⟨_,by cbv⟩:CoV (CoW [(829,1)] f64 e)).1) emp
def X65 (e) (N):=(⟨_,by cbv⟩:CoV (CoX e [] [(1002,1)] f65 N)).1
def c65L0b:=(fun e=>(⟨_,by cbv⟩:CoV (CoU X65 e [] 0)).1) emp
def c65L0:=(fun e a=>(⟨_,by cbv⟩:CoV (CoU X65 e [a] 1)).1) emp c65L0b
def c65:=(fun e a b=>(⟨_,by cbv⟩:CoV (CoU X65 e [a,b] 2)).1) emp c65L0b c65L0
def X66 (e) (N):=(⟨_,by cbv⟩:CoV (CoX e [] [(100,1),(402,1),(1408,1),(1702,1),(1812,1),(2002,2),(2003,1)] f66 N)).1
def c66L0b:=(fun e=>(⟨_,by cbv⟩:CoV (CoU X66 e [] 0)).1) emp
def c66L0:=(fun e a=>(⟨_,by cbv⟩:CoV (CoU X66 e [a] 1)).1) emp c66L0b
def c66L1b:=(fun e a b=>(⟨_,by cbv⟩:CoV (CoU X66 e [a,b] 2)).1) emp c66L0b c66L0
def c66L1:=(fun e a b c=>(⟨_,by cbv⟩:CoV (CoU X66 e [a,b,c] 3)).1) emp c66L0b c66L0 c66L1b
def c66:=(fun e a b c d=>(⟨_,by cbv⟩:CoV (CoU X66 e [a,b,c,d] 4)).1) emp c66L0b c66L0 c66L1b c66L1
def X67 (e) (N):=(⟨_,by cbv⟩:CoV (CoX e [] [(300,1),(1110,1),(1508,1),(1921,1),(2308,1)] f67 N)).1
def c67L0b:=(fun e=>(⟨_,by cbv⟩:CoV (CoU X67 e [] 0)).1) emp
def c67L0:=(fun e a=>(⟨_,by cbv⟩:CoV (CoU X67 e [a] 1)).1) emp c67L0b
def c67L1b:=(fun e a b=>(⟨_,by cbv⟩:CoV (CoU X67 e [a,b] 2)).1) emp c67L0b c67L0
def c67L1:=(fun e a b c=>(⟨_,by cbv⟩:CoV (CoU X67 e [a,b,c] 3)).1) emp c67L0b c67L0 c67L1b
def c67L2b:=(fun e a b c d=>(⟨_,by cbv⟩:CoV (CoU X67 e [a,b,c,d] 4)).1) emp c67L0b c67L0 c67L1b c67L1
def c67L2:=(fun e a b c d g=>(⟨_,by cbv⟩:CoV (CoU X67 e [a,b,c,d,g] 5)).1) emp c67L0b c67L0 c67L1b c67L1 c67L2b
def c67:=(fun e a b c d g h=>(⟨_,by cbv⟩:CoV (CoU X67 e [a,b,c,d,g,h] 6)).1) emp c67L0b c67L0 c67L1b c67L1 c67L2b c67L2
def X68 (e) (N):=(⟨_,by cbv⟩:CoV (CoX e [] [(903,1),(1102,1)] f68 N)).1
def c68L0b:=(fun e=>(⟨_,by cbv⟩:CoV (CoU X68 e [] 0)).1) emp
def c68L0:=(fun e a=>(⟨_,by cbv⟩:CoV (CoU X68 e [a] 1)).1) emp c68L0b
def c68:=(fun e a b=>(⟨_,by cbv⟩:CoV (CoU X68 e [a,b] 2)).1) emp c68L0b c68L0
def X69 (e) (N):=(⟨_,by cbv⟩:CoV (CoX e [] [(105,1),(1402,1)] f69 N)).1
def s69p0:=(fun e=>(⟨_,by cbv⟩:CoV (Zr2 (CoU X69 e [] 0) [0])).1) emp
def s69p1:=(fun e=>(⟨_,by cbv⟩:CoV (Zr2 (CoU X69 e [] 0) [1,0])).1) emp
def s69p2:=(fun e=>(⟨_,by cbv⟩:CoV (Zr2 (CoU X69 e [] 0) [1,1,0])).1) emp
def s69p3:=(fun e=>(⟨_,by cbv⟩:CoV (Zr2 (CoU X69 e [] 0) [1,1,1,0])).1) emp
def s69p4:=(fun e=>(⟨_,by cbv⟩:CoV (Zr2 (CoU X69 e [] 0) [1,1,1,1,0])).1) emp
def s69p5:=(fun e=>(⟨_,by cbv⟩:CoV (Zr2 (CoU X69 e [] 0) [1,1,1,1,1,0])).1) emp
def s69p6:=(fun e=>(⟨_,by cbv⟩:CoV (Zr2 (CoU X69 e [] 0) [1,1,1,1,1,1,0])).1) emp
def s69p7:=(fun e=>(⟨_,by cbv⟩:CoV (Zr2 (CoU X69 e [] 0) [1,1,1,1,1,1,1,0])).1) emp
def c69:ACode:=.seq s69p0 (.seq s69p1 (.seq s69p2 (.seq s69p3 (.seq s69p4 (.seq s69p5 (.seq s69p6 (.seq s69p7 .ret)))))))
def X70 (e) (N):=(⟨_,by cbv⟩:CoV (CoX e [] [(819,1)] f70 N)).1
def c70L0b:=(fun e=>(⟨_,by cbv⟩:CoV (CoU X70 e [] 0)).1) emp
def c70L0:=(fun e a=>(⟨_,by cbv⟩:CoV (CoU X70 e [a] 1)).1) emp c70L0b
def c70:=(fun e a b=>(⟨_,by cbv⟩:CoV (CoU X70 e [a,b] 2)).1) emp c70L0b c70L0
def c71:=(fun e=>(⟨_,by cbv⟩:CoV (CoW [(119,1)] f71 e)).1) emp
def c72:=(fun e=>(⟨_,by cbv⟩:CoV (CoW [(317,1)] f72 e)).1) emp
def c73:=(fun e=>(⟨_,by cbv⟩:CoV (CoW [] f73 e)).1) emp
def c74:=(fun e=>(⟨_,by cbv⟩:CoV (CoW [] f74 e)).1) emp
def c75:=(fun e=>(⟨_,by cbv⟩:CoV (CoW [] f75 e)).1) emp
def c76:=(fun e=>(⟨_,by cbv⟩:CoV (CoW [(100,2)] f76 e)).1) emp
def c77:=(fun e=>(⟨_,by cbv⟩:CoV (CoW [] f77 e)).1) emp
def c81:=(fun e=>(⟨_,by cbv⟩:CoV (CoW [] f81 e)).1) emp
def X82 (e) (N):=(⟨_,by cbv⟩:CoV (CoX e [] [] f82 N)).1
def c82L0b:=(fun e=>(⟨_,by cbv⟩:CoV (CoU X82 e [] 0)).1) emp
def c82L0:=(fun e a=>(⟨_,by cbv⟩:CoV (CoU X82 e [a] 1)).1) emp c82L0b
def c82:=(fun e a b=>(⟨_,by cbv⟩:CoV (CoU X82 e [a,b] 2)).1) emp c82L0b c82L0
def X83 (e) (N):=(⟨_,by cbv⟩:CoV (CoX e [] [] f83 N)).1
def c83L0b:=(fun e=>(⟨_,by cbv⟩:CoV (CoU X83 e [] 0)).1) emp
def c83L0:=(fun e a=>(⟨_,by cbv⟩:CoV (CoU X83 e [a] 1)).1) emp c83L0b
def c83:=(fun e a b=>(⟨_,by cbv⟩:CoV (CoU X83 e [a,b] 2)).1) emp c83L0b c83L0
def X84 (e) (N):=(⟨_,by cbv⟩:CoV (CoX e [] [] f84 N)).1
def c84L0b:=(fun e=>(⟨_,by cbv⟩:CoV (CoU X84 e [] 0)).1) emp
def c84L0:=(fun e a=>(⟨_,by cbv⟩:CoV (CoU X84 e [a] 1)).1) emp c84L0b
def c84:=(fun e a b=>(⟨_,by cbv⟩:CoV (CoU X84 e [a,b] 2)).1) emp c84L0b c84L0
def c95:=(fun e=>(⟨_,by cbv⟩:CoV (CoW [] f95 e)).1) emp
def c96:=(fun e=>(⟨_,by cbv⟩:CoV (CoW [(0,1),(1,1),(102,1)] f96 e)).1) emp
def c97:=(fun e=>(⟨_,by cbv⟩:CoV (CoW [(0,1),(100,1)] f97 e)).1) emp
def X98 (e) (N):=(⟨_,by cbv⟩:CoV (CoX e [] [(101,1),(202,1),(203,1),(404,1),(604,1),(1002,1),(1104,1),(1602,1),(1804,1)] f98 N)).1
def c98L0b:=(fun e=>(⟨_,by cbv⟩:CoV (CoU X98 e [] 0)).1) emp
def c98L0:=(fun e a=>(⟨_,by cbv⟩:CoV (CoU X98 e [a] 1)).1) emp c98L0b
def c98L1b:=(fun e a b=>(⟨_,by cbv⟩:CoV (CoU X98 e [a,b] 2)).1) emp c98L0b c98L0
def c98L1:=(fun e a b c=>(⟨_,by cbv⟩:CoV (CoU X98 e [a,b,c] 3)).1) emp c98L0b c98L0 c98L1b
def s98p0:=(fun e a b c d=>(⟨_,by cbv⟩:CoV (Zr2 (CoU X98 e [a,b,c,d] 4) [0])).1) emp c98L0b c98L0 c98L1b c98L1
def s98p1:=(fun e a b c d=>(⟨_,by cbv⟩:CoV (Zr2 (CoU X98 e [a,b,c,d] 4) [1,0])).1) emp c98L0b c98L0 c98L1b c98L1
def s98p2:=(fun e a b c d=>(⟨_,by cbv⟩:CoV (Zr2 (CoU X98 e [a,b,c,d] 4) [1,1,0])).1) emp c98L0b c98L0 c98L1b c98L1
def s98p3:=(fun e a b c d=>(⟨_,by cbv⟩:CoV (Zr2 (CoU X98 e [a,b,c,d] 4) [1,1,1,0])).1) emp c98L0b c98L0 c98L1b c98L1
def s98p4:=(fun e a b c d=>(⟨_,by cbv⟩:CoV (Zr2 (CoU X98 e [a,b,c,d] 4) [1,1,1,1,0])).1) emp c98L0b c98L0 c98L1b c98L1
def s98p5:=(fun e a b c d=>(⟨_,by cbv⟩:CoV (Zr2 (CoU X98 e [a,b,c,d] 4) [1,1,1,1,1,0])).1) emp c98L0b c98L0 c98L1b c98L1
def s98p6:=(fun e a b c d=>(⟨_,by cbv⟩:CoV (Zr2 (CoU X98 e [a,b,c,d] 4) [1,1,1,1,1,1,0])).1) emp c98L0b c98L0 c98L1b c98L1
def s98p7:=(fun e a b c d=>(⟨_,by cbv⟩:CoV (Zr2 (CoU X98 e [a,b,c,d] 4) [1,1,1,1,1,1,1,0])).1) emp c98L0b c98L0 c98L1b c98L1
def c98:ACode:=.seq s98p0 (.seq s98p1 (.seq s98p2 (.seq s98p3 (.seq s98p4 (.seq s98p5 (.seq s98p6 (.seq s98p7 .ret)))))))
def c99:=(fun e=>(⟨_,by cbv⟩:CoV (CoW [] f99 e)).1) emp
def c100:=(fun e=>(⟨_,by cbv⟩:CoV (CoW [] f100 e)).1) emp
def c101:=(fun e=>(⟨_,by cbv⟩:CoV (CoW [(100,2)] f101 e)).1) emp
def c102:=(fun e=>(⟨_,by cbv⟩:CoV (CoW [] f102 e)).1) emp
def Zxi (e) (N):=(⟨_,by cbv⟩:CoV (CoX e [] [(1200,1),(1502,1)] f103 N)).1
def c103L0b:=(fun e=>(⟨_,by cbv⟩:CoV (CoU Zxi e [] 0)).1) emp
def c103L0:=(fun e a=>(⟨_,by cbv⟩:CoV (CoU Zxi e [a] 1)).1) emp c103L0b
def c103:=(fun e a b=>(⟨_,by cbv⟩:CoV (CoU Zxi e [a,b] 2)).1) emp c103L0b c103L0
def Zxj (e) (N):=(⟨_,by cbv⟩:CoV (CoX e [] [(402,1),(801,1),(802,1)] f104 N)).1
def c104L0b:=(fun e=>(⟨_,by cbv⟩:CoV (CoU Zxj e [] 0)).1) emp
def c104L0:=(fun e a=>(⟨_,by cbv⟩:CoV (CoU Zxj e [a] 1)).1) emp c104L0b
def c104:=(fun e a b=>(⟨_,by cbv⟩:CoV (CoU Zxj e [a,b] 2)).1) emp c104L0b c104L0
def c105:=(fun e=>(⟨_,by cbv⟩:CoV (CoW [(100,2)] f105 e)).1) emp
def c106:=(fun e=>(⟨_,by cbv⟩:CoV (CoW [(100,2)] f106 e)).1) emp
def c107:=(fun e=>(⟨_,by cbv⟩:CoV (CoW [] f107 e)).1) emp
def Zxk (e) (N):=(⟨_,by cbv⟩:CoV (CoX e [] [(3,1),(105,1),(200,1)] f108 N)).1
def c108R0a:=(fun e=>(⟨_,by cbv⟩:CoV (CoU Zxk e [] 0)).1) emp
def c108R0b:=(fun e a=>(⟨_,by cbv⟩:CoV (CoU Zxk e [a] 1)).1) emp c108R0a
def c108:=(fun e a b=>(⟨_,by cbv⟩:CoV (CoU Zxk e [a,b] 2)).1) emp c108R0a c108R0b
def c109:=(fun e=>(⟨_,by cbv⟩:CoV (CoW [] f109 e)).1) emp
def c110:=(fun e=>(⟨_,by cbv⟩:CoV (CoW [] f110 e)).1) emp
def c111:=(fun e=>(⟨_,by cbv⟩:CoV (CoW [] f111 e)).1) emp
def c112:=(fun e=>(⟨_,by cbv⟩:CoV (CoW [(100,2),(101,1),(204,1)] f112 e)).1) emp
def c113:=(fun e=>(⟨_,by cbv⟩:CoV (CoW [] f113 e)).1) emp
def c114:=(fun e=>(⟨_,by cbv⟩:CoV (CoW [] f114 e)).1) emp
def c115:=(fun e=>(⟨_,by cbv⟩:CoV (CoW [] f115 e)).1) emp
def c116:=(fun e=>(⟨_,by cbv⟩:CoV (CoW [(100,2),(101,1),(204,1)] f116 e)).1) emp
def c117:=(fun e=>(⟨_,by cbv⟩:CoV (CoW [] f117 e)).1) emp
def c118:=(fun e=>(⟨_,by cbv⟩:CoV (CoW [] f118 e)).1) emp
def c119:=(fun e=>(⟨_,by cbv⟩:CoV (CoW [] f119 e)).1) emp
def c120:=(fun e=>(⟨_,by cbv⟩:CoV (CoW [] f120 e)).1) emp
def c121:=(fun e=>(⟨_,by cbv⟩:CoV (CoW [(0,1),(209,1)] f121 e)).1) emp
def c122:=(fun e=>(⟨_,by cbv⟩:CoV (CoW [] f122 e)).1) emp
def c123:=(fun e=>(⟨_,by cbv⟩:CoV (CoW [] f123 e)).1) emp
def c124:=(fun e=>(⟨_,by cbv⟩:CoV (CoW [(100,2)] f124 e)).1) emp
def c125:=(fun e=>(⟨_,by cbv⟩:CoV (CoW [(114,1)] f125 e)).1) emp
def c126:=(fun e=>(⟨_,by cbv⟩:CoV (CoW [(100,2),(101,1),(204,1)] f126 e)).1) emp
def c127:=(fun e=>(⟨_,by cbv⟩:CoV (CoW [] f127 e)).1) emp
def Zxl (e) (N):=(⟨_,by cbv⟩:CoV (CoX e [] [(503,1)] f128 N)).1
def c128L0b:=(fun e=>(⟨_,by cbv⟩:CoV (CoU Zxl e [] 0)).1) emp
def c128L0:=(fun e a=>(⟨_,by cbv⟩:CoV (CoU Zxl e [a] 1)).1) emp c128L0b
def c128:=(fun e a b=>(⟨_,by cbv⟩:CoV (CoU Zxl e [a,b] 2)).1) emp c128L0b c128L0
def c129:=(fun e=>(⟨_,by cbv⟩:CoV (CoW [(100,2),(101,1),(204,1)] f129 e)).1) emp
def c130:=(fun e=>(⟨_,by cbv⟩:CoV (CoW [] f130 e)).1) emp
def c131:=(fun e=>(⟨_,by cbv⟩:CoV (CoW [] f131 e)).1) emp
def c132:=(fun e=>(⟨_,by cbv⟩:CoV (CoW [(100,2)] f132 e)).1) emp
def c133:=(fun e=>(⟨_,by cbv⟩:CoV (CoW [] f133 e)).1) emp
def c134:=(fun e=>(⟨_,by cbv⟩:CoV (CoW [] f134 e)).1) emp
def c135:=(fun e=>(⟨_,by cbv⟩:CoV (CoW [] f135 e)).1) emp
def c136:=(fun e=>(⟨_,by cbv⟩:CoV (CoW [(100,2),(101,1),(204,1)] f136 e)).1) emp
def c137:=(fun e=>(⟨_,by cbv⟩:CoV (CoW [] f137 e)).1) emp
def c138:=(fun e=>(⟨_,by cbv⟩:CoV (CoW [] f138 e)).1) emp
def c139:=(fun e=>(⟨_,by cbv⟩:CoV (CoW [(100,2)] f139 e)).1) emp
def c140:=(fun e=>(⟨_,by cbv⟩:CoV (CoW [] f140 e)).1) emp
def c141:=(fun e=>(⟨_,by cbv⟩:CoV (CoW [(100,2)] f141 e)).1) emp
def c142:=(fun e=>(⟨_,by cbv⟩:CoV (CoW [] f142 e)).1) emp
def Zxm (e) (N):=(⟨_,by cbv⟩:CoV (CoX e [] [] f143 N)).1
def c143L0b:=(fun e=>(⟨_,by cbv⟩:CoV (CoU Zxm e [] 0)).1) emp
def c143L0:=(fun e a=>(⟨_,by cbv⟩:CoV (CoU Zxm e [a] 1)).1) emp c143L0b
def c143:=(fun e a b=>(⟨_,by cbv⟩:CoV (CoU Zxm e [a,b] 2)).1) emp c143L0b c143L0
def c145:=(fun e=>(⟨_,by cbv⟩:CoV (CoW [(100,2)] f145 e)).1) emp
def c146:=(fun e=>(⟨_,by cbv⟩:CoV (CoW [] f146 e)).1) emp
def c152:=(fun e=>(⟨_,by cbv⟩:CoV (CoW [(100,2)] f152 e)).1) emp
def c153:=(fun e=>(⟨_,by cbv⟩:CoV (CoW [] f153 e)).1) emp
def c154:=(fun e=>(⟨_,by cbv⟩:CoV (CoW [] f154 e)).1) emp
def c155:=(fun e=>(⟨_,by cbv⟩:CoV (CoW [] f155 e)).1) emp
def c156:=(fun e=>(⟨_,by cbv⟩:CoV (CoW [] f156 e)).1) emp
def c157:=(fun e=>(⟨_,by cbv⟩:CoV (CoW [] f157 e)).1) emp
def c158:=(fun e=>(⟨_,by cbv⟩:CoV (CoW [(219,2)] f158 e)).1) emp
def c159:=(fun e=>(⟨_,by cbv⟩:CoV (CoW [] f159 e)).1) emp
def Zxn (e) (N):=(⟨_,by cbv⟩:CoV (CoX e [] [(303,1)] f160 N)).1
def c160L0b:=(fun e=>(⟨_,by cbv⟩:CoV (CoU Zxn e [] 0)).1) emp
def c160L0:=(fun e a=>(⟨_,by cbv⟩:CoV (CoU Zxn e [a] 1)).1) emp c160L0b
def c160:=(fun e a b=>(⟨_,by cbv⟩:CoV (CoU Zxn e [a,b] 2)).1) emp c160L0b c160L0
def c161:=(fun e=>(⟨_,by cbv⟩:CoV (CoW [] f161 e)).1) emp
def Zxo (e) (N):=(⟨_,by cbv⟩:CoV (CoX e [] [(100,1),(402,1),(1004,2)] f162 N)).1
def c162L0b:=(fun e=>(⟨_,by cbv⟩:CoV (CoU Zxo e [] 0)).1) emp
def c162L0:=(fun e a=>(⟨_,by cbv⟩:CoV (CoU Zxo e [a] 1)).1) emp c162L0b
def c162:=(fun e a b=>(⟨_,by cbv⟩:CoV (CoU Zxo e [a,b] 2)).1) emp c162L0b c162L0
def c163:=(fun e=>(⟨_,by cbv⟩:CoV (CoW [] f163 e)).1) emp
def c164:=(fun e=>(⟨_,by cbv⟩:CoV (CoW [(103,2)] f164 e)).1) emp
def c165:=(fun e=>(⟨_,by cbv⟩:CoV (CoW [] f165 e)).1) emp
def c166:=(fun e=>(⟨_,by cbv⟩:CoV (CoW [] f166 e)).1) emp
def c167:=(fun e=>(⟨_,by cbv⟩:CoV (CoW [] f167 e)).1) emp
def c168:=(fun e=>(⟨_,by cbv⟩:CoV (CoW [] f168 e)).1) emp
def c169:=(fun e=>(⟨_,by cbv⟩:CoV (CoW [] f169 e)).1) emp
def c170:=(fun e=>(⟨_,by cbv⟩:CoV (CoW [] f170 e)).1) emp
def c171:=(fun e=>(⟨_,by cbv⟩:CoV (CoW [(112,2)] f171 e)).1) emp
def Zxp (e) (N):=(⟨_,by cbv⟩:CoV (CoX e [] [(100,1),(402,1),(900,2),(903,2)] f172 N)).1
def c172L0b:=(fun e=>(⟨_,by cbv⟩:CoV (CoU Zxp e [] 0)).1) emp
def c172L0:=(fun e a=>(⟨_,by cbv⟩:CoV (CoU Zxp e [a] 1)).1) emp c172L0b
def c172:=(fun e a b=>(⟨_,by cbv⟩:CoV (CoU Zxp e [a,b] 2)).1) emp c172L0b c172L0
def c173:=(fun e=>(⟨_,by cbv⟩:CoV (CoW [(100,2)] f173 e)).1) emp
def c174:=(fun e=>(⟨_,by cbv⟩:CoV (CoW [(109,1)] f174 e)).1) emp
def c175:=(fun e=>(⟨_,by cbv⟩:CoV (CoW [(107,1)] f175 e)).1) emp
def c176:=(fun e=>(⟨_,by cbv⟩:CoV (CoW [] f176 e)).1) emp
def c177:=(fun e=>(⟨_,by cbv⟩:CoV (CoW [] f177 e)).1) emp
def c178:=(fun e=>(⟨_,by cbv⟩:CoV (CoW [(100,2)] f178 e)).1) emp
def ZvM (e) (N):=(⟨_,by cbv⟩:CoV (CoX e [] [(202,1),(314,1),(702,1),(1008,1),(1402,1),(1526,1),(1902,1),(2008,1)] f179 N)).1
def c179L0b:=(fun e=>(⟨_,by cbv⟩:CoV (CoU ZvM e [] 0)).1) emp
def c179L0:=(fun e a=>(⟨_,by cbv⟩:CoV (CoU ZvM e [a] 1)).1) emp c179L0b
def c179L1b:=(fun e a b=>(⟨_,by cbv⟩:CoV (CoU ZvM e [a,b] 2)).1) emp c179L0b c179L0
def c179L1:=(fun e a b c=>(⟨_,by cbv⟩:CoV (CoU ZvM e [a,b,c] 3)).1) emp c179L0b c179L0 c179L1b
def c179L2b:=(fun e a b c d=>(⟨_,by cbv⟩:CoV (CoU ZvM e [a,b,c,d] 4)).1) emp c179L0b c179L0 c179L1b c179L1
def c179L2:=(fun e a b c d g=>(⟨_,by cbv⟩:CoV (CoU ZvM e [a,b,c,d,g] 5)).1) emp c179L0b c179L0 c179L1b c179L1 c179L2b
def c179L3b:=(fun e a b c d g h=>(⟨_,by cbv⟩:CoV (CoU ZvM e [a,b,c,d,g,h] 6)).1) emp c179L0b c179L0 c179L1b c179L1 c179L2b c179L2
def c179L3:=(fun e a b c d g h i=>(⟨_,by cbv⟩:CoV (CoU ZvM e [a,b,c,d,g,h,i] 7)).1) emp c179L0b c179L0 c179L1b c179L1 c179L2b c179L2 c179L3b
def c179:=(fun e a b c d g h i j=>(⟨_,by cbv⟩:CoV (CoU ZvM e [a,b,c,d,g,h,i,j] 8)).1) emp c179L0b c179L0 c179L1b c179L1 c179L2b c179L2 c179L3b c179L3
def c180:=(fun e=>(⟨_,by cbv⟩:CoV (CoW [(100,2)] f180 e)).1) emp
def Zxq (e) (N):=(⟨_,by cbv⟩:CoV (CoX e [] [] f181 N)).1
def c181L0b:=(fun e=>(⟨_,by cbv⟩:CoV (CoU Zxq e [] 0)).1) emp
def c181L0:=(fun e a=>(⟨_,by cbv⟩:CoV (CoU Zxq e [a] 1)).1) emp c181L0b
def c181:=(fun e a b=>(⟨_,by cbv⟩:CoV (CoU Zxq e [a,b] 2)).1) emp c181L0b c181L0
def c183:=(fun e=>(⟨_,by cbv⟩:CoV (CoW [(108,1),(200,2),(400,2)] f183 e)).1) emp
def c185:=(fun e=>(⟨_,by cbv⟩:CoV (CoW [] f185 e)).1) emp
def Zxr (e) (N):=(⟨_,by cbv⟩:CoV (CoX e [] [] f186 N)).1
def c186L0b:=(fun e=>(⟨_,by cbv⟩:CoV (CoU Zxr e [] 0)).1) emp
def c186L0:=(fun e a=>(⟨_,by cbv⟩:CoV (CoU Zxr e [a] 1)).1) emp c186L0b
def c186:=(fun e a b=>(⟨_,by cbv⟩:CoV (CoU Zxr e [a,b] 2)).1) emp c186L0b c186L0
def Zxs (e) (N):=(⟨_,by cbv⟩:CoV (CoX e [] [] f187 N)).1
def c187L0b:=(fun e=>(⟨_,by cbv⟩:CoV (CoU Zxs e [] 0)).1) emp
def c187L0:=(fun e a=>(⟨_,by cbv⟩:CoV (CoU Zxs e [a] 1)).1) emp c187L0b
def c187:=(fun e a b=>(⟨_,by cbv⟩:CoV (CoU Zxs e [a,b] 2)).1) emp c187L0b c187L0
def c188:=(fun e=>(⟨_,by cbv⟩:CoV (CoW [] f188 e)).1) emp
def c189:=(fun e=>(⟨_,by cbv⟩:CoV (CoW [(100,2)] f189 e)).1) emp
def c190:=(fun e=>(⟨_,by cbv⟩:CoV (CoW [] f190 e)).1) emp
def c193:=(fun e=>(⟨_,by cbv⟩:CoV (CoW [] f193 e)).1) emp
def Zxt (e) (N):=(⟨_,by cbv⟩:CoV (CoX e [] [] f194 N)).1
def c194L0b:=(fun e=>(⟨_,by cbv⟩:CoV (CoU Zxt e [] 0)).1) emp
def c194L0:=(fun e a=>(⟨_,by cbv⟩:CoV (CoU Zxt e [a] 1)).1) emp c194L0b
def c194:=(fun e a b=>(⟨_,by cbv⟩:CoV (CoU Zxt e [a,b] 2)).1) emp c194L0b c194L0
def c196:=(fun e=>(⟨_,by cbv⟩:CoV (CoW [] f196 e)).1) emp
def c197:=(fun e=>(⟨_,by cbv⟩:CoV (CoW [] f197 e)).1) emp
def c199:=(fun e=>(⟨_,by cbv⟩:CoV (CoW [(100,2)] f199 e)).1) emp
def c200:=(fun e=>(⟨_,by cbv⟩:CoV (CoW [] f200 e)).1) emp
def Zxu (e) (N):=(⟨_,by cbv⟩:CoV (CoX e [] [] f202 N)).1
def c202L0b:=(fun e=>(⟨_,by cbv⟩:CoV (CoU Zxu e [] 0)).1) emp
def c202L0:=(fun e a=>(⟨_,by cbv⟩:CoV (CoU Zxu e [a] 1)).1) emp c202L0b
def c202:=(fun e a b=>(⟨_,by cbv⟩:CoV (CoU Zxu e [a,b] 2)).1) emp c202L0b c202L0
def Zxv (e) (N):=(⟨_,by cbv⟩:CoV (CoX e [] [] f203 N)).1
def c203L0b:=(fun e=>(⟨_,by cbv⟩:CoV (CoU Zxv e [] 0)).1) emp
def c203L0:=(fun e a=>(⟨_,by cbv⟩:CoV (CoU Zxv e [a] 1)).1) emp c203L0b
def c203:=(fun e a b=>(⟨_,by cbv⟩:CoV (CoU Zxv e [a,b] 2)).1) emp c203L0b c203L0
def Zxw (e) (N):=(⟨_,by cbv⟩:CoV (CoX e [] [] f213 N)).1
def c213L0b:=(fun e=>(⟨_,by cbv⟩:CoV (CoU Zxw e [] 0)).1) emp
def c213L0:=(fun e a=>(⟨_,by cbv⟩:CoV (CoU Zxw e [a] 1)).1) emp c213L0b
def c213:=(fun e a b=>(⟨_,by cbv⟩:CoV (CoU Zxw e [a,b] 2)).1) emp c213L0b c213L0
def Zxx (e) (N):=(⟨_,by cbv⟩:CoV (CoX e [] [(303,1),(400,1),(806,1)] f215 N)).1
def c215L0b:=(fun e=>(⟨_,by cbv⟩:CoV (CoU Zxx e [] 0)).1) emp
def c215L0:=(fun e a=>(⟨_,by cbv⟩:CoV (CoU Zxx e [a] 1)).1) emp c215L0b
def c215:=(fun e a b=>(⟨_,by cbv⟩:CoV (CoU Zxx e [a,b] 2)).1) emp c215L0b c215L0
def c216:=(fun e=>(⟨_,by cbv⟩:CoV (CoW [(100,2)] f216 e)).1) emp
def c217:=(fun e=>(⟨_,by cbv⟩:CoV (CoW [] f217 e)).1) emp
def Zxy (e) (N):=(⟨_,by cbv⟩:CoV (CoX e [] [(100,1),(200,2),(201,1),(300,1),(400,1)] f218 N)).1
def c218R0a:=(fun e=>(⟨_,by cbv⟩:CoV (CoU Zxy e [] 0)).1) emp
def c218R0b:=(fun e a=>(⟨_,by cbv⟩:CoV (CoU Zxy e [a] 1)).1) emp c218R0a
def c218:=(fun e a b=>(⟨_,by cbv⟩:CoV (CoU Zxy e [a,b] 2)).1) emp c218R0a c218R0b
def Zwj (e) (N):=(⟨_,by cbv⟩:CoV (CoX e [] [(511,1),(512,1)] f219 N)).1
def c219L0b:=(fun e=>(⟨_,by cbv⟩:CoV (CoU Zwj e [] 0)).1) emp
def c219L0:=(fun e a=>(⟨_,by cbv⟩:CoV (CoU Zwj e [a] 1)).1) emp c219L0b
def c219L1b:=(fun e a b=>(⟨_,by cbv⟩:CoV (CoU Zwj e [a,b] 2)).1) emp c219L0b c219L0
def c219L1:=(fun e a b c=>(⟨_,by cbv⟩:CoV (CoU Zwj e [a,b,c] 3)).1) emp c219L0b c219L0 c219L1b
def c219:=(fun e a b c d=>(⟨_,by cbv⟩:CoV (CoU Zwj e [a,b,c,d] 4)).1) emp c219L0b c219L0 c219L1b c219L1
def c220:=(fun e s0=>(⟨_,by cbv⟩:CoV (coY (CoX e [s0] [] f220) [] 0)).1) emp (B [32])
def Zxz (e) (N):=(⟨_,by cbv⟩:CoV (CoX e [] [(402,1)] f221 N)).1
def c221L0b:=(fun e=>(⟨_,by cbv⟩:CoV (CoU Zxz e [] 0)).1) emp
def c221L0:=(fun e a=>(⟨_,by cbv⟩:CoV (CoU Zxz e [a] 1)).1) emp c221L0b
def c221:=(fun e a b=>(⟨_,by cbv⟩:CoV (CoU Zxz e [a,b] 2)).1) emp c221L0b c221L0
def ZxA (e) (N):=(⟨_,by cbv⟩:CoV (CoX e [] [] f222 N)).1
def c222L0b:=(fun e=>(⟨_,by cbv⟩:CoV (CoU ZxA e [] 0)).1) emp
def c222L0:=(fun e a=>(⟨_,by cbv⟩:CoV (CoU ZxA e [a] 1)).1) emp c222L0b
def c222:=(fun e a b=>(⟨_,by cbv⟩:CoV (CoU ZxA e [a,b] 2)).1) emp c222L0b c222L0
def c223:=(fun e=>(⟨_,by cbv⟩:CoV (CoW [(100,2)] f223 e)).1) emp
def c224:=(fun e=>(⟨_,by cbv⟩:CoV (CoW [] f224 e)).1) emp
def c225:=(fun e=>(⟨_,by cbv⟩:CoV (CoW [] f225 e)).1) emp
def ZxB (e) (N):=(⟨_,by cbv⟩:CoV (CoX e [] [(302,1)] f226 N)).1
def c226L0b:=(fun e=>(⟨_,by cbv⟩:CoV (CoU ZxB e [] 0)).1) emp
def c226L0:=(fun e a=>(⟨_,by cbv⟩:CoV (CoU ZxB e [a] 1)).1) emp c226L0b
def c226:=(fun e a b=>(⟨_,by cbv⟩:CoV (CoU ZxB e [a,b] 2)).1) emp c226L0b c226L0
def c227:=(fun e=>(⟨_,by cbv⟩:CoV (CoW [] f227 e)).1) emp
def c228:=(fun e=>(⟨_,by cbv⟩:CoV (CoW [] f228 e)).1) emp
def ZxC (e) (N):=(⟨_,by cbv⟩:CoV (CoX e [] [(402,1)] f229 N)).1
def c229L0b:=(fun e=>(⟨_,by cbv⟩:CoV (CoU ZxC e [] 0)).1) emp
def c229L0:=(fun e a=>(⟨_,by cbv⟩:CoV (CoU ZxC e [a] 1)).1) emp c229L0b
def c229:=(fun e a b=>(⟨_,by cbv⟩:CoV (CoU ZxC e [a,b] 2)).1) emp c229L0b c229L0
def c230:=(fun e=>(⟨_,by cbv⟩:CoV (CoW [] f230 e)).1) emp
def c231:=(fun e=>(⟨_,by cbv⟩:CoV (CoW [] f231 e)).1) emp
def ZxD (e) (N):=(⟨_,by cbv⟩:CoV (CoX e [] [] f232 N)).1
def c232L0b:=(fun e=>(⟨_,by cbv⟩:CoV (CoU ZxD e [] 0)).1) emp
def c232L0:=(fun e a=>(⟨_,by cbv⟩:CoV (CoU ZxD e [a] 1)).1) emp c232L0b
def c232:=(fun e a b=>(⟨_,by cbv⟩:CoV (CoU ZxD e [a,b] 2)).1) emp c232L0b c232L0
def c233:=(fun e=>(⟨_,by cbv⟩:CoV (CoW [(100,2)] f233 e)).1) emp
def c234:=(fun e=>(⟨_,by cbv⟩:CoV (CoW [(100,2)] f234 e)).1) emp
def ZxE (e) (N):=(⟨_,by cbv⟩:CoV (CoX e [] [(306,1)] f238 N)).1
def c238L0b:=(fun e=>(⟨_,by cbv⟩:CoV (CoU ZxE e [] 0)).1) emp
def c238L0:=(fun e a=>(⟨_,by cbv⟩:CoV (CoU ZxE e [a] 1)).1) emp c238L0b
def c238:=(fun e a b=>(⟨_,by cbv⟩:CoV (CoU ZxE e [a,b] 2)).1) emp c238L0b c238L0
def ZxF (e) (N):=(⟨_,by cbv⟩:CoV (CoX e [] [] f239 N)).1
def c239L0b:=(fun e=>(⟨_,by cbv⟩:CoV (CoU ZxF e [] 0)).1) emp
def c239L0:=(fun e a=>(⟨_,by cbv⟩:CoV (CoU ZxF e [a] 1)).1) emp c239L0b
def c239:=(fun e a b=>(⟨_,by cbv⟩:CoV (CoU ZxF e [a,b] 2)).1) emp c239L0b c239L0
def c244:=(fun e s0 s1 s2 s3 s4 s5 s6 s7 s8=>(⟨_,by cbv⟩:CoV (coY (CoX e [s0,s1,s2,s3,s4,s5,s6,s7,s8] [(0,1),(100,1),(301,1),(401,17),(501,33),(601,49),(701,65),(801,81),(901,97),(1001,113),(1101,129)] f244) [] 0)).1) emp (B [97,98,99,100,101,102,103,104,105,106,107,108,109,110,111,112,113,114,115,116,117,118,119,120,121,122,65,66,67,68,69,70,71,72,73,74,75,76,77,78,79,80,81,82,83,84,85,86,87,88,89,90]) (B [48,49,50,51,52,53,54,55,56,57]) (B [95]) (B [32,9,10]) (B [35]) (B [34]) (B [33]) (B [60,62]) (B [59,44,46,58,40,41,91,93,123,125,61,43,45])
def ZxG (e) (N):=(⟨_,by cbv⟩:CoV (CoX e [] [] f245 N)).1
def c245L0b:=(fun e=>(⟨_,by cbv⟩:CoV (CoU ZxG e [] 0)).1) emp
def c245L0:=(fun e a=>(⟨_,by cbv⟩:CoV (CoU ZxG e [a] 1)).1) emp c245L0b
def c245:=(fun e a b=>(⟨_,by cbv⟩:CoV (CoU ZxG e [a,b] 2)).1) emp c245L0b c245L0
def c246:=(fun e s0 s1=>(⟨_,by cbv⟩:CoV (coY (CoX e [s0,s1] [(0,1),(2607,16)] f246) [] 0)).1) emp (B [34,10]) (B [61])
def ZxH (e) (N):=(⟨_,by cbv⟩:CoV (CoX e [] [] f247 N)).1
def c247L0b:=(fun e=>(⟨_,by cbv⟩:CoV (CoU ZxH e [] 0)).1) emp
def c247L0:=(fun e a=>(⟨_,by cbv⟩:CoV (CoU ZxH e [a] 1)).1) emp c247L0b
def c247:=(fun e a b=>(⟨_,by cbv⟩:CoV (CoU ZxH e [a,b] 2)).1) emp c247L0b c247L0
def c248:=(fun e=>(⟨_,by cbv⟩:CoV (CoW [] f248 e)).1) emp
def c249:=(fun e=>(⟨_,by cbv⟩:CoV (CoW [] f249 e)).1) emp
def c250:=(fun e=>(⟨_,by cbv⟩:CoV (CoW [(106,1),(107,1)] f250 e)).1) emp
def c252:=(fun e=>(⟨_,by cbv⟩:CoV (CoW [] f252 e)).1) emp
def ZxI (e) (N):=(⟨_,by cbv⟩:CoV (CoX e [] [] f253 N)).1
def c253L0b:=(fun e=>(⟨_,by cbv⟩:CoV (CoU ZxI e [] 0)).1) emp
def c253L0:=(fun e a=>(⟨_,by cbv⟩:CoV (CoU ZxI e [a] 1)).1) emp c253L0b
def c253:=(fun e a b=>(⟨_,by cbv⟩:CoV (CoU ZxI e [a,b] 2)).1) emp c253L0b c253L0
def c254:=(fun e=>(⟨_,by cbv⟩:CoV (CoW [(0,1)] f254 e)).1) emp
def c255:=(fun e=>(⟨_,by cbv⟩:CoV (CoW [] f255 e)).1) emp
def ZxJ (e) (N):=(⟨_,by cbv⟩:CoV (CoX e [] [(1,1),(2,1),(100,2),(101,1),(200,1),(300,1)] f256 N)).1
def c256R0a:=(fun e=>(⟨_,by cbv⟩:CoV (CoU ZxJ e [] 0)).1) emp
def c256R0b:=(fun e a=>(⟨_,by cbv⟩:CoV (CoU ZxJ e [a] 1)).1) emp c256R0a
def c256:=(fun e a b=>(⟨_,by cbv⟩:CoV (CoU ZxJ e [a,b] 2)).1) emp c256R0a c256R0b
def ZxK (e) (N):=(⟨_,by cbv⟩:CoV (CoX e [] [] f260 N)).1
def c260L0b:=(fun e=>(⟨_,by cbv⟩:CoV (CoU ZxK e [] 0)).1) emp
def c260L0:=(fun e a=>(⟨_,by cbv⟩:CoV (CoU ZxK e [a] 1)).1) emp c260L0b
def c260:=(fun e a b=>(⟨_,by cbv⟩:CoV (CoU ZxK e [a,b] 2)).1) emp c260L0b c260L0
def ZxL (e) (N):=(⟨_,by cbv⟩:CoV (CoX e [] [] f261 N)).1
def c261L0b:=(fun e=>(⟨_,by cbv⟩:CoV (CoU ZxL e [] 0)).1) emp
def c261L0:=(fun e a=>(⟨_,by cbv⟩:CoV (CoU ZxL e [a] 1)).1) emp c261L0b
def c261:=(fun e a b=>(⟨_,by cbv⟩:CoV (CoU ZxL e [a,b] 2)).1) emp c261L0b c261L0
def c262:=(fun e=>(⟨_,by cbv⟩:CoV (CoW [] f262 e)).1) emp
def c266:=(fun e=>(⟨_,by cbv⟩:CoV (CoW [] f266 e)).1) emp
def ZxM (e) (N):=(⟨_,by cbv⟩:CoV (CoX e [] [(203,1),(310,1)] f267 N)).1
def c267L0b:=(fun e=>(⟨_,by cbv⟩:CoV (CoU ZxM e [] 0)).1) emp
def c267L0:=(fun e a=>(⟨_,by cbv⟩:CoV (CoU ZxM e [a] 1)).1) emp c267L0b
def c267:=(fun e a b=>(⟨_,by cbv⟩:CoV (CoU ZxM e [a,b] 2)).1) emp c267L0b c267L0
def ZxN (e) (N):=(⟨_,by cbv⟩:CoV (CoX e [] [(302,1)] f268 N)).1
def c268L0b:=(fun e=>(⟨_,by cbv⟩:CoV (CoU ZxN e [] 0)).1) emp
def c268L0:=(fun e a=>(⟨_,by cbv⟩:CoV (CoU ZxN e [a] 1)).1) emp c268L0b
def c268:=(fun e a b=>(⟨_,by cbv⟩:CoV (CoU ZxN e [a,b] 2)).1) emp c268L0b c268L0
def c269:=(fun e=>(⟨_,by cbv⟩:CoV (CoW [(2,1)] f269 e)).1) emp
def c270:=(fun e=>(⟨_,by cbv⟩:CoV (CoW [] f270 e)).1) emp
def c271:=(fun e=>(⟨_,by cbv⟩:CoV (CoW [(503,1)] f271 e)).1) emp
def c272:=(fun e=>(⟨_,by cbv⟩:CoV (CoW [] f272 e)).1) emp
def ZxO (e) (N):=(⟨_,by cbv⟩:CoV (CoX e [] [] f274 N)).1
def c274L0b:=(fun e=>(⟨_,by cbv⟩:CoV (CoU ZxO e [] 0)).1) emp
def c274L0:=(fun e a=>(⟨_,by cbv⟩:CoV (CoU ZxO e [a] 1)).1) emp c274L0b
def c274:=(fun e a b=>(⟨_,by cbv⟩:CoV (CoU ZxO e [a,b] 2)).1) emp c274L0b c274L0
def c291:=(fun e=>(⟨_,by cbv⟩:CoV (CoW [] f291 e)).1) emp
def c292:=(fun e=>(⟨_,by cbv⟩:CoV (CoW [(2,1)] f292 e)).1) emp
def c293:=(fun e=>(⟨_,by cbv⟩:CoV (CoW [] f293 e)).1) emp
def c294:=(fun e=>(⟨_,by cbv⟩:CoV (CoW [] f294 e)).1) emp
def FN0:List (Nat×AFun):=[(3,⟨[.tmp 8],c3⟩),(8,⟨[.tmp 0],c8⟩),(9,⟨[.tmp 4],c9⟩),(10,⟨[.tmp 6],c10⟩),(11,⟨[.cell 6 (some 7),.tmp 7],c11⟩),(12,⟨[.tmp 2],c12⟩),(13,⟨[.tmp 4],c13⟩),(14,⟨[.tmp 4],c14⟩),(16,⟨[.tmp 4],c16⟩),(17,⟨[.tmp 4],c17⟩),(18,⟨[.tmp 4],c18⟩),(20,⟨[.tmp 2],c20⟩),(21,⟨[.tmp 6],c21⟩),(26,⟨[.tmp 6],c26⟩)]
def FN1:List (Nat×AFun):=[(27,⟨[.cell 6 (some 7),.tmp 7],c27⟩),(28,⟨[.tmp 6],c28⟩),(29,⟨[.tmp 2],c29⟩),(30,⟨[.tmp 4],c30⟩),(31,⟨[.tmp 4],c31⟩),(32,⟨[.tmp 4],c32⟩),(33,⟨[.tmp 2],c33⟩),(34,⟨[.tmp 2],c34⟩),(35,⟨[.tmp 2],c35⟩),(36,⟨[.tmp 2],c36⟩),(38,⟨[.tmp 4],c38⟩),(39,⟨[.tmp 4],c39⟩),(40,⟨[.tmp 4],c40⟩),(41,⟨[.tmp 4],c41⟩)]
def FN2:List (Nat×AFun):=[(42,⟨[.tmp 4],c42⟩),(44,⟨[.tmp 2],c44⟩),(45,⟨[.tmp 2],c45⟩),(46,⟨[],c46⟩),(50,⟨[.tmp 2,.tmp 3],c50⟩),(51,⟨[.tmp 2],c51⟩),(52,⟨[.tmp 2],c52⟩),(53,⟨[.tmp 4],c53⟩),(54,⟨[.tmp 2],c54⟩),(55,⟨[.cell 2 none],c55⟩),(56,⟨[.tmp 2],c56⟩),(57,⟨[.tmp 2],c57⟩),(58,⟨[.tmp 2],c58⟩),(59,⟨[.tmp 2],c59⟩)]
def FN3:List (Nat×AFun):=[(60,⟨[.tmp 2],c60⟩),(61,⟨[.tmp 2],c61⟩),(62,⟨[.tmp 2],c62⟩),(63,⟨[.tmp 2],c63⟩),(64,⟨[.tmp 2],c64⟩),(65,⟨[.tmp 2],c65⟩),(66,⟨[.tmp 2],c66⟩),(67,⟨[.tmp 2],c67⟩),(68,⟨[.tmp 2],c68⟩),(69,⟨[.tmp 2],c69⟩),(70,⟨[.tmp 2],c70⟩),(71,⟨[.tmp 2],c71⟩),(72,⟨[.tmp 2],c72⟩),(73,⟨[.tmp 6],c73⟩)]
def FN4:List (Nat×AFun):=[(74,⟨[.tmp 4],c74⟩),(75,⟨[.tmp 4],c75⟩),(76,⟨[.tmp 4],c76⟩),(77,⟨[.tmp 3],c77⟩),(81,⟨[.tmp 4],c81⟩),(82,⟨[.tmp 4],c82⟩),(83,⟨[.tmp 4],c83⟩),(84,⟨[.tmp 4],c84⟩),(95,⟨[.tmp 6],c95⟩),(96,⟨[.cell 2 (some 18)],c96⟩),(97,⟨[.cell 0 (some 16)],c97⟩),(98,⟨[.tmp 4],c98⟩),(99,⟨[.tmp 3],c99⟩),(100,⟨[.tmp 2],c100⟩)]
def FN5:List (Nat×AFun):=[(101,⟨[.tmp 4],c101⟩),(102,⟨[.tmp 3],c102⟩),(103,⟨[.tmp 2],c103⟩),(104,⟨[.tmp 4],c104⟩),(105,⟨[.tmp 4],c105⟩),(106,⟨[.tmp 4],c106⟩),(107,⟨[.tmp 3],c107⟩),(108,⟨[.cell 6 none],c108⟩),(109,⟨[.tmp 4],c109⟩),(110,⟨[.tmp 4],c110⟩),(111,⟨[.tmp 2],c111⟩),(112,⟨[.tmp 6],c112⟩),(113,⟨[],c113⟩),(114,⟨[.tmp 2],c114⟩)]
def FN6:List (Nat×AFun):=[(115,⟨[],c115⟩),(116,⟨[.tmp 6],c116⟩),(117,⟨[],c117⟩),(118,⟨[],c118⟩),(119,⟨[],c119⟩),(120,⟨[.tmp 2],c120⟩),(121,⟨[],c121⟩),(122,⟨[.tmp 2],c122⟩),(123,⟨[.tmp 3],c123⟩),(124,⟨[.tmp 4],c124⟩),(125,⟨[.tmp 3],c125⟩),(126,⟨[.tmp 6],c126⟩),(127,⟨[],c127⟩),(128,⟨[],c128⟩)]
def FN7:List (Nat×AFun):=[(129,⟨[.tmp 6],c129⟩),(130,⟨[],c130⟩),(131,⟨[],c131⟩),(132,⟨[.tmp 4],c132⟩),(133,⟨[.tmp 3],c133⟩),(134,⟨[],c134⟩),(135,⟨[.tmp 4],c135⟩),(136,⟨[.tmp 6],c136⟩),(137,⟨[],c137⟩),(138,⟨[.tmp 2],c138⟩),(139,⟨[.tmp 4],c139⟩),(140,⟨[.tmp 3],c140⟩),(141,⟨[.tmp 4],c141⟩),(142,⟨[.tmp 3],c142⟩)]
def FN8:List (Nat×AFun):=[(143,⟨[.tmp 4],c143⟩),(145,⟨[.tmp 4],c145⟩),(146,⟨[.tmp 3],c146⟩),(152,⟨[.tmp 3],c152⟩),(153,⟨[.tmp 2],c153⟩),(154,⟨[.tmp 2],c154⟩),(155,⟨[.tmp 2],c155⟩),(156,⟨[.tmp 4],c156⟩),(157,⟨[.tmp 3],c157⟩),(158,⟨[.tmp 2],c158⟩),(159,⟨[.tmp 3],c159⟩),(160,⟨[.tmp 2],c160⟩),(161,⟨[.tmp 3],c161⟩),(162,⟨[.tmp 2],c162⟩)]
def FN9:List (Nat×AFun):=[(163,⟨[.tmp 2],c163⟩),(164,⟨[.tmp 2],c164⟩),(165,⟨[.tmp 3],c165⟩),(166,⟨[.tmp 2],c166⟩),(167,⟨[.tmp 2],c167⟩),(168,⟨[.tmp 2],c168⟩),(169,⟨[.tmp 2],c169⟩),(170,⟨[.tmp 4],c170⟩),(171,⟨[.tmp 3],c171⟩),(172,⟨[.tmp 4],c172⟩),(173,⟨[.tmp 4],c173⟩),(174,⟨[.tmp 2],c174⟩),(175,⟨[.tmp 2],c175⟩),(176,⟨[.tmp 3],c176⟩)]
def ZjY:List (Nat×AFun):=[(177,⟨[.tmp 2],c177⟩),(178,⟨[.tmp 3],c178⟩),(179,⟨[],c179⟩),(180,⟨[.tmp 4],c180⟩),(181,⟨[.tmp 4],c181⟩),(183,⟨[.tmp 4],c183⟩),(185,⟨[.tmp 2],c185⟩),(186,⟨[.tmp 4],c186⟩),(187,⟨[.tmp 4],c187⟩),(188,⟨[.tmp 2],c188⟩),(189,⟨[.tmp 4],c189⟩),(190,⟨[.tmp 3],c190⟩),(193,⟨[.tmp 2],c193⟩),(194,⟨[.tmp 4],c194⟩)]
def ZjZ:List (Nat×AFun):=[(196,⟨[],c196⟩),(197,⟨[],c197⟩),(199,⟨[.tmp 4],c199⟩),(200,⟨[.tmp 3],c200⟩),(202,⟨[.tmp 4],c202⟩),(203,⟨[.tmp 4],c203⟩),(213,⟨[.tmp 4],c213⟩),(215,⟨[.tmp 2,.tmp 3,.tmp 4],c215⟩),(216,⟨[.tmp 4],c216⟩),(217,⟨[.tmp 2],c217⟩),(218,⟨[.tmp 2],c218⟩),(219,⟨[.tmp 2],c219⟩),(220,⟨[.tmp 2],c220⟩),(221,⟨[.tmp 2],c221⟩)]
def Zk0:List (Nat×AFun):=[(222,⟨[.tmp 2],c222⟩),(223,⟨[.tmp 4],c223⟩),(224,⟨[.tmp 2],c224⟩),(225,⟨[.tmp 2],c225⟩),(226,⟨[.tmp 4],c226⟩),(227,⟨[.tmp 2],c227⟩),(228,⟨[.tmp 4],c228⟩),(229,⟨[.tmp 2],c229⟩),(230,⟨[.tmp 3],c230⟩),(231,⟨[.tmp 2],c231⟩),(232,⟨[.tmp 4],c232⟩),(233,⟨[.tmp 4],c233⟩),(234,⟨[.tmp 4],c234⟩),(238,⟨[],c238⟩)]
def Zsg:List (Nat×AFun):=[(239,⟨[.tmp 4],c239⟩),(244,⟨[.cell 0 (some 256)],c244⟩),(245,⟨[.tmp 4],c245⟩),(246,⟨[.cell 4 (some 4),.tmp 5,.tmp 6],c246⟩),(247,⟨[.tmp 4],c247⟩),(248,⟨[.tmp 2],c248⟩),(249,⟨[.tmp 6],c249⟩),(250,⟨[.tmp 8],c250⟩),(252,⟨[.tmp 2],c252⟩),(253,⟨[.tmp 4],c253⟩),(254,⟨[.cell 0 (some 56)],c254⟩),(255,⟨[.tmp 4],c255⟩),(256,⟨[.cell 4 none,.cell 5 none],c256⟩),(260,⟨[],c260⟩)]
def Zsh:List (Nat×AFun):=[(261,⟨[.tmp 6],c261⟩),(262,⟨[.tmp 4],c262⟩),(266,⟨[.tmp 4],c266⟩),(267,⟨[],c267⟩),(268,⟨[.tmp 2],c268⟩),(269,⟨[.cell 4 (some 6)],c269⟩),(270,⟨[.tmp 4],c270⟩),(271,⟨[.tmp 6],c271⟩),(272,⟨[.tmp 6],c272⟩),(274,⟨[.tmp 6],c274⟩),(291,⟨[.tmp 4],c291⟩),(292,⟨[.cell 4 (some 2)],c292⟩),(293,⟨[.tmp 4],c293⟩),(294,⟨[.tmp 4],c294⟩)]
def ZjW (f:Nat) (l:List (Nat×AFun)):Option AFun:=l.foldr (fun p r=>bif Nat.beq f p.1 then some p.2 else r) none
def N0 (f:Nat):Option AFun:=bif Nat.blt f 27 then ZjW f FN0 else bif Nat.blt f 42 then ZjW f FN1 else bif Nat.blt f 60 then ZjW f FN2 else bif Nat.blt f 74 then ZjW f FN3 else bif Nat.blt f 101 then ZjW f FN4 else bif Nat.blt f 115 then ZjW f FN5 else bif Nat.blt f 129 then ZjW f FN6 else bif Nat.blt f 143 then ZjW f FN7 else bif Nat.blt f 163 then ZjW f FN8 else bif Nat.blt f 177 then ZjW f FN9 else bif Nat.blt f 196 then ZjW f ZjY else bif Nat.blt f 222 then ZjW f ZjZ else bif Nat.blt f 239 then ZjW f Zk0 else bif Nat.blt f 261 then ZjW f Zsg else ZjW f Zsh
def Zz9:List (Nat×AFun):=[(23,⟨[.tmp 5],c23⟩),(24,⟨[.tmp 2],c24⟩),(25,⟨[.tmp 4],c25⟩),(49,⟨[.tmp 2],c49⟩)]
def Zza (f:Nat):Option AFun:=ZjW f Zz9
def e0:Env:={ fn:=Zza,gl:=fun _=>.bot,sum:=fun _=>none }
end Go.AM
