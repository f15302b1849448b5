/- The abstract machine and its soundness, part 1: what it computes, the program computes. No condition. -/
import Derived.WalkKit
import Derived.RangeFuncLeaves
import Derived.Below
import Derived.Laws.CopyRow
import Derived.ChangeKeysEq
import Derived.Room.Entries
set_option linter.unusedVariables false
set_option linter.unusedSimpArgs false
set_option linter.unusedSectionVars false
set_option linter.defProp false
namespace Go.AM
def ZSq:=@Bool.and_eq_true
def ZSr:=@Nat.le_refl
def ZSs:=@List.length_map
def ZSt:=@Nat.zero_le
def ZSu:=@List.getElem?_eq_getElem
def ZSv:=@List.cons_append
def ZSw:=@List.all_eq_true
def ZSx:=@List.map_cons
def ZSy:=@List.mem_of_getElem?
def ZSz:=@List.nil_append
def ZSA:=@List.getElem?_eq_some_iff
def ZSB:=@Bool.true_and
def ZSC:=@List.append_nil
def ZSD:=@Option.map_eq_some_iff
def ZSE:=@Nat.zero_add
def ZSF:=@List.map_append
def ZSG:=@List.length_cons
def ZSH:=@Bool.false_eq_true
def ZSI:=@Bool.not_true
def ZSJ:=@List.length_append
def ZSK:=@Bool.not_false
def ZSL:=@List.mem_singleton
def ZSM:=@List.mem_map
def ZSN:=@List.append_assoc
def ZSO:=@Bool.false_and
def ZSP:=@Bool.not_eq_true'
def ZSQ:=@List.mem_append
def ZSR:=@List.take_of_length_le
def ZSS:=@List.map_nil
def ZST:=@List.mem_cons
def ZSU:=@Bool.true_or
def ZSV:=@List.mem_cons_self
def ZSW:=@Bool.and_true
def ZSX:=@List.map_set
def ZSY:=@Nat.add_mul
def ZSZ:=@List.take_length
def ZT0:=@Nat.le_of_ble_eq_true
def ZT1:=@List.length_nil
def ZT2:=@List.getElem?_append_left
def ZT3:=@Option.map_some
def ZT4:=@List.mem_cons_of_mem
def ZT5:=@Bool.false_or
def ZT6:=@List.getElem?_cons_zero
def ZT7:=@List.getElem?_map
def ZT8:=@List.nodup_cons
def ZT9:=@Bool.or_true
def ZTa:=@Nat.le_trans
def ZTb:=@Array.length_toList
def ZTc:=@Nat.add_zero
def ZTd:=@List.getElem?_append_right
def ZTe:=@List.foldl_cons
def ZTf:=@Array.getD_eq_getD_getElem?
def ZTg:=@Nat.mul_one
def ZTh:=@Array.getElem?_eq_getElem
def ZTi:=@Array.getElem?_eq_some_iff
def ZTj:=@List.getElem?_eq_none
def ZTk:=@List.length_take
def ZTl:=@Bool.and_self
def ZTm:=@List.map_map
def ZTn:=@Nat.ble_eq_true_of_le
def ZTo:=@Nat.succ_mul
def ZTp:=@List.getElem?_cons_succ
def ZTq:=@List.drop_zero
def ZTr:=@List.pairwise_cons
def ZTs:=@List.mem_iff_getElem?
def ZTt:=@List.take_append_drop
def ZTu:=@Nat.le_succ
def ZTv:=@List.mem_map_of_mem
def ZTw:=@Nat.blt_eq
def ZTx:=@Nat.le_of_lt
def ZTy:=@Nat.lt_of_lt_of_le
def ZTz:=@Nat.mul_le_mul_right
def ZTA:=@List.take_add_one
def ZTB:=@List.any_eq_false
def ZTC:=@Array.ext'
def ZTD:=@List.drop_eq_getElem_cons
def ZTE:=@List.all_cons
def ZTF:=@List.drop_drop
def ZTG:=@Nat.add_assoc
def ZTH:=@Nat.mod_lt
def ZTI:=@Nat.lt_or_ge
def ZTJ:=@List.mem_filter
def ZTK:=@List.getElem?_take_of_lt
def ZTL:=@Bool.or_eq_true
def ZTM:=@List.mem_append_left
def ZTN:=@List.pairwise_map
def ZTO:=@List.ext_getElem?
def ZTP:=@List.length_set
def ZTQ:=@List.mem_of_mem_take
def ZTR:=@List.getElem?_of_mem
def ZTS:=@List.length_filter_le
def ZTT:=@List.length_singleton
def ZTU:=@Bool.or_false
def ZTV:=@Array.getElem?_toList
def ZTW:=@Bool.eq_false_iff
def ZTX:=@Bool.not_eq_true
def ZTY:=@List.isEmpty_iff
def ZTZ:=@List.map_congr_left
def ZU0:=@Bool.or_eq_false_iff
def ZU1:=@List.flatMap_cons
def ZU2:=@Bool.and_false
def ZU3:=@List.all_map
def ZU4:=@List.find?_eq_none
def ZU5:=@List.nodup_append
def ZU6:=@Option.ite_none_left_eq_some
def ZU7:=@List.replicate_succ
def ZU8:=@Nat.zero_mul
def ZU9:=@List.getElem?_drop
def ZUa:=@List.nodup_nil
def ZUb:=@List.mem_append_right
def ZUc:=@Nat.eq_of_beq_eq_true
def ZUd:=@Bool.or_self
def ZUe:=@Option.ite_none_right_eq_some
def ZUf:=@List.flatten_cons
def ZUg:=@List.getElem?_toArray
def ZUh:=@List.mem_of_mem_drop
def ZUi:=@List.mem_flatMap
def ZUj:=@List.not_mem_nil
def ZUk:=@Option.isSome_iff_exists
def ZUl:=@Option.bind_eq_some_iff
def ZUm:=@List.mem_of_find?_eq_some
def ZUn:=@Nat.add_one_ne_zero
def ZUo:=@Array.getElem?_modify
def ZUp:=@List.take_succ_cons
def ZUq:=@List.getElem_mem
def ZUr:=@List.take_left'
def ZUs:=@List.length_eq_zero_iff
def ZUt:=@Array.getElem?_append_left
def ZUu:=@List.perm_middle
def ZUv:=@Option.getD_some
def ZUw:=@List.mem_range
def ZUx:=@List.getElem?_replicate
def ZUy:=@List.find?_cons
def ZUz:=@Bool.and_assoc
def ZUA:=@List.length_drop
def ZUB:=@Nat.min_eq_left
def ZUC:=@List.drop_left'
def ZUD:=@List.mem_or_eq_of_mem_set
def ZUE:=@Array.eq_empty_of_size_eq_zero
def ZUF:=@List.eq_of_mem_replicate
def ZUG:=@List.getD_eq_getElem?_getD
def ZUH:=@Bool.cond_eq_ite
def ZUI:=@List.find?_some
def ZUJ:=@Bool.eq_iff_iff
def ZUK:=@List.take_succ_eq_append_getElem
def ZUL:=@List.foldl_append
def ZUM:=@List.nodup_iff_pairwise_ne
def ZUN:=@List.any_append
def ZUO:=@List.filter_append
def ZUP:=@List.set_append_right
def ZUQ:=@List.getElem_cons_drop
def ZUR:=@List.take_length_add_append
def ZUS:=@List.take_append_of_le_length
def ZUT:=@List.drop_append_of_le_length
def ZUU:=@Array.toList_range
def ZUV:=@List.getElem?_set_self
def ZUW:=@List.size_toArray
def ZUX:=@Array.size_setIfInBounds
def ZUY:=@List.length_eq_one_iff
def ZUZ:=@List.perm_append_comm
def ZV0:=@List.length_replicate
def ZV1:=@Array.getElem?_eq_none
def ZV2:=@Nat.lt_trichotomy
def ZV3:=@List.drop_eq_nil_of_le
def ZV4:=@Array.toArray_toList
def ZV5:=@List.isEmpty_cons
def ZV6:=@List.getElem!_eq_getElem?_getD
def ZV7:=@List.length_range
def ZV8:=@List.pairwise_iff_getElem
def ZV9:=@List.getElem?_take
def ZVa:=@List.set_getElem_self
def ZVb:=@List.length_pos_of_mem
def ZVc:=@Int.toNat_natCast
def ZVd:=@List.findIdx?_eq_some_iff_getElem
def ZVe:=@List.set_eq_take_append_cons_drop
def ZVf:=@Array.getElem?_setIfInBounds_self_of_lt
def ZVg:=@Array.getElem?_setIfInBounds_ne
end Go.AM
namespace Go.AM
open Go
inductive AV where
 |bot
 |bool (b:Bool)
 |int (k:IntKind) (n:Int)
 |str (s:ByteArray)
 |nilp|nilsl|nilmap|nilfn|nilif
 |agg (cs:List AV)
 |tup (vs:List AV)
 |iptr (bw:Bool) (cs:List AV)
 |isl (bw ex:Bool) (sz:Nat) (es:List AV)
 |imap (bw:Bool) (ks vs:List AV)
 |ifc (t:TypeId) (v:AV)
 |clo (fn:Fn) (first cap:List AV)
 |ptr (b i off g:Nat)
 |sl (b g off len:Nat) (ex:Bool)
 |mp (b:Nat)
 |it (b:Nat)
 |yld (b:Nat)
 deriving Inhabited
def AV.cells:AV->List AV
 | .agg cs=>cs
 |v=>[v]
inductive Arg where
 |t (n:Nat)
 |c (v:AV)
 |f (fid:Nat)
 |g (gid:Nat)
 deriving Inhabited
inductive AOp where
 |mv (x:Arg)
 |own (sz:Nat)
 |pick (c a b:Arg)
 |box (sz:Nat) (x:Arg)
 |ibox (sz:Nat) (x:Arg)
 |build (z:List AV) (ps:List<|Nat×Nat×Arg)
 |bsl (fz ex:Bool) (sz:Nat) (z:AV) (len:Nat) (ps:List<|Nat×Arg)
 |load (n:Option Nat) (x:Arg)
 |ldr (n c:Nat) (x:Arg)
 |apr (sz bytes:Nat) (s x:Arg)
 |apa (sz bytes:Nat) (s x:Arg)
 |store (n:Nat) (a x:Arg)
 |nilck (x:Arg)
 |isn (neg:Bool) (x:Arg)
 |bin (op:BinOp) (x y:Arg)
 |eqv (neg ag:Bool) (ks:List Nat) (x y:Arg)
 |un (op:UnOp) (x:Arg)
 |conv (k:Option IntKind) (x:Arg)
 |fld (n:Option Nat) (off:Nat) (x:Arg)
 |fadr (off:Nat) (x:Arg)
 |iadr (sz:Nat) (x i:Arg)
 |aadr (sz len:Nat) (x i:Arg)
 |sidx (x i:Arg)
 |aidx (n:Option Nat) (sz len:Nat) (x i:Arg)
 |ext (x:Arg) (i:Nat)
 |mkf (fn:Fn) (first cap:List Arg)
 |mkm
 |ins (ag:Bool) (ks:List Nat) (m k v:Arg)
 |mupd (ag:Bool) (ks:List Nat) (m k v:Arg)
 |lkp (ag:Bool) (ks:List Nat) (ok:Bool) (z:AV) (m k:Arg)
 |mks (sz:Nat) (z:AV) (bytes:Nat) (len cap:Arg)
 |slc (sz:Nat) (x:Arg) (lo hi mx:Option Arg)
 |ssl (x:Arg) (lo hi:Option Arg)
 |len (k:Nat) (x:Arg)
 |app (fz:Bool) (sz bytes:Nat) (s x:Arg)
 |rng (x:Arg)
 |nxt (x:Arg)
 |mkif (t:TypeId) (x:Arg)
 |mm (mx:Bool) (x y:Arg)
 |rel (x:Arg)
 |call (pure:Bool) (f:Nat) (args:List Arg)
 |callv (pure:Bool) (f:Arg) (args:List Arg)
 |bad
 deriving Inhabited
structure AOper where
 dst:Option Nat
 op:AOp
 guard:Option<|Nat×Bool
 deriving Inhabited
inductive ACode where
 |skip
 |region (ops:List AOper)
 |draw (un:List<|List Nat) (p1 p2:List AOper)
 |seq (a b:ACode)
 |cond (c:Arg) (thn els:ACode)
 |block (id:Nat) (body:ACode)
 |loop (live:List Nat) (body:ACode)
 |rangeFunc (f:Arg) (params:List Nat) (assign body:ACode)
 |keep (live:List Nat) (body:ACode)
 |zbox (d sz:Nat) (z:AV) (ps:List<|Nat×Nat)
 |nils (s d off:Nat) (p:Arg)
 |ghost (d off s:Nat) (body:ACode)
 |exit (id:Nat)
 |ret
 |bad
 deriving Inhabited
inductive AExit where
 |normal
 |exit (id:Nat)
 |ret
 deriving DecidableEq
abbrev Fr:=List<|Nat×AV
inductive AObj where
 |dead
 |gone
 |row (sz:Nat) (es:List AV)
 |map (ks vs:List AV)
 |iter (s:ByteArray) (pos:Nat)
 |loop (st:LoopState) (pend:AExit) (fr:Fr) (ps:List Nat) (assign body:ACode)
 deriving Inhabited
inductive TC where
 |row (sz g:Nat) (r:Option Nat) (C B:Nat)
 |map (r:Nat)
 |iter (r:Nat)
 |loop (r:Nat)
abbrev Ty:=Nat->Option TC
def TC.real:TC->Option Nat
 | .row _ _ r _ _=>r
 | .map r=>some r
 | .iter r=>some r
 | .loop r=>some r
structure Xt where
 p:Nat->Prop
 cr:Nat->Code->ACode->Prop
instance:CoeFun Xt (λ_=>Nat->Prop):=⟨Xt.p⟩
def Ty.rng(T:Ty)(r:Nat):Prop:=∃b c,T b=some c/\c.real=some r
mutual
def clean:AV->Bool
 | .agg cs=>Z4 cs
 | .tup cs=>Z4 cs
 | .iptr bw _=>!bw
 | .isl bw _ _ _=>!bw
 | .imap bw _ _=>!bw
 | .ifc _ v=>clean v
 | .clo _ first cap=>Z4 first&&Z4 cap
 | .ptr .. | .sl .. | .mp _| .it _| .yld _=>false
 |_=>true
def Z4:List AV->Bool
 |[]=>true
 |v::r=>clean v&&Z4 r
end
mutual
def Zy:AV->Bool
 | .agg cs=>Zi cs
 | .tup cs=>Zi cs
 | .ifc _ v=>Zy v
 | .clo _ first cap=>Zi first&&Zi cap
 | .ptr .. | .sl .. | .mp _| .it _| .yld _=>false
 |_=>true
def Zi:List AV->Bool
 |[]=>true
 |v::r=>Zy v&&Zi r
end
def okc:Bool->List AV->Bool
 |false,cs=>Z4 cs
 |true,cs=>Zi cs
def World.at(w:World)(r o:Nat):Option Value:=w.cell? ⟨r,o,none⟩
def ZoV(es:Array MapEntry)(a:Nat):Prop:=(∀x∈es.toList,x.born<a)/\(es.toList.map (·.born)).Nodup
def Zpj(w:World)(r:Nat)(es:Array MapEntry)(a:Nat):Prop:=w.heap[r]?=some (.map es a)/\ZoV es a
def Zq2(a:Nat):ZoV #[] a:=⟨by simp,by simp⟩
def Zq3{es:Array MapEntry}{clock:Nat}(h:ZoV es clock)(key val:Value):ZoV (es.push {key,val,born:=clock}) (clock+1):=by
 obtain⟨h1,h2⟩:=h;refine⟨?_,?_⟩
 .intro x hx;simp only[Array.toList_push,ZSQ,ZSL]at hx;rcases hx with hx|rfl
  .exact Nat.lt_succ_of_lt<|h1 x hx
  .exact Nat.lt_succ_self _
 .simp only[Array.toList_push,ZSF,ZSx,ZSS];refine ZU5.2 ⟨h2,by simp,?_⟩
  intro a ha b hb;simp only[ZSL]at hb;subst hb;obtain⟨x,hx,rfl⟩:=ZSM.1 ha;exact Nat.ne_of_lt<|h1 x hx
def Zq4{es:Array MapEntry}{a:Nat}(h:ZoV es a)(i:Nat)(f:MapEntry->MapEntry)(c:∀e,(f e).born=e.born):ZoV (es.modify i f) a:=by
 have b:(es.modify i f).toList.map (·.born)=es.toList.map (·.born):=by
  apply ZTO;intro j;simp only[ZT7,ZTV,ZUo];split
  .cases es[j]? with
   |none=>rfl
   |some e=>simp[c]
  .rfl
 refine⟨λx d=>?_,by rw[b];exact h.2⟩
 have:x.born∈(es.modify i f).toList.map (·.born):=ZSM.2 ⟨x,d,rfl⟩;rw[b]at this;obtain⟨y,g,e⟩:=ZSM.1 this;rw[<-e];exact h.1 y g
mutual
def R(T:Ty)(X:Xt)(w:World):AV->Value->Prop
 | .bot,_=>True
 | .bool b,v=>v=.bool b
 | .int k n,v=>v=.int k n
 | .str s,v=>v=.string s
 | .nilp,v=>v=.pointer none
 | .nilsl,v=>v=.slice none 0 0
 | .nilmap,v=>v=.map none
 | .nilfn,v=>v=.nilFunc
 | .nilif,v=>v=.nilIface
 | .agg cs,v=>∃vs:Array Value,v=.agg vs/\Rs T X w cs vs.toList
 | .tup cs,v=>∃vs:Array Value,v=.tuple vs/\Rs T X w cs vs.toList
 | .iptr bw cs,v=>∃r o,v=.pointer (some ⟨r,o,none⟩)/\¬T.rng r/\(bw=false->¬X r)/\okc bw cs=true/\r<w.heap.size/\ZV T X w r cs o
 | .isl bw ex sz es,v=>∃a d cap,v=.slice a d cap/\d=es.length/\d<=cap/\(ex=true->cap=d)/\okc bw es=true/\
  (es=[]\/∃r o,a=some ⟨r,o,none⟩/\¬T.rng r/\(bw=false->¬X r)/\r<w.heap.size/\ZA T X w sz r es o)
 | .imap bw ks vs,v=>∃r es e l,v=.map (some r)/\¬T.rng r/\(bw=false->¬X r)/\(okc bw ks=true/\okc bw vs=true)/\Zpj w r es e/\ks.Nodup/\List.Perm l es.toList/\
  Rs T X w ks (l.map (·.key))/\Rs T X w vs (l.map (·.val))
 | .ifc t x,v=>∃u,v=.iface t u/\R T X w x u
 | .clo fn first cap,v=>∃f c:Array Value,v=.func fn f c/\Rs T X w first f.toList/\Rs T X w cap c.toList
 | .ptr b i off g,v=>(∃p,v=.pointer p)/\∃sz h r C B,T b=some (.row sz h r C B)/\g<=h/\(g=h->∃j,r=some j/\i<g/\v=.pointer (some ⟨j,(B+i)*sz+off,none⟩))
 | .sl b g off d ex,v=>(∃p l c,v=.slice p l c)/\∃sz h r C B,T b=some (.row sz h r C B)/\g<=h/\off+d<=g/\
  (g=h->∃cap,d<=cap/\B+off+cap<=C/\(ex=true->cap=d)/\((∃j,r=some j/\v=.slice (some ⟨j,(B+off)*sz,none⟩) d cap)\/(cap=0/\∃p,v=.slice p 0 0/\(r=none->p=none))))
 | .mp b,v=>∃r,T b=some (.map r)/\v=.map (some r)
 | .it b,v=>∃r,T b=some (.iter r)/\v=.pointer (some ⟨r,0,none⟩)
 | .yld b,v=>∃r,T b=some (.loop r)/\v=.func (.yield r) #[] #[]
def Rs(T:Ty)(X:Xt)(w:World):List AV->List Value->Prop
 |[],vs=>vs=[]
 |a::as,vs=>∃v b,vs=v::b/\R T X w a v/\Rs T X w as b
def ZV(T:Ty)(X:Xt)(w:World)(r:Nat):List AV->Nat->Prop
 |[],_=>True
 |a::as,o=>(∃v,World.at w r o=some v/\R T X w a v)/\ZV T X w r as (o+1)
def ZA(T:Ty)(X:Xt)(w:World)(sz r:Nat):List AV->Nat->Prop
 |[],_=>True
 | .agg cs::es,o=>cs.length=sz/\ZV T X w r cs o/\ZA T X w sz r es (o+sz)
 |a::es,o=>sz=1/\(∃v,World.at w r o=some v/\R T X w a v)/\ZA T X w sz r es (o+sz)
end
def get:Fr->Nat->AV
 |[],_=>.bot
 |(k,v)::r,t=>bif k==t then v else get r t
def put(fr:Fr)(t:Nat)(v:AV):Fr:=(t,v)::fr
def ZB(fr:Fr)(d:Option Nat)(v:AV):Fr:=
 match d with
 |some t=>put fr t v
 |none=>fr
def Z2(live:List Nat)(fr:Fr):Fr:=live.map λt=>(t,get fr t)
inductive ResVar where
 |tmp (t:Nat)
 |cell (t:Nat) (n:Option Nat)
structure AFun where
 res:List ResVar
 body:ACode
abbrev Hp:=List AObj
structure Env where
 fn:Nat->Option AFun
 gl:Nat->AV
 sum:Nat->Option (List AV->Hp->Option (AV×Hp))
 rs:Nat->Option (List AV->Nat->List AV->Option (List AV)):=λ_=>none
def ev(E:Env)(fr:Fr):Arg->AV
 | .t n=>get fr n
 | .c v=>v
 | .f f=>.clo (.func f) [] []
 | .g g=>E.gl g
def takeC:Option Nat->List AV->Option AV
 |none,c::_=>some c
 |none,[]=>none
 |some n,cs=>bif Nat.ble n cs.length then some (.agg<|cs.take n)else none
def Q2(h:Hp):AV->Option (List AV)
 | .nilsl=>some []
 | .isl _ _ _ es=>some es
 | .sl b g off len _=>
  match h[b]? with
  |some (.row _ es)=>bif es.length==g then some ((es.drop off).take len)else none
  |_=>none
 |_=>none
def Zs:AV->List Nat
 | .sl b _ _ _ _=>[b]
 | .ptr b _ _ _=>[b]
 | .mp b=>[b]
 | .it b=>[b]
 |_=>[]
def Z3(a b:ByteArray):Bool:=a.data.toList==b.data.toList
def WW(a b:ByteArray):Bool:=Op.bytesLess a.data.toList b.data.toList
def eq1:Nat->AV->AV->Option Bool
 |0,.bool a,.bool b=>some<|a==b
 |1,.int k a,.int j b=>if k=j then some (a==b)else none
 |2,.str a,.str b=>some<|Z3 a b
 |_,_,_=>none
def ZE:List Nat->List AV->List AV->Option Bool
 |[],[],[]=>some true
 |k::ks,x::xs,y::ys=>
  match eq1 k x y with
  |none=>none
  |some a=>
   match ZE ks xs ys with
   |none=>none
   |some b=>some<|a&&b
 |_,_,_=>none
def Zz(d:Bool)(c:List Nat)(x y:AV):Option Bool:=
 match d with
 |true=>
  match x,y with
  | .agg a,.agg b=>ZE c a b
  |_,_=>none
 |false=>ZE c [x] [y]
def JO(c:BinOp)(k:IntKind)(a b:Int):Option AV:=
 match c with
 | .add=>some<|.int k<|k.wrap<|a+b
 | .sub=>some<|.int k<|k.wrap<|a-b
 | .mul=>some<|.int k<|k.wrap<|a*b
 | .quo=>if b=0 then none else some<|.int k<|k.wrap<|a.tdiv b
 | .rem=>if b=0 then none else some<|.int k<|a.tmod b
 | .and=>some<|.int k<|k.wrap (BitVec.ofInt k.bits a &&& BitVec.ofInt k.bits b).toNat
 | .or=>some<|.int k<|k.wrap (BitVec.ofInt k.bits a ||| BitVec.ofInt k.bits b).toNat
 | .xor=>some<|.int k<|k.wrap (BitVec.ofInt k.bits a ^^^ BitVec.ofInt k.bits b).toNat
 | .eql=>some<|.bool<|a==b
 | .neq=>some<|.bool<|a != b
 | .lss=>some<|.bool<|decide (a<b)
 | .leq=>some<|.bool<|decide (a<=b)
 | .gtr=>some<|.bool<|decide (a>b)
 | .geq=>some<|.bool<|decide (a>=b)
 |_=>none
def UR(c:BinOp)(a b:ByteArray):Option AV:=
 match c with
 | .add=>if a.size+b.size<=4611686018427387904 then some (.str<|a++b)else none
 | .eql=>some<|.bool<|Z3 a b
 | .neq=>some<|.bool<|!Z3 a b
 | .lss=>some<|.bool<|WW a b
 | .leq=>some<|.bool<|WW a b||Z3 a b
 | .gtr=>some<|.bool<|!(WW a b||Z3 a b)
 | .geq=>some<|.bool<|!WW a b
 |_=>none
def YZ(c:BinOp):AV->AV->Option AV
 | .int k a,.int j b=>
  match c with
  | .shl=>if b<0 then none else some<|.int k<|k.wrap<|a*2 ^ (min b.toNat k.bits)
  | .shr=>if b<0 then none else some<|.int k<|a.fdiv<|2 ^ (min b.toNat k.bits)
  |_=>if k=j then JO c k a b else none
 | .str a,.str b=>UR c a b
 |_,_=>none
def Vy(a:UnOp):AV->Option AV
 | .bool b=>match a with| .not=>some (.bool !b)|_=>none
 | .int k n=>match a with| .neg=>some (.int k<|k.wrap<|0-n)|_=>none
 |_=>none
def scalar:AV->Bool
 | .bot| .agg _| .tup _=>false
 |_=>true
def fits(sz:Nat):AV->Bool
 | .agg cs=>cs.length==sz&&cs.all scalar
 |v=>scalar v&&sz==1
def fill(a:List AV):List (Nat×Nat×AV)->Option (List AV)
 |[]=>some a
 |(off,sz,v)::r=>
  let cs:=v.cells
  bif fits sz v&&Nat.ble (off+sz) a.length then fill (a.take off++cs++a.drop (off+sz)) r else none
def YC(sz:Nat)(es:List AV):List (Nat×AV)->Option (List AV)
 |[]=>some es
 |(i,v)::r=>bif fits sz v&&Nat.blt i es.length then YC sz (es.set i v) r else none
def ZW(d:Bool)(c:List Nat)(k:AV):List AV->Nat->Option (Option Nat)
 |[],_=>some none
 |a::r,i=>
  match Zz d c k a with
  |none=>none
  |some b=>
   match ZW d c k r (i+1)with
   |none=>none
   |some x=>some<|bif b then some i else x
def numOf:AV->Option Nat
 | .int _ n=>if 0<=n then some n.toNat else none
 |_=>none
def Vz:Option AV->Option (Option Nat)
 |none=>some none
 |some v=>(numOf v).map some
def Wl(a:Nat)(mx:Option AV):Option AV->Option Nat
 |none=>bif mx.isNone then some a else none
 |some v=>numOf v
def VA:Option AV->Option Nat
 |none=>some 0
 |some v=>numOf v
def VB(h a:Nat):Option Nat->Bool
 |none=>true
 |some m=>Nat.ble h m&&Nat.ble m a
def bounds(c b mx:Option AV)(a:Nat):Option (Nat×Nat×Option Nat):=
 match Vz mx,Wl a mx b,VA c with
 |some m,some h,some l=>bif Nat.ble l h&&Nat.ble h a&&VB h a m then some (l,h,m)else none
 |_,_,_=>none
abbrev Zt:=AV×List Nat×Option (Nat×AObj)
def Zl(v:Option AV):Option Zt:=v.map λv=>(v,[],none)
def QW(d:Bool)(c:List Nat)(a:Bool)(z:AV)(rs:List Nat)(b vs:List AV)(k:AV):Option Zt:=
 match Zz d c k k,ZW d c k b 0 with
 |some _,some none=>some (bif a then .tup [z,.bool false]else z,rs,none)
 |some _,some (some i)=>(vs[i]?).map λv=>(bif a then .tup [v,.bool true]else v,rs,none)
 |_,_=>none
def Yo(d:Bool)(c:List Nat)(b:Nat)(a vs:List AV)(k v:AV):Option Zt:=
 match Zz d c k k,ZW d c k a 0 with
 |some _,some none=>some (.bot,[b],some (b,.map (a++[k])<|vs++[v]))
 |some _,some (some i)=>some (.bot,[b],some (b,.map a<|vs.set i v))
 |_,_=>none
def VC:Nat->AV->Bool
 |0,.str _=>true
 |1,.nilsl=>true
 |1,.isl _ _ _ _=>true
 |1,.sl _ _ _ _ _=>true
 |2,.nilmap=>true
 |2,.imap _ _ _=>true
 |2,.mp _=>true
 |_,_=>false
def X1(h:Hp)(x:AV):Option Zt:=
 match x with
 | .str s=>Zl<|some<|.int .i64 s.size
 | .nilsl=>Zl<|some<|.int .i64 0
 | .nilmap=>Zl<|some<|.int .i64 0
 | .isl _ _ _ es=>Zl<|some<|.int .i64 es.length
 | .imap _ ks _=>Zl<|some<|.int .i64 ks.length
 | .sl b g _ len _=>
  match h[b]? with
  |some (.row _ es)=>bif es.length==g then some (.int .i64 len,[b],none)else none
  |_=>none
 | .mp b=>
  match h[b]? with
  |some (.map ks _)=>some (.int .i64 ks.length,[b],none)
  |_=>none
 |_=>none
def Qq(h:Hp)(sz:Nat):AV->Bool
 | .isl _ _ z es=>z==sz||es.isEmpty
 | .sl b _ _ _ _=>
  match h[b]? with
  |some (.row z _)=>z==sz
  |_=>false
 |_=>true
def Yp(aid:Nat)(fz:Bool)(sz:Nat)(a:List AV)(rs:List Nat):Option Zt:=
 bif fz then(bif Z4 a then some (.isl false false sz a,rs,none)else none)
 else some (.sl aid a.length 0 a.length false,rs,some (aid,.row sz a))
def Qt(h:Hp)(aid:Nat)(fz:Bool)(sz a:Nat)(s x:AV):Option Zt:=
 match Q2 h s,Q2 h x with
 |some es,some ys=>
  if Qq h sz s=true/\Qq h sz x=true/\0<sz/\0<a/\(es.length+ys.length)*a<=140737488355328 then
   bif ys.isEmpty then some (s,Zs s++Zs x,none)
   else
    match s with
    | .nilsl=>Yp aid fz sz (es++ys)<|Zs s++Zs x
    | .isl _ true _ _=>Yp aid fz sz (es++ys)<|Zs s++Zs x
    | .sl _ _ _ _ true=>Yp aid fz sz (es++ys)<|Zs s++Zs x
    | .sl b g off len false=>
     match h[b]? with
     |some (.row sz' all)=>bif off==0&&len==g&&ys.all (fits sz)then some (.sl b (g+ys.length) 0 (g+ys.length) false,b::Zs x,some (b,.row sz'<|all++ys))else none
     |_=>none
    |_=>none
  else none
 |_,_=>none
def ZvE(h:Hp):Zt->Option Zt
 |(.sl b g off len ex,rs,some (b',.row sz es))=>bif b'==b&&(es.length==g&&Z4 es)then some (.isl false ex sz<|(es.drop off).take len,rs,some (b,.gone))else none
 |(.sl b g off len ex,rs,none)=>
  match h[b]? with
  |some (.row sz es)=>bif es.length==g&&Z4 es then some (.isl false ex sz<|(es.drop off).take len,rs,some (b,.gone))else none
  |_=>none
 |(.isl bw ex sz es,rs,none)=>some (.isl bw ex sz es,rs,none)
 |_=>none
def ZvH(h:Hp)(b:Nat)(c:Nat):AV->Option Zt
 | .agg cs=>
  match cs[c]? with
  |some (.sl b2 g off len ex)=>
   bif b2==b+1 then
    match h[b+1]? with
    |some (.row sz es)=>bif es.length==g&&Z4 es then some (.agg<|cs.set c<|.isl false ex sz<|(es.drop off).take len,[b,b+1],some (b+1,.gone))else none
    |_=>none
   else none
  |_=>none
 |_=>none
def Z8(E:Env)(fr:Fr)(h:Hp)(aid:Nat):AOp->Option Zt
 | .mv x=>Zl<|some<|ev E fr x
 | .own sz=>some (.sl aid 0 0 0 false,[],some (aid,.row sz []))
 | .pick c a b=>
  match ev E fr c with
  | .bool true=>Zl<|some<|ev E fr a
  | .bool false=>Zl<|some<|ev E fr b
  |_=>none
 | .box sz x=>bif fits sz (ev E fr x)then some (.ptr aid 0 0 1,[],some (aid,.row sz [ev E fr x]))else none
 | .ibox sz x=>bif fits sz (ev E fr x)then(bif Z4 (ev E fr x).cells then Zl (some<|.iptr false (ev E fr x).cells)else bif Zi (ev E fr x).cells then Zl (some<|.iptr true (ev E fr x).cells)else some (.ptr aid 0 0 1,[],some (aid,.row sz [ev E fr x])))else none
 | .build z ps=>Zl<|(fill z<|ps.map λp=>(p.1,p.2.1,ev E fr p.2.2)).map .agg
 | .bsl fz ex sz z d ps=>
  match YC sz (List.replicate d z) (ps.map λp=>(p.1,ev E fr p.2))with
  |some es=>
   bif fits sz z then
    bif fz then(bif Z4 es then Zl (some<|.isl false ex sz es)else none)
    else some (.sl aid d 0 d<|!ex,[],some (aid,.row sz es))
   else none
  |none=>none
 | .load n x=>
  match ev E fr x with
  | .iptr _ cs=>Zl<|takeC n cs
  | .ptr b i off g=>
   match h[b]? with
   |some (.row _ es)=>
    bif es.length==g then
     match es[i]? with
     |some e=>(takeC n<|e.cells.drop off).map λv=>(v,[b],none)
     |none=>none
    else none
   |_=>none
  |_=>none
 | .ldr n c x=>
  match ev E fr x with
  | .ptr b i off g=>
   match h[b]? with
   |some (.row _ es)=>
    bif es.length==g then
     match es[i]? with
     |some e=>
      match takeC (some n) (e.cells.drop off)with
      |some u=>ZvH h b c u
      |none=>none
     |none=>none
    else none
   |_=>none
  |_=>none
 | .store n a x=>
  match ev E fr a with
  | .ptr b i off g=>
   match h[b]? with
   |some (.row sz es)=>
    let cs:=(ev E fr x).cells
    bif es.length==g&&fits n (ev E fr x)then
     match es[i]? with
     |some (.agg old)=>
      bif Nat.ble (off+n) old.length then some (.bot,[b],some (b,.row sz<|es.set i<|.agg<|old.take off++cs++old.drop (off+n)))else none
     |some _=>
      match cs with
      |[c]=>bif off==0 then some (.bot,[b],some (b,.row sz<|es.set i c))else none
      |_=>none
     |none=>none
    else none
   |_=>none
  |_=>none
 | .nilck x=>
  match ev E fr x with
  | .iptr bw cs=>Zl<|some<|.iptr bw cs
  | .ptr b i off g=>
   match h[b]? with
   |some (.row _ es)=>bif es.length==g then some (.ptr b i off g,[b],none)else none
   |_=>none
  | .clo (.func f) first cap=>Zl<|some<|.clo (.func f) first cap
  |_=>none
 | .isn neg x=>
  match ev E fr x with
  | .nilp=>Zl<|some<|.bool !neg
  | .iptr _ _=>Zl<|some<|.bool neg
  | .ptr b _ _ g=>
   match h[b]? with
   |some (.row _ es)=>bif es.length==g then some (.bool neg,[b],none)else none
   |_=>none
  |_=>none
 | .bin op x y=>Zl<|YZ op (ev E fr x)<|ev E fr y
 | .eqv neg ag ks x y=>Zl<|(Zz ag ks (ev E fr x)<|ev E fr y).map λb=>.bool (if neg then !b else b)
 | .un op x=>Zl<|Vy op<|ev E fr x
 | .conv k x=>
  match k,ev E fr x with
  |some k,.int _ n=>Zl<|some<|.int k<|k.wrap n
  |none,.str s=>Zl<|some<|.str s
  |_,_=>none
 | .fld n off x=>
  match ev E fr x with
  | .agg cs=>Zl<|takeC n<|cs.drop off
  |_=>none
 | .fadr o x=>
  match ev E fr x with
  | .iptr bw cs=>Zl<|some<|.iptr bw<|cs.drop o
  | .ptr b i off g=>
   match h[b]? with
   |some (.row _ es)=>bif es.length==g then some (.ptr b i (off+o) g,[b],none)else none
   |_=>none
  |_=>none
 | .iadr sz x i=>
  match ev E fr x,ev E fr i with
  | .isl bw _ sz' es,.int _ n=>
   if 0<=n then
    match es[n.toNat]? with
    |some e=>bif sz'==sz then Zl (some<|.iptr bw e.cells)else none
    |none=>none
   else none
  | .sl b g off d _,.int _ n=>
   if 0<=n/\n<(d:Int)then
    match h[b]? with
    |some (.row sz' es)=>bif sz'==sz&&es.length==g then some (.ptr b (off+n.toNat) 0 g,[b],none)else none
    |_=>none
   else none
  |_,_=>none
 | .aadr sz d x i=>
  match ev E fr x,ev E fr i with
  | .iptr bw cs,.int _ n=>if 0<=n/\n<(d:Int)then Zl (some<|.iptr bw<|cs.drop<|n.toNat*sz)else none
  | .ptr b j off g,.int _ n=>
   match h[b]? with
   |some (.row _ es)=>bif es.length==g then(if 0<=n/\n<(d:Int)then some (.ptr b j (off+n.toNat*sz) g,[b],none)else none)else none
   |_=>none
  |_,_=>none
 | .sidx x i=>
  match ev E fr x,ev E fr i with
  | .str s,.int _ n=>if 0<=n then Zl ((s.data[n.toNat]?).map λb=>.int .u8 b.toNat)else none
  |_,_=>none
 | .aidx n sz d x i=>
  match ev E fr x,ev E fr i with
  | .agg cs,.int _ k=>if 0<=k/\k<(d:Int)then Zl (takeC n<|cs.drop<|k.toNat*sz)else none
  |_,_=>none
 | .ext x i=>
  match ev E fr x with
  | .tup vs=>Zl vs[i]?
  |_=>none
 | .mkf fn first cap=>Zl<|some<|.clo fn (first.map<|ev E fr)<|cap.map<|ev E fr
 | .mkm=>some (.mp aid,[],some (aid,.map [] []))
 | .ins ag kk m k v| .mupd ag kk m k v=>
  match ev E fr m with
  | .mp b=>
   match h[b]? with
   |some (.map ks vs)=>
    Yo ag kk b ks vs (ev E fr k) (ev E fr v)
   |_=>none
  |_=>none
 | .lkp ag kk ok z m k=>
  match ev E fr m with
  | .nilmap=>QW ag kk ok z [] [] []<|ev E fr k
  | .imap _ ks vs=>QW ag kk ok z [] ks vs<|ev E fr k
  | .mp b=>
   match h[b]? with
   |some (.map ks vs)=>QW ag kk ok z [b] ks vs<|ev E fr k
   |_=>none
  |_=>none
 | .mks sz z bytes d cap=>
  match ev E fr d,ev E fr cap with
  | .int .i64 n,.int .i64 c=>
   if 0<=n/\n<=c/\c*bytes<=70368744177664/\c<9223372036854775807/\fits sz z=true/\0<sz then
    some (.sl aid n.toNat 0 n.toNat<|n==c,[],some (aid,.row sz<|List.replicate n.toNat z))
   else none
  |_,_=>none
 | .slc sz x lo hi mx=>
  match ev E fr x with
  | .nilsl=>
   match bounds (lo.map<|ev E fr) (hi.map<|ev E fr) (mx.map<|ev E fr) 0 with
   |some _=>Zl<|some .nilsl
   |none=>none
  | .isl bw ex sz' es=>
   match bounds (lo.map<|ev E fr) (hi.map<|ev E fr) (mx.map<|ev E fr) es.length with
   |some (l,hh,m)=>bif sz'==sz then Zl (some<|.isl bw (match m with|none=>ex&&hh==es.length|some m=>m==hh) sz<|(es.drop l).take (hh-l))else none
   |none=>none
  | .sl b g off d ex=>
   match bounds (lo.map<|ev E fr) (hi.map<|ev E fr) (mx.map<|ev E fr) d with
   |some (l,hh,m)=>
    match h[b]? with
    |some (.row sz' es)=>bif sz'==sz&&es.length==g then some (.sl b g (off+l) (hh-l) (match m with|none=>ex&&hh==d|some m=>m==hh),[b],none)else none
    |_=>none
   |none=>none
  |_=>none
 | .ssl x lo hi=>
  match ev E fr x with
  | .str s=>
   match bounds (lo.map<|ev E fr) (hi.map<|ev E fr) none s.size with
   |some (l,hh,_)=>Zl<|some<|.str<|s.extract l hh
   |none=>none
  |_=>none
 | .len k x=>bif VC k (ev E fr x)then X1 h (ev E fr x)else none
 | .app fz sz bytes s x=>Qt h aid fz sz bytes (ev E fr s)<|ev E fr x
 | .apr sz bytes s x=>
  match Qt h aid false sz bytes (ev E fr s) (ev E fr x)with
  |some r=>ZvE h r
  |none=>none
 | .rng x=>
  match ev E fr x with
  | .str s=>some (.it aid,[],some (aid,.iter s 0))
  |_=>none
 | .nxt x=>
  match ev E fr x with
  | .it b=>
   match h[b]? with
   |some (.iter s pos)=>
    bif Nat.blt pos s.size then
     some (.tup [.bool true,.int .i64 pos,.int .i32 (Utf8.decode s pos).1],[b],some (b,.iter s<|pos+(Utf8.decode s pos).2))
    else some (.tup [.bool false],[b],none)
   |_=>none
  |_=>none
 | .mkif t x=>Zl<|some<|.ifc t<|ev E fr x
 | .rel x=>
  match ev E fr x with
  | .sl b g off d ex=>
   match h[b]? with
   |some (.row sz es)=>bif es.length==g&&Z4 es then some (.isl false ex sz<|(es.drop off).take d,[b],some (b,.gone))else none
   |_=>none
  |v=>bif Zs v |>.isEmpty then Zl (some v)else none
 | .mm mx x y=>
  match ev E fr x,ev E fr y with
  | .int k a,.int _ b=>Zl<|some<|.int k<|bif mx then(if b>a then b else a)else(if b<a then b else a)
  |_,_=>none
 |_=>none
def setH(h:Hp)(b:Nat)(o:AObj):Hp:=bif Nat.blt b h.length then h.set b o else h++[o]
def ZH(h:Hp):Option (Nat×AObj)->Hp
 |none=>h
 |some (b,o)=>setH h b o
mutual
def freeze(bw:Bool)(h:Hp):Nat->AV->Option AV
 |0,_=>none
 |n+1,v=>
  bif clean v then some v else
  match v with
  | .agg cs=>(ZC bw h n cs).map .agg
  | .tup cs=>(ZC bw h n cs).map .tup
  | .ifc t x=>(freeze bw h n x).map (.ifc t)
  | .clo fn first cap=>
   match ZC bw h n first,ZC bw h n cap with
   |some f,some c=>some<|.clo fn f c
   |_,_=>none
  | .iptr true cs=>bif bw then some (.iptr true cs)else none
  | .isl true ex sz es=>bif bw then some (.isl true ex sz es)else none
  | .imap true ks vs=>bif bw then some (.imap true ks vs)else none
  | .ptr b i off g=>
   match h[b]? with
   |some (.row _ es)=>
    bif es.length==g then
     match es[i]? with
     |some e=>(ZC bw h n<|e.cells.drop off).map (.iptr bw)
     |none=>none
    else none
   |_=>none
  | .sl b g off len ex=>
   match h[b]? with
   |some (.row sz es)=>bif es.length==g then(ZC bw h n<|(es.drop off).take len).map (.isl bw (bw&&ex) sz)else none
   |_=>none
  | .mp b=>
   match h[b]? with
   |some (.map ks vs)=>
    bif Z4 ks then(ZC bw h n vs).map (.imap bw ks)else none
   |_=>none
  |_=>none
def ZC(bw:Bool)(h:Hp):Nat->List AV->Option (List AV)
 |0,_=>none
 |n+1,l=>
  bif Z4 l then some l else
  match l with
  |[]=>some []
  |v::r=>
   match freeze bw h n v,ZC bw h n r with
   |some a,some b=>some<|a::b
   |_,_=>none
end
def WX(fr:Fr)(h:Hp):ResVar->Option AV
 | .tmp t=>some<|get fr t
 | .cell t n=>
  match get fr t with
  | .ptr b i off g=>
   match h[b]? with
   |some (.row _ es)=>
    bif es.length==g then
     match es[i]? with
     |some e=>takeC n<|e.cells.drop off
     |none=>none
    else none
   |_=>none
  | .iptr _ cs=>takeC n cs
  |_=>none
def YD(fr:Fr)(h:Hp):List ResVar->Option (List AV)
 |[]=>some []
 |r::rs=>
  match WX fr h r,YD fr h rs with
  |some v,some vs=>some<|v::vs
  |_,_=>none
def QO(fr:Fr)(h:Hp)(rs:List ResVar):Option AV:=
 match YD fr h rs with
 |some [v]=>some v
 |some vs=>some<|.tup vs
 |none=>none
def ZJ(fr:Fr)(g:Option<|Nat×Bool):Option Bool:=
 match g with
 |none=>some true
 |some (t,b)=>
  match get fr t with
  | .bool c=>some<|c==b
  | .tup []=>some false
  |_=>none
def QP:Nat->List AV->Fr
 |_,[]=>[]
 |i,v::r=>(i,v)::QP (i+1) r
def Ql(h:Hp)(a:List AV):Option (List AV):=
 bif Z4 a then some a else ZC true h 40 a
def YE(h:Hp)(v:AV):Option AV:=bif clean v then some v else freeze false h 40 v
def AOp.isCall:AOp->Bool
 | .call .. | .callv .. | .apa ..=>true
 |_=>false
def Arg.slots:Arg->List Nat
 | .t n=>[n]
 |_=>[]
def Ko:Option Arg->List Nat
 |some x=>x.slots
 |none=>[]
def Xp:List Arg->List Nat
 |[]=>[]
 |x::r=>x.slots++Xp r
def AOp.slots:AOp->List Nat
 | .mv x| .box _ x| .ibox _ x| .load _ x| .ldr _ _ x| .nilck x| .isn _ x| .un _ x| .conv _ x| .fld _ _ x| .fadr _ x| .ext x _| .rel x| .len _ x| .rng x| .nxt x| .mkif _ x=>x.slots
 | .own _| .mkm| .bad=>[]
 | .pick c a b=>c.slots++a.slots++b.slots
 | .build _ ps=>Xp (ps.map (·.2.2))
 | .bsl _ _ _ _ _ ps=>Xp (ps.map (·.2))
 | .store _ a x| .mm _ a x| .bin _ a x| .eqv _ _ _ a x| .iadr _ a x| .aadr _ _ a x| .sidx a x| .aidx _ _ _ a x| .mks _ _ _ a x| .app _ _ _ a x| .apr _ _ a x| .apa _ _ a x=>a.slots++x.slots
 | .mkf _ f c=>Xp f++Xp c
 | .ins _ _ m k v| .mupd _ _ m k v=>m.slots++k.slots++v.slots
 | .lkp _ _ _ _ m k=>m.slots++k.slots
 | .slc _ x lo hi mx=>x.slots++Ko lo++Ko hi++Ko mx
 | .ssl x lo hi=>x.slots++Ko lo++Ko hi
 | .call _ _ args=>Xp args
 | .callv _ f args=>f.slots++Xp args
structure DRec where
 all:Bool
 rs:List Nat
 wr:Option Nat
 ik:Option<|AV×AV
def sh1:AV->List Nat
 | .sl b _ _ _ _=>[b]
 |_=>[]
def ZOI:List AV->List Nat
 |[]=>[]
 |v::r=>sh1 v++ZOI r
def sh2:AV->List Nat
 | .agg cs=>ZOI cs
 |v=>sh1 v
def ZOA:List AV->List Nat
 |[]=>[]
 |v::r=>sh2 v++ZOA r
def shr(h:Hp)(b:Nat):Bool:=match h[b]? with|some (.row _ es)=>Z4 es|_=>false
def so1(h:Hp):AV->Bool
 | .sl b _ _ _ _=>shr h b
 |v=>Zy v
def ZOJ(h:Hp):List AV->Bool
 |[]=>true
 |v::r=>so1 h v&&ZOJ h r
def so2(h:Hp):AV->Bool
 | .agg cs=>ZOJ h cs
 |v=>so1 h v
def ZOj(h:Hp):List AV->Bool
 |[]=>true
 |v::r=>so2 h v&&ZOj h r
def cRc(h:Hp)(a:List AV):Bool->DRec
 |true=>⟨false,[],none,none⟩
 |false=>bif ZOj h a then⟨false,ZOA a,none,none⟩else⟨true,[],none,none⟩
def ZO9(h:Hp)(a:List AV):DRec:=cRc h a<|Zi a
def YF:AV->AV->Bool
 | .int k a,.int j b=>decide (k=j)&&a != b
 | .str a,.str b=>!Z3 a b
 |_,_=>false
def Kp(x y:DRec):Bool:=
 match x.ik,y.ik with
 |some (k,_),some (j,_)=>YF k j
 |_,_=>false
def Qy(x y:DRec):Bool:=
 (match x.wr with
  |none=>true
  |some b=>!y.all&&!y.rs.contains b&&(!(y.wr==some b)||Kp x y))&&
 (match y.wr with
  |none=>true
  |some b=>!x.all&&!x.rs.contains b)
def Zv(x:DRec)(a:List DRec):List Nat->Bool
 |[]=>true
 |j::r=>(match a[j]? with|some y=>Qy x y|none=>false)&&Zv x a r
def opT(E:Env)(fr:Fr):AOp->List Nat
 | .load _ x| .nilck x| .isn _ x| .fadr _ x| .len _ x| .nxt x| .rel x=>Zs<|ev E fr x
 | .ldr _ _ x=>match ev E fr x with| .ptr b _ _ _=>[b,b+1]|_=>[]
 | .store _ x _| .iadr _ x _| .aadr _ _ x _| .slc _ x _ _ _| .ins _ _ x _ _| .mupd _ _ x _ _| .lkp _ _ _ _ x _=>Zs<|ev E fr x
 | .app _ _ _ s x| .apr _ _ s x=>Zs (ev E fr s)++Zs (ev E fr x)
 |_=>[]
def Wm(E:Env)(fr:Fr)(h:Hp):AOp->Option (AV×AV)
 | .ins ag kk m k v=>
  match ev E fr m with
  | .mp b=>
   match h[b]? with
   |some (.map ks _)=>
    match ZW ag kk (ev E fr k) ks 0 with
    |some none=>bif YF (ev E fr k) (ev E fr k)then none else some (ev E fr k,ev E fr v)
    |_=>none
   |_=>none
  |_=>none
 |_=>none
def QG(E:Env)(fr:Fr)(h:Hp)(b:AOp)(a:Option<|Nat×AObj):DRec:=
 match Wm E fr h b with
 |some p=>⟨false,[],a.map (·.1),some p⟩
 |none=>⟨false,opT E fr b,a.map (·.1),none⟩
def X3:AOp->Bool
 | .mv _| .pick .. | .load .. | .nilck _| .isn .. | .bin .. | .eqv .. | .un .. | .conv .. | .fld .. | .fadr .. | .iadr .. | .aadr .. | .sidx .. | .aidx .. | .ext .. | .mkf .. | .build .. | .lkp .. | .slc .. | .ssl .. | .len .. | .mkif .. | .mm ..=>true
 | .bsl fz _ _ _ _ _=>fz
 | .call p _ _=>p
 | .callv p _ _=>p
 |_=>false
def Ya(h:Hp):Option (Nat×AObj)->Bool
 |none=>true
 |some (b,_)=>Nat.ble b h.length
def QH(a:AOper->Fr->Hp->Option (AV×DRec×Option (Nat×AObj))):List AOper->List (List Nat)->Fr->Hp->List DRec->Option (Fr×Hp)
 |[],_,fr,h,_=>some (fr,h)
 |_::_,[],_,_,_=>none
 |o::r,u::us,fr,h,recs=>
  match a o fr h with
  |some (v,d,wr)=>bif Zv d recs u&&Ya h wr then QH a r us (ZB fr o.dst v) (ZH h wr) (recs++[d])else none
  |none=>none
mutual
def bel(n:Nat):AV->Bool
 | .agg cs=>Zd n cs
 | .tup cs=>Zd n cs
 | .ifc _ v=>bel n v
 | .clo _ first cap=>Zd n first&&Zd n cap
 | .ptr b _ _ _=>Nat.blt b n
 | .sl b _ _ _ _=>Nat.blt b n
 | .mp b=>Nat.blt b n
 | .it b=>Nat.blt b n
 | .yld b=>Nat.blt b n
 |_=>true
def Zd(n:Nat):List AV->Bool
 |[]=>true
 |v::r=>bel n v&&Zd n r
end
def Zj(n:Nat):AObj->Bool
 | .row _ es=>Zd n es
 | .map ks vs=>Zd n ks&&Zd n vs
 | .loop _ _ fr _ _ _=>Zd n (fr.map (·.2))
 |_=>true
def noP:List AV->Bool
 | .ptr ..::_=>false
 |_=>true
def ZE8(s:List AV->Nat->List AV->Option (List AV))(h:Hp):List AV->Option (AV×Option (Nat×AObj))
 | .sl b g off len ex::r=>
  match h[b]? with
  |some (.row sz es)=>bif es.length==g&&(off==0&&(len==g&&noP r))then(s r sz es).map λes'=>(.sl b g off len ex,some (b,.row sz es'))else none
  |_=>none
 | .isl bw ex sz []::r=>
  bif noP r then
   match s r sz []with
   |some []=>some (.isl bw ex sz [],none)
   |_=>none
  else none
 | .ptr b 0 0 1::r=>
  match h[b]?,h[b+1]?,h[b-1]? with
  |some (.row sz [e]),some<|.row sz2 es,some (.map ks vs)=>
   bif Z4 ks&&Z4 vs then
    match s (.ptr b 0 0 sz2::r) sz (e::es)with
    |some [e',v]=>some (v,some (b,.row sz [e']))
    |_=>none
   else none
  |_,_,_=>none
 |_=>none
def ZEZ:List AV->List Nat
 | .sl b _ _ _ _::_=>[b]
 | .ptr b _ _ _::_=>[b,b+1,b-1]
 |_=>[]
def ZEn(s:List AV->Nat->List AV->Option (List AV))(h:Hp)(a:List AV):Option (AV×DRec×Option (Nat×AObj)):=
 (ZE8 s h a).map λr=>(r.1,⟨false,ZEZ a,r.2.map (·.1),none⟩,r.2)
def X4(n:Nat):List AObj->Bool
 |[]=>true
 |o::r=>Zj n o&&X4 n r
def Xq(n:Nat)(fr:Fr)(h:Hp):Hp:=bif Zd n (fr.map (·.2))&&X4 n (h.take n)then h.take n else h
def Zw7:Nat->List AV->List (Nat×Nat)->List AV
 |_,cs,[]=>cs
 |b,cs,(o,_)::r=>Zw7 (b+1) (cs.set o<|.sl b 0 0 0 false) r
def Zvr(b:Nat)(ps:List<|Nat×Nat):AV->AV
 | .agg cs=>.agg<|Zw7 b cs ps
 |_=>.sl b 0 0 0 false
def ZE9(h:Hp)(sz a:Nat)(s x:AV):Option (AV×Hp):=
 match s with
 | .sl b g off len false=>
  match h[b]?,Q2 h x with
  |some (.row sz' es),some ys=>
   bif (es.length==g&&sz'==sz)&&((off+len==g)&&(Qq h sz x&&(ys.all (fits sz)&&(Nat.blt 0 ys.length&&(Nat.blt 0 sz&&(Nat.blt 0 a&&Nat.ble ((len+ys.length)*a) 140737488355328))))))
   then some (.sl h.length (len+ys.length) 0 (len+ys.length) false,setH h b .gone++[.row sz<|es.drop off++ys])else none
  |_,_=>none
 |_=>(Qt h h.length false sz a s x).map λr=>(r.1,ZH h r.2.2)
def Zvo(ps:List<|Nat×Nat):List AObj:=ps.map λp=>.row p.2 []
def ghW(d off s:Nat)(fr:Fr)(h:Hp):Option Hp:=
 match get fr d with
 | .ptr b 0 0 1=>
  match h[b]? with
  |some (.row sz [.agg cs])=>
   match cs[off]? with
   |some .nilsl=>bif Nat.blt 0 s then some (setH h b (.row sz [.agg<|cs.set off<|.sl h.length 0 0 0 false])++[.row s []])else none
   |_=>none
  |_=>none
 |_=>none
def ZvU(E:Env)(s d off:Nat)(p:Arg)(fr:Fr)(h:Hp):Option (AExit×Fr×Hp):=
 match Z8 E fr h h.length (.fadr off p)with
 |some (v,_,none)=>
  match Z8 E (put fr d v) (h++[.row s []]) (h.length+1) (.store 1 (.t d)<|.c<|.sl h.length 0 0 0 false)with
  |some r=>some (.normal,put fr d v,ZH (h++[.row s []]) r.2.2)
  |none=>none
 |_=>none
def WY:List Nat->List AV->Fr->Option Fr
 |[],[],fr=>some fr
 |p::ps,v::vs,fr=>WY ps vs<|put fr p v
 |_,_,_=>none
mutual
def Qz(E:Env):Nat->Nat->List AV->Hp->Option (AV×Hp)
 |0,_,_,_=>none
 |n+1,f,args,h=>
  match E.sum f with
  |some s=>s args h
  |none=>QX E n f args h
termination_by structural n=>n
def QX(E:Env):Nat->Nat->List AV->Hp->Option (AV×Hp)
 |0,_,_,_=>none
 |n+1,f,args,h=>
  match E.fn f with
  |none=>none
  |some fn=>
   match Ze E n fn.body (QP 0 args) h with
   |some (.normal,fr,h')=>(QO fr h' fn.res).map λv=>(v,h')
   |some (.ret,fr,h')=>(QO fr h' fn.res).map λv=>(v,h')
   |_=>none
termination_by structural n=>n
def Qm(E:Env):Nat->Bool->Nat->List AV->Hp->Option (AV×Hp)
 |0,_,_,_,_=>none
 |n+1,true,f,args,h=>
  match Ql h args with
  |some as=>
   match Qz E n f as []with
   |some (v,h')=>(YE h' v).map λv=>(v,h)
   |none=>none
  |none=>none
 |n+1,false,f,args,h=>Qz E n f args h
termination_by structural n=>n
def YG(E:Env):Nat->Nat->List AV->Hp->Option (AV×Hp)
 |0,_,_,_=>none
 |n+1,b,args,h=>
  match h[b]? with
  |some (.loop .ready .normal fr ps assign body)=>
   match WY ps args fr with
   |some a=>
    match Ze E n assign a h with
    |some (.normal,fr1,h1)=>
     match h1[b]? with
     |some (.loop .ready .normal fr2 ps2 assign2 body2)=>
      match Ze E n body fr1 (setH h1 b<|.loop .busy .normal fr2 ps2 assign2 body2)with
      |some (e,_,h2)=>
       match h2[b]? with
       |some (.loop _ _ fr3 ps3 assign3 body3)=>
        match e with
        | .normal=>some (.bool true,setH h2 b<|.loop .ready .normal fr3 ps3 assign3 body3)
        |e=>some (.bool false,setH h2 b<|.loop .done e fr3 ps3 assign3 body3)
       |_=>none
      |none=>none
     |_=>none
    |_=>none
   |none=>none
  |_=>none
termination_by structural n=>n
def QQ(E:Env):Nat->Bool->AV->List AV->Hp->Option (AV×Hp)
 |0,_,_,_,_=>none
 |n+1,p,f,args,h=>
  match f with
  | .clo (.func g) first cap=>Qm E n p g (first++args++cap) h
  | .yld b=>bif p then none else YG E n b args h
  |_=>none
termination_by structural n=>n
def Q5(E:Env):Nat->AOper->Fr->Hp->Option (Fr×Hp)
 |0,_,_,_=>none
 |n+1,o,fr,h=>
  match ZJ fr o.guard with
  |none=>none
  |some false=>some (ZB fr o.dst<|.tup [],h)
  |some true=>
   match o.op with
   | .call p f args=>(Qm E n p f (args.map<|ev E fr) h).map λr=>(ZB fr o.dst r.1,r.2)
   | .callv p x args=>(QQ E n p (ev E fr x) (args.map<|ev E fr) h).map λr=>(ZB fr o.dst r.1,r.2)
   | .apa sz bytes s x=>(ZE9 h sz bytes (ev E fr s)<|ev E fr x).map λr=>(ZB fr o.dst r.1,r.2)
   |op=>(Z8 E fr h h.length op).map λr=>(ZB fr o.dst r.1,ZH h r.2.2)
termination_by structural n=>n
def ZS(E:Env):Nat->List AOper->Fr->Hp->Option (Fr×Hp)
 |0,_,_,_=>none
 |_+1,[],fr,h=>some (fr,h)
 |n+1,o::r,fr,h=>
  match Q5 E n o fr h with
  |some (fr,h)=>ZS E n r fr h
  |none=>none
termination_by structural n=>n
def Zk(E:Env):Nat->AOper->Fr->Hp->Option (AV×DRec×Option (Nat×AObj))
 |0,_,_,_=>none
 |n+1,o,fr,h=>
  match ZJ fr o.guard with
  |none=>none
  |some false=>some (.tup [],⟨false,[],none,none⟩,none)
  |some true=>
   match o.op with
   | .call p f args=>
    bif p then
     match Qm E n true f (args.map<|ev E fr) h with
     |some (v,_)=>some (v,ZO9 h<|args.map<|ev E fr,none)
     |none=>none
    else
     match E.rs f with
     |some s=>ZEn s h<|args.map<|ev E fr
     |none=>none
   | .callv p x args=>
    bif p then
     match ev E fr x with
     | .clo (.func g) first cap=>
      match Qm E n true g (first++args.map (ev E fr)++cap) h with
      |some (v,_)=>some (v,⟨!Zi (first++args.map (ev E fr)++cap),[],none,none⟩,none)
      |none=>none
     |_=>none
    else none
   |op=>(Z8 E (Z2 op.slots fr) h h.length op).map λr=>(r.1,QG E (Z2 op.slots fr) h op r.2.2,r.2.2)
termination_by structural n=>n
def Ze(E:Env):Nat->ACode->Fr->Hp->Option (AExit×Fr×Hp)
 |0,_,_,_=>none
 |n+1,c,fr,h=>
  match c with
  | .skip=>some (.normal,fr,h)
  | .region ops=>(ZS E n ops fr h).map λr=>(.normal,r.1,r.2)
  | .draw un p1 p2=>
   match QH (λo fr h=>Zk E n o fr h) p1 un fr h []with
   |some (fr,h)=>(ZS E n p2 fr h).map λr=>(.normal,r.1,r.2)
   |none=>none
  | .seq a b=>
   match Ze E n a fr h with
   |some (.normal,fr,h)=>Ze E n b fr h
   |r=>r
  | .cond x a b=>
   match ev E fr x with
   | .bool true=>Ze E n a fr h
   | .bool false=>Ze E n b fr h
   |_=>none
  | .block id b=>
   match Ze E n b fr h with
   |some (.exit i,fr,h)=>bif i==id then some (.normal,fr,h)else some (.exit i,fr,h)
   |r=>r
  | .loop live b=>
   match Ze E n b (Z2 live fr) h with
   |some (.normal,fr,h)=>Ze E n (.loop live b) fr h
   |r=>r
  | .rangeFunc f ps assign body=>
   match ev E fr f with
   | .clo (.func g) first cap=>
    match QX E n g (first++[.yld h.length]++cap) (h++[.loop .ready .normal fr ps assign body])with
    |some (_,h')=>
     match h'[h.length]? with
     |some (.loop .busy _ _ _ _ _)=>none
     |some (.loop _ pend fr' ps assign body)=>some (pend,fr,setH h' h.length<|.loop .exhausted pend fr' ps assign body)
     |_=>none
    |none=>none
   |_=>none
  | .keep live b=>
   match Ze E n b fr h with
   |some (e,fr',h')=>some (e,Z2 live fr',Xq h.length (Z2 live fr') h')
   |none=>none
  | .zbox d sz z ps=>bif fits sz (Zvr h.length ps z)then some (.normal,put fr d<|.ptr (h.length+ps.length) 0 0 1,h++Zvo ps++[.row sz [Zvr h.length ps z]])else none
  | .nils s d off p=>ZvU E s d off p fr h
  | .ghost d off s b=>
   match Ze E n b fr h with
   |some (.normal,fr',h')=>(ghW d off s fr' h').map λj=>(.normal,fr',j)
   |_=>none
  | .exit id=>some (.exit id,fr,h)
  | .ret=>some (.ret,fr,h)
  | .bad=>none
termination_by structural n=>n
end
def Zzb{h:Hp}{b:Nat}(o a:AObj)(d:b<=h.length):setH (setH h b o) b a=setH h b a/\(setH h b o)[b]?=some o:=by
 unfold setH;rcases Nat.lt_or_eq_of_le d with c|c
 .have e:Nat.blt b h.length=true:=by simpa using c
  rw[e,cond_true,cond_true,ZTP,e,cond_true];exact⟨by rw[List.set_set],by simp[c]⟩
 .subst c;have e:Nat.blt h.length h.length=false:=by rw[ZTW];intro g;simp at g
  have f:Nat.blt h.length (h++[o]).length=true:=by simp
  rw[e,cond_false,cond_false,f,cond_true];exact⟨by rw[ZUP _ _<|ZSr _];simp,by simp⟩
def ZwA{aid sz:Nat}{fz:Bool}{c:List AV}{rs:List Nat}{r:Zt}(a:Yp aid fz sz c rs=some r):∀b o,r.2.2=some (b,o)->b=aid:=by
 unfold Yp at a;cases fz with
 |true=>
  cases e:Z4 c with
  |true=>rw[e]at a;cases a;intro b o d;cases d
  |false=>rw[e]at a;cases a
 |false=>cases a;intro b o d;cases d;rfl
def ZxP{aid sz g:Nat}{fz:Bool}{s x:AV}{r:Zt}{h:Hp}(c:aid<=h.length)(a:Qt h aid fz sz g s x=some r):∀b o,r.2.2=some (b,o)->b<=h.length:=by
 intro b o d;unfold Qt at a;split at a
 .split at a
  .rename_i es ys _ _ _;cases e:ys.isEmpty with
   |true=>rw[e]at a;cases a;cases d
   |false=>
    rw[e,cond_false]at a;split at a
    .rw[ZwA a b o d];exact c
    .rw[ZwA a b o d];exact c
    .rw[ZwA a b o d];exact c
    .split at a
     .rename_i f;simp only[cond]at a;split at a
      .cases a;cases d;exact ZTx (ZSA.1 f).1
      .cases a
     .cases a
    .cases a
  .cases a
 .cases a
def Zzc{h:Hp}{aid sz c:Nat}{s x v:AV}{rs:List Nat}(a:Qt h aid false sz c s x=some (v,rs,none)):v=s:=by
 unfold Qt at a;split at a
 .split at a
  .rename_i es ys _ _ _;cases b:ys.isEmpty with
   |true=>rw[b]at a;cases a;rfl
   |false=>
    rw[b,cond_false]at a;split at a
    .cases a
    .cases a
    .cases a
    .split at a
     .simp only[cond]at a;split at a
      .cases a
      .cases a
     .cases a
    .cases a
  .cases a
 .cases a
def Zzd{h:Hp}{r res:Zt}(k:∀b o,r.2.2=some (b,o)->b<=h.length)(a:ZvE h r=some res):∀b o,res.2.2=some (b,o)->b<=h.length:=by
 intro b o d;unfold ZvE at a;split at a
 .next j g off e m c l sz es=>
  simp only[cond]at a;split at a
  .rename_i f;cases a;cases d;simp only[ZSq,beq_iff_eq]at f;exact k b (.row sz es)<|by rw[f.1]
  .cases a
 .next j g off e m c=>
  split at a
  .next sz es i=>
   simp only[cond]at a;split at a
   .cases a;cases d;exact ZTx (ZSA.1 i).1
   .cases a
  .cases a
 .cases a;cases d
 .cases a
def XS:TC->TC->Prop
 | .row sz g r C B,.row sz' g' r' C' B'=>sz=sz'/\((g'=g/\r'=r/\C'=C/\B'=B)\/g<g')
 | .map r,.map r'=>r=r'
 | .iter r,.iter r'=>r=r'
 | .loop r,.loop r'=>r=r'
 |_,_=>False
def XS.refl(c:TC):XS c c:=by cases c<;>simp[XS]
def XS.trans{a b c:TC}(h:XS a b)(k:XS b c):XS a c:=by
 cases a with
 |map r=>
  cases b with
  |map d=>cases h;exact k
  |_=>exact h.elim
 |iter r=>
  cases b with
  |iter d=>cases h;exact k
  |_=>exact h.elim
 |loop r=>
  cases b with
  |loop d=>cases h;exact k
  |_=>exact h.elim
 |row sz g r C B=>
  cases b with
  |map _=>exact h.elim
  |iter _=>exact h.elim
  |loop _=>exact h.elim
  |row f q d s m=>
   cases c with
   |map _=>exact k.elim
   |iter _=>exact k.elim
   |loop _=>exact k.elim
   |row i l p n o=>
    obtain⟨e,h⟩:=h;obtain⟨j,k⟩:=k;refine⟨e.trans j,?_⟩;rcases h with⟨rfl,rfl,rfl,rfl⟩|h
    .exact k
    .rcases k with⟨rfl,rfl,rfl,rfl⟩|k
     .exact .inr h
     .exact .inr<|by omega
class Dr where
 d:Prop
abbrev dT:Dr:=⟨True⟩
variable [Dr]
structure Step(T:Ty)(w:World)(T':Ty)(w':World):Prop where
 os:w'.os=w.os
 tape:w'.tape=w.tape
 output:w'.output=w.output
 size:w.heap.size<=w'.heap.size
 le:∀b c,T b=some c->∃c',T' b=some c'/\XS c c'
 keep:∀b,b<w.heap.size->¬T.rng b->w'.heap[b]?=w.heap[b]?
 rng:∀b,T'.rng b->T.rng b\/w.heap.size<=b
 drawn:Dr.d->w.drawn<=w'.drawn
def Step.refl(T:Ty)(w:World):Step T w T w:=
 ⟨rfl,rfl,rfl,ZSr _,λ_ c h=>⟨c,h,.refl c⟩,λ_ _ _=>rfl,λ_ h=>.inl h,λ_=>ZSr _⟩
def Step.trans{T i e:Ty}{w w' a:World}(h:Step T w i w')(k:Step i w' e a):Step T w e a where
 os:=k.os.trans h.os
 tape:=k.tape.trans h.tape
 output:=k.output.trans h.output
 size:=ZTa h.size k.size
 le b c hb:=by
  obtain⟨c',m,n⟩:=h.le b c hb;obtain⟨g,j,l⟩:=k.le b c' m;exact⟨g,j,n.trans l⟩
 keep b hb hr:=by
  rw[k.keep b (ZTy hb h.size)<|λf=>(h.rng b f).elim hr (by omega),h.keep b hb hr]
 rng b hb:=by
  rcases k.rng b hb with m|m
  .rcases h.rng b m with n|n
   .exact .inl n
   .exact .inr n
  .exact .inr<|ZTa h.size m
 drawn d:=ZTa (h.drawn d)<|k.drawn d
def Step.drew{T a:Ty}{w w':World}(h:Step T w a w')(k:Nat)(b:Dr.d->w.drawn<=k):Step T w a {w' with drawn:=k}:=
 ⟨h.os,h.tape,h.output,h.size,h.le,h.keep,h.rng,b⟩
def at_eq{w w':World}{r o:Nat}(h:w'.heap[r]?=w.heap[r]?):World.at w' r o=World.at w r o:=by
 simp only[World.at,World.cell?,h]
structure Stp(T:Ty)(w:World)(T':Ty)(w':World):Prop where
 size:w.heap.size<=w'.heap.size
 le:∀b c,T b=some c->∃c',T' b=some c'/\XS c c'
 cell:∀b,b<w.heap.size->¬T.rng b->∀o,World.at w' b o=World.at w b o
 map:∀b es c,b<w.heap.size->¬T.rng b->w.heap[b]?=some (.map es c)->w'.heap[b]?=some (.map es c)
 rng:∀b,T'.rng b->T.rng b\/w.heap.size<=b
def Step.stp{T e:Ty}{w w':World}(a:Step T w e w'):Stp T w e w':=
 ⟨a.size,a.le,λb c d o=>at_eq<|a.keep b c d,λb _ _ c d h=>(a.keep b c d).trans h,a.rng⟩
mutual
def Kq{T N:Ty}{X:Xt}{w w':World}(k:Stp T w N w'):(a:AV)->(v:Value)->R T X w a v->R N X w' a v
 | .bot,_,_=>trivial
 | .bool _,_,h=>h
 | .int _ _,_,h=>h
 | .str _,_,h=>h
 | .nilp,_,h=>h
 | .nilsl,_,h=>h
 | .nilmap,_,h=>h
 | .nilfn,_,h=>h
 | .nilif,_,h=>h
 | .agg cs,v,h=>by
  obtain⟨vs,rfl,h⟩:=h;exact⟨vs,rfl,XT k cs _ h⟩
 | .tup cs,v,h=>by
  obtain⟨vs,rfl,h⟩:=h;exact⟨vs,rfl,XT k cs _ h⟩
 | .iptr bw cs,v,h=>by
  obtain⟨r,o,rfl,V,W,A,n,p⟩:=h;exact⟨r,o,rfl,λD=>(k.rng r D).elim V (by omega),W,A,ZTy n k.size,US k r (k.cell r n V) cs o p⟩
 | .isl bw ex sz es,v,h=>by
  obtain⟨a,z,cap,rfl,V,W,A,n,p⟩:=h;refine⟨a,z,cap,rfl,V,W,A,n,?_⟩;rcases p with p|⟨r,o,G,E,h8,h9,h10⟩
  .exact .inl p
  .exact .inr ⟨r,o,G,λD=>(k.rng r D).elim E (by omega),h8,ZTy h9 k.size,JP k sz r (k.cell r h9 E) es o h10⟩
 | .imap bw ks vs,v,h=>by
  obtain⟨r,es,q,l,rfl,V,W,A,n,H,p,G,E⟩:=h;have J:r<w.heap.size:=(ZTi.1 n.1).1;exact⟨r,es,q,l,rfl,λD=>(k.rng r D).elim V (by omega),W,A,⟨k.map r _ _ J V n.1,n.2⟩,H,p,XT k ks _ G,XT k vs _ E⟩
 | .ifc t x,v,h=>by
  obtain⟨u,rfl,h⟩:=h;exact⟨u,rfl,Kq k x u h⟩
 | .clo fn first cap,v,h=>by
  obtain⟨f,c,rfl,V,W⟩:=h;exact⟨f,c,rfl,XT k first _ V,XT k cap _ W⟩
 | .ptr b i off g,v,h=>by
  obtain⟨y,sz,P,r,C,B,m,L,K⟩:=h;obtain⟨c',j,d⟩:=k.le b _ m;cases c' with
  |map _=>exact d.elim
  |iter _=>exact d.elim
  |loop _=>exact d.elim
  |row F O U S Q=>
   obtain⟨rfl,d⟩:=d;rcases d with⟨rfl,rfl,rfl,rfl⟩|d
   .exact⟨y,_,_,_,_,_,j,L,K⟩
   .exact⟨y,_,_,_,_,_,j,by omega,λe=>by omega⟩
 | .sl b g off z ex,v,h=>by
  obtain⟨y,sz,P,r,C,B,m,L,M,K⟩:=h;obtain⟨c',j,d⟩:=k.le b _ m;cases c' with
  |map _=>exact d.elim
  |iter _=>exact d.elim
  |loop _=>exact d.elim
  |row F O U S Q=>
   obtain⟨rfl,d⟩:=d;rcases d with⟨rfl,rfl,rfl,rfl⟩|d
   .exact⟨y,_,_,_,_,_,j,L,M,K⟩
   .exact⟨y,_,_,_,_,_,j,by omega,M,λe=>by omega⟩
 | .mp b,v,h=>by
  obtain⟨r,m,rfl⟩:=h;obtain⟨c',j,d⟩:=k.le b _ m;cases c' with
  |map s=>exact⟨r,by rw[j,show r=s from d],rfl⟩
  |iter _=>exact d.elim
  |loop _=>exact d.elim
  |row _ _ _ _ _=>exact d.elim
 | .it b,v,h=>by
  obtain⟨r,m,rfl⟩:=h;obtain⟨c',j,d⟩:=k.le b _ m;cases c' with
  |map s=>exact d.elim
  |iter s=>exact⟨r,by rw[j,show r=s from d],rfl⟩
  |loop _=>exact d.elim
  |row _ _ _ _ _=>exact d.elim
 | .yld b,v,h=>by
  obtain⟨r,m,rfl⟩:=h;obtain⟨c',j,d⟩:=k.le b _ m;cases c' with
  |map s=>exact d.elim
  |iter _=>exact d.elim
  |loop s=>exact⟨r,by rw[j,show r=s from d],rfl⟩
  |row _ _ _ _ _=>exact d.elim
def XT{T b:Ty}{X:Xt}{w w':World}(d:Stp T w b w'):(as:List AV)->(vs:List Value)->Rs T X w as vs->Rs b X w' as vs
 |[],_,h=>h
 |a::as,vs,h=>by
  obtain⟨v,c,rfl,e,f⟩:=h;exact⟨v,c,rfl,Kq d a v e,XT d as c f⟩
def US{T c:Ty}{X:Xt}{w w':World}(d:Stp T w c w')(r:Nat)(b:∀o,World.at w' r o=World.at w r o):(as:List AV)->(o:Nat)->ZV T X w r as o->ZV c X w' r as o
 |[],_,_=>trivial
 |a::as,o,h=>by
  obtain⟨⟨v,e,f⟩,h3⟩:=h;exact⟨⟨v,(b _).trans e,Kq d a v f⟩,US d r b as (o+1) h3⟩
def JP{T e:Ty}{X:Xt}{w w':World}(c:Stp T w e w')(sz r:Nat)(b:∀o,World.at w' r o=World.at w r o):(as:List AV)->(o:Nat)->ZA T X w sz r as o->ZA e X w' sz r as o
 |[],_,_=>trivial
 |a::as,o,h=>by
  cases a with
  |agg cs=>
   obtain⟨f,g,d⟩:=h;exact⟨f,US c r b cs o g,JP c sz r b as (o+sz) d⟩
  |_=>
   obtain⟨f,⟨v,g,d⟩,h4⟩:=h;exact⟨f,⟨v,(b _).trans g,Kq c _ v d⟩,JP c sz r b as (o+sz) h4⟩
end
def HR{T b:Ty}{X:Xt}{w w':World}(c:Step T w b w')(a:AV)(v:Value)(h:R T X w a v):R b X w' a v:=Kq c.stp a v h
theorem Yb{T a:Ty}{X:Xt}{w w':World}(b:Step T w a w')(as:List AV)(vs:List Value)(h:Rs T X w as vs):Rs a X w' as vs:=XT b.stp as vs h
def HS{T a:Ty}{X:Xt}{w w':World}(c:Step T w a w')(sz r:Nat)(b:w'.heap[r]?=w.heap[r]?)(as:List AV)(o:Nat)(h:ZA T X w sz r as o):ZA a X w' sz r as o:=JP c.stp sz r (λ_=>at_eq b) as o h
end Go.AM
namespace Go.AM
open Go
variable [Dr]
def FrR(T:Ty)(X:Xt)(w:World)(fr:Fr)(a:Array Value):Prop:=∀t,R T X w (get fr t)<|a.getD t undef
def XU:AExit->Option Code
 | .normal=>none
 | .exit id=>some<|.exit id
 | .ret=>some .ret
def Wn(T:Ty)(w:World)(D:Nat):Prop:=D<w.heap.size/\¬T.rng D/\w.heap[D]?=some (.deferred<|some [])
def Md{T c:Ty}{w w':World}(b:Step T w c w'){D:Nat}(a:Wn T w D):Wn c w' D:=
 ⟨ZTy a.1 b.size,λd=>(b.rng D d).elim a.2.1 (λe=>by have:=a.1;omega),(b.keep D a.1 a.2.1).trans a.2.2⟩
def Me{T b:Ty}{X:Xt}{w w':World}(c:Stp T w b w'){fr:Fr}{a:Array Value}(d:FrR T X w fr a):FrR b X w' fr a:=λt=>Kq c _ _<|d t
def Kr{T b:Ty}{X:Xt}{w w':World}(c:Step T w b w'){fr:Fr}{a:Array Value}(d:FrR T X w fr a):FrR b X w' fr a:=λt=>HR c _ _<|d t
def YR(T:Ty)(X:Xt)(w:World):Option AObj->Option TC->Prop
 |none,none=>True
 |some .dead,none=>True
 |some .gone,some (.row _ _ none _ _)=>True
 |some (.row sz es),some (.row sz' g r C B)=>sz=sz'/\es.length=g/\0<sz/\B+g<=C/\
  (match r with
   |none=>C=0
   |some r=>∃cs b,w.heap[r]?=some (.cells cs b (0,0))/\cs.size=C*sz/\ZA T X w sz r es (B*sz))
 |some (.map ks vs),some (.map r)=>∃es a l,Zpj w r es a/\ks.Nodup/\List.Perm l es.toList/\Rs T X w ks (l.map (·.key))/\Rs T X w vs (l.map (·.val))
 |some (.iter s pos),some (.iter r)=>w.heap[r]?=some (.stringIter s pos)
 |some (.loop st pend fr ps as bd),some (.loop r)=>∃L:Loop,w.heap[r]?=some (.loop L)/\L.state=st/\L.pending=XU pend/\L.params.toList=ps/\FrR T X w fr L.tmps/\
  X.cr L.tmps.size L.assign as/\X.cr L.tmps.size L.body bd/\∀p∈ps,p<L.tmps.size
 |_,_=>False
structure M(T:Ty)(X:Xt)(h:Hp)(w:World):Prop where
 inj:∀b c b' c' r,T b=some c->T b'=some c'->c.real=some r->c'.real=some r->b=b'
 lt:∀r,T.rng r->r<w.heap.size
 notX:∀r,T.rng r->¬X r
 obj:∀b,YR T X w h[b]?<|T b
def Mf{T q:Ty}{X:Xt}{w w':World}(f:Stp T w q w')(o:Option AObj)(c:Option TC)
 (e:∀t r,c=some t->t.real=some r->w'.heap[r]?=w.heap[r]?) (h:YR T X w o c):YR q X w' o c:=by
 cases o with
 |none=>cases c<;>exact h
 |some o=>
  cases o with
  |dead=>cases c<;>exact h
  |gone=>
   cases c with
   |none=>exact h
   |some c=>
    cases c with
    |row _ _ r _ _=>cases r<;>exact h
    |map _=>exact h
    |iter _=>exact h
    |loop _=>exact h
  |row sz es=>
   cases c with
   |none=>exact h
   |some c=>
    cases c with
    |map _=>exact h
    |iter _=>exact h
    |loop _=>exact h
    |row v g r C B=>
     obtain⟨rfl,A,D,d,b⟩:=h;refine⟨rfl,A,D,d,?_⟩;cases r with
     |none=>exact b
     |some r=>
      obtain⟨cs,E,i,k,j⟩:=b;have p:=e _ r rfl rfl;exact⟨cs,E,p.trans i,k,JP f _ r (λ_=>at_eq p) es (B*sz) j⟩
  |map u vs=>
   cases c with
   |none=>exact h
   |some c=>
    cases c with
    |row _ _ _ _ _=>exact h
    |iter _=>exact h
    |loop _=>exact h
    |map r=>
     obtain⟨es,a,l,A,m,D,d,b⟩:=h;exact⟨es,a,l,⟨(e _ r rfl rfl).trans A.1,A.2⟩,m,D,XT f u _ d,XT f vs _ b⟩
  |iter s x=>
   cases c with
   |none=>exact h
   |some c=>
    cases c with
    |row _ _ _ _ _=>exact h
    |map _=>exact h
    |loop _=>exact h
    |iter r=>exact(e _ r rfl rfl).trans h
  |loop z n fr ps as bd=>
   cases c with
   |none=>exact h
   |some c=>
    cases c with
    |row _ _ _ _ _=>exact h
    |map _=>exact h
    |iter _=>exact h
    |loop r=>
     obtain⟨L,A,D,d,b,i,k,j,y⟩:=h;exact⟨L,(e _ r rfl rfl).trans A,D,d,b,Me f i,k,j,y⟩
def Mg{T a:Ty}{X:Xt}{w w':World}(d:Step T w a w')(o:Option AObj)(c:Option TC)
 (b:∀t r,c=some t->t.real=some r->w'.heap[r]?=w.heap[r]?) (h:YR T X w o c):YR a X w' o c:=Mf d.stp o c b h
def Xr{T:Ty}{X:Xt}{h:Hp}{w w':World}(m:M T X h w)(c:Step T w T w')(d:∀r,T.rng r->w'.heap[r]?=w.heap[r]?):M T X h w' where
 inj:=m.inj
 lt r a:=ZTy (m.lt r a) c.size
 notX:=m.notX
 obj b:=Mg c _ _ (λt r e a=>d r ⟨b,t,e,a⟩)<|m.obj b
def upd(T:Ty)(b:Nat)(c:TC):Ty:=λx=>if x=b then some c else T x
theorem upd_same(T:Ty)(b:Nat)(c:TC):upd T b c b=some c:=by simp[upd]
theorem upd_ne(T:Ty){b x:Nat}(c:TC)(h:x≠b):upd T b c x=T x:=by simp[upd,h]
def Ks(h:Hp)(b:Nat)(o:AObj)(i:b<=h.length)(x:Nat):(setH h b o)[x]?=if x=b then some o else h[x]?:=by
 unfold setH;by_cases c:b<h.length
 .have:Nat.blt b h.length=true:=by simpa using c
  simp only[this,cond_true];rw[List.getElem?_set];by_cases a:b=x
  .subst a;simp[c]
  .have d:¬x=b:=λe=>a e.symm
   rw[if_neg a,if_neg d]
 .have e:b=h.length:=by omega
  subst e;have:Nat.blt h.length h.length=false:=by rw[ZTW];intro g;simp at g
  simp only[this,cond_false];by_cases a:x=h.length
  .subst a;simp
  .rw[if_neg a];by_cases f:x<h.length
   .rw[ZT2 f]
   .rw[ZTj (by simp;omega),ZTj<|by omega]
def WZ{T:Ty}{X:Xt}{h:Hp}{w w':World}(m:M T X h w)(b:Nat)(o:AObj)(c:TC)(s:b<=h.length)
 (p:Step T w (upd T b c) w')
 (i:∀d c' n,d≠b->T d=some c'->c'.real=some n->w'.heap[n]?=w.heap[n]?)
 (a:∀r,c.real=some r->r<w'.heap.size/\¬X r/\∀d c',d≠b->T d=some c'->c'.real≠some r)
 (j:YR (upd T b c) X w' (some o)<|some c):M (upd T b c) X (setH h b o) w' where
 inj b1 c1 b2 c2 r h1 h2 h3 h4:=by
  by_cases k:b1=b<;>by_cases l:b2=b
  .omega
  .subst k;rw[upd_same]at h1;cases h1;rw[upd_ne _ _ l]at h2;exact((a r h3).2.2 b2 c2 l h2 h4).elim
  .subst l;rw[upd_same]at h2;cases h2;rw[upd_ne _ _ k]at h1;exact((a r h4).2.2 b1 c1 k h1 h3).elim
  .rw[upd_ne _ _ k]at h1;rw[upd_ne _ _ l]at h2;exact m.inj b1 c1 b2 c2 r h1 h2 h3 h4
 lt r f:=by
  obtain⟨d,c',g,f⟩:=f;by_cases e:d=b
  .subst e;rw[upd_same]at g;cases g;exact(a r f).1
  .rw[upd_ne _ _ e]at g;exact ZTy (m.lt r ⟨d,c',g,f⟩) p.size
 notX r f:=by
  obtain⟨d,c',g,f⟩:=f;by_cases e:d=b
  .subst e;rw[upd_same]at g;cases g;exact(a r f).2.1
  .rw[upd_ne _ _ e]at g;exact m.notX r ⟨d,c',g,f⟩
 obj x:=by
  rw[Ks h b o s x];by_cases e:x=b
  .subst e;rw[if_pos rfl,upd_same];exact j
  .rw[if_neg e,upd_ne _ _ e];exact Mg p _ _ (λt r q f=>i x t r e q f)<|m.obj x
def alloc_old(w:World)(o:Obj){k:Nat}(h:k<w.heap.size):(w.alloc o).heap[k]?=w.heap[k]?:=RowKit.Below.heap_alloc w o k h
theorem Wo(w:World)(o:Obj):(w.alloc o).heap[w.heap.size]?=some o:=by show(w.heap.push o)[w.heap.size]?=some o;simp
def VD(T:Ty)(w:World)(ro:Obj)(b:Nat)(c:TC)(d:T b=none)(f:∀r,c.real=some r->r=w.heap.size):Step T w (upd T b c) (w.alloc ro) where
 os:=rfl
 tape:=rfl
 output:=rfl
 size:=by rw[World.size_alloc];omega
 le x c' hx:=⟨c',by rw[upd_ne _ _<|by rintro rfl;rw[d]at hx;cases hx];exact hx,.refl _⟩
 keep x hx _:=alloc_old w ro hx
 rng x hx:=by
  obtain⟨a,c',g,h⟩:=hx;by_cases e:a=b
  .subst e;rw[upd_same]at g;cases g;exact .inr<|by rw[f x h];omega
  .rw[upd_ne _ _ e]at g;exact .inl ⟨a,c',g,h⟩
 drawn _:=ZSr _
def UT(T:Ty)(w:World)(ro:Obj):Step T w T (w.alloc ro) where
 os:=rfl
 tape:=rfl
 output:=rfl
 size:=by rw[World.size_alloc];omega
 le x c' hx:=⟨c',hx,.refl _⟩
 keep x hx _:=alloc_old w ro hx
 rng x hx:=.inl hx
 drawn _:=ZSr _
def JQ{T:Ty}{X:Xt}{h:Hp}{w:World}(m:M T X h w)(j:∀r,X r->r<w.heap.size)(b:Nat)(o:AObj)(c:TC)(ro:Obj)(g:b<=h.length)(f:T b=none)
 (e:∀r,c.real=some r->r=w.heap.size) (a:YR (upd T b c) X (w.alloc ro) (some o)<|some c):M (upd T b c) X (setH h b o) (w.alloc ro):=
 WZ m b o c g (VD T w ro b c f e)
  (λd c' l _ n p=>alloc_old w ro<|m.lt l ⟨d,c',n,p⟩)
  (λr k=>by
   have:=e r k;subst this;exact⟨by rw[World.size_alloc];omega,λi=>by have:=j _ i;omega,λd c' _ n p=>by have:=m.lt _ ⟨d,c',n,p⟩;omega⟩)
  a
def JR{T:Ty}{X:Xt}{h:Hp}{w:World}(m:M T X h w){b:Nat}(a:h[b]?=none\/h[b]?=some .dead):T b=none:=by
 have:=m.obj b;rcases a with a|a<;>rw[a]at this<;>cases d:T b with
 |none=>rfl
 |some c=>rw[d]at this;exact this.elim
def XV{T:Ty}{X:Xt}{h:Hp}{w:World}(m:M T X h w){b sz:Nat}{es:List AV}(e:h[b]?=some (.row sz es)):
 ∃r C B,T b=some (.row sz es.length r C B)/\0<sz/\B+es.length<=C/\(match r with
  |none=>C=0
  |some r=>∃cs j,w.heap[r]?=some (.cells cs j (0,0))/\cs.size=C*sz/\ZA T X w sz r es (B*sz)):=by
 have:=m.obj b;rw[e]at this;cases a:T b with
 |none=>rw[a]at this;exact this.elim
 |some c=>
  rw[a]at this;cases c with
  |map _=>exact this.elim
  |iter _=>exact this.elim
  |loop _=>exact this.elim
  |row f g r C B=>
   obtain⟨rfl,rfl,i,k,d⟩:=this;exact⟨r,C,B,rfl,i,k,d⟩
def JS{T:Ty}{X:Xt}{h:Hp}{w:World}(m:M T X h w){b:Nat}{d vs:List AV}(f:h[b]?=some (.map d vs)):
 ∃r es a l,T b=some (.map r)/\Zpj w r es a/\d.Nodup/\List.Perm l es.toList/\Rs T X w d (l.map (·.key))/\Rs T X w vs (l.map (·.val)):=by
 have:=m.obj b;rw[f]at this;cases e:T b with
 |none=>rw[e]at this;exact this.elim
 |some c=>
  rw[e]at this;cases c with
  |row _ _ _ _ _=>exact this.elim
  |iter _=>exact this.elim
  |loop _=>exact this.elim
  |map r=>
   obtain⟨es,a,l,g⟩:=this;exact⟨r,es,a,l,rfl,g⟩
def Ce{T:Ty}{X:Xt}{h:Hp}{w:World}(m:M T X h w){b:Nat}{s:ByteArray}{a:Nat}(e:h[b]?=some (.iter s a)):
 ∃r,T b=some (.iter r)/\w.heap[r]?=some (.stringIter s a):=by
 have:=m.obj b;rw[e]at this;cases d:T b with
 |none=>rw[d]at this;exact this.elim
 |some c=>
  rw[d]at this;cases c with
  |row _ _ _ _ _=>exact this.elim
  |map _=>exact this.elim
  |loop _=>exact this.elim
  |iter r=>exact⟨r,rfl,this⟩
def Cf{T:Ty}{X:Xt}{h:Hp}{w:World}(m:M T X h w){b:Nat}{d:LoopState}{a:AExit}{fr:Fr}{ps:List Nat}{as bd:ACode}(f:h[b]?=some (.loop d a fr ps as bd)):
 ∃r,T b=some (.loop r)/\∃L:Loop,w.heap[r]?=some (.loop L)/\L.state=d/\L.pending=XU a/\L.params.toList=ps/\FrR T X w fr L.tmps/\
  X.cr L.tmps.size L.assign as/\X.cr L.tmps.size L.body bd/\∀p∈ps,p<L.tmps.size:=by
 have:=m.obj b;rw[f]at this;cases e:T b with
 |none=>rw[e]at this;exact this.elim
 |some c=>
  rw[e]at this;cases c with
  |row _ _ _ _ _=>exact this.elim
  |map _=>exact this.elim
  |iter _=>exact this.elim
  |loop r=>exact⟨r,rfl,this⟩
variable {P:Program} {E:Env} {T:Ty} {X:Xt} {w:World}
def Qr:∀{as:List AV}{vs:List Value},Rs T X w as vs->as.length=vs.length
 |[],vs,h=>by rw[show vs=[]from h];rfl
 |a::as,vs,h=>by
  obtain⟨v,b,rfl,_,c⟩:=h;simp[Qr c]
def Wp:∀{as:List AV}{vs:List Value}(i:Nat){a:AV},Rs T X w as vs->as[i]?=some a->∃v,vs[i]?=some v/\R T X w a v
 |[],_,i,a,_,h=>by simp at h
 |b::as,vs,i,a,h,hi=>by
  obtain⟨v,e,rfl,f,g⟩:=h;cases i with
  |zero=>simp at hi;subst hi;exact⟨v,by simp,f⟩
  |succ i=>simp at hi;obtain⟨v',c,d⟩:=Wp i g hi;exact⟨v',by simpa using c,d⟩
theorem QR{as b:List AV}{vs us:List Value}(h:Rs T X w as vs)(k:Rs T X w b us):Rs T X w (as++b) (vs++us):=by
 induction as generalizing vs with
 |nil=>rw[show vs=[]from h];exact k
 |cons a as d=>
  obtain⟨v,c,rfl,e,f⟩:=h;exact⟨v,c++us,rfl,e,d f⟩
def Kt{as:List AV}{vs:List Value}(n:Nat)(h:Rs T X w as vs):Rs T X w (as.take n) (vs.take n):=by
 induction as generalizing vs n with
 |nil=>rw[show vs=[]from h];simp[Rs]
 |cons a as c=>
  obtain⟨v,b,rfl,d,e⟩:=h;cases n with
  |zero=>simp[Rs]
  |succ n=>exact⟨v,b.take n,by simp,d,c n e⟩
def VE{as:List AV}{vs:List Value}(n:Nat)(h:Rs T X w as vs):Rs T X w (as.drop n) (vs.drop n):=by
 induction as generalizing vs n with
 |nil=>rw[show vs=[]from h];simp[Rs]
 |cons a as c=>
  obtain⟨v,b,rfl,e,d⟩:=h;cases n with
  |zero=>exact⟨v,b,rfl,e,d⟩
  |succ n=>simpa using c n d
theorem Cg{as:List AV}{vs:List Value}(i:Nat){a:AV}{v:Value}(h:Rs T X w as vs)(e:R T X w a v):Rs T X w (as.set i a) (vs.set i v):=by
 induction as generalizing vs i with
 |nil=>rw[show vs=[]from h];simp[Rs]
 |cons b as d=>
  obtain⟨u,c,rfl,g,f⟩:=h;cases i with
  |zero=>exact⟨v,c,by simp,e,f⟩
  |succ i=>exact⟨u,c.set i v,by simp,g,d i f⟩
def Cj:∀{cs:List AV}{r o:Nat}(i:Nat){a:AV},ZV T X w r cs o->cs[i]?=some a->∃v,World.at w r (o+i)=some v/\R T X w a v
 |[],_,_,i,_,_,h=>by simp at h
 |c::cs,r,o,i,a,h,hi=>by
  obtain⟨e,f⟩:=h;cases i with
  |zero=>simp at hi;subst hi;exact e
  |succ i=>simp at hi;obtain⟨v,b,d⟩:=Cj i f hi;exact⟨v,by rw[show o+(i+1)=o+1+i by omega];exact b,d⟩
def Ku{cs:List AV}{r o:Nat}(n:Nat)(h:ZV T X w r cs o):ZV T X w r (cs.drop n) (o+n):=by
 induction cs generalizing n o with
 |nil=>simp[ZV]
 |cons c cs a=>
  cases n with
  |zero=>exact h
  |succ n=>have:=a n h.2;rw[show o+(n+1)=o+1+n by omega];simpa using this
def Mh{cs:List AV}{r o:Nat}(n:Nat)(h:ZV T X w r cs o):ZV T X w r (cs.take n) o:=by
 induction cs generalizing n o with
 |nil=>simp[ZV]
 |cons c cs a=>
  cases n with
  |zero=>simp[ZV]
  |succ n=>exact⟨h.1,a n h.2⟩
def Kv{cs:List AV}{r o:Nat}(h:ZV T X w r cs o):∃vs:List Value,(∀j v,vs[j]?=some v->World.at w r (o+j)=some v)/\Rs T X w cs vs:=by
 induction cs generalizing o with
 |nil=>exact⟨[],by simp,rfl⟩
 |cons c cs e=>
  obtain⟨⟨v,f,g⟩,h3⟩:=h;obtain⟨vs,d,b⟩:=e h3;refine⟨v::vs,λj u a=>?_,v,vs,rfl,g,b⟩
  cases j with
  |zero=>simp at a;subst a;exact f
  |succ j=>simp at a;rw[show o+(j+1)=o+1+j by omega];exact d j u a
def Xs{cs:List AV}{vs:List Value}{r o:Nat}(h:Rs T X w cs vs)(a:∀j v,vs[j]?=some v->World.at w r (o+j)=some v):ZV T X w r cs o:=by
 induction cs generalizing vs o with
 |nil=>trivial
 |cons c cs d=>
  obtain⟨v,e,rfl,f,g⟩:=h;exact⟨⟨v,by simpa using a 0 v (by simp),f⟩,d g<|λj u b=>by rw[show o+1+j=o+(j+1)by omega];exact a (j+1) u<|by simpa using b⟩
def Ck{cs a:List AV}{r o:Nat}(h:ZV T X w r cs o)(k:ZV T X w r a<|o+cs.length):ZV T X w r (cs++a) o:=by
 induction cs generalizing o with
 |nil=>simpa using k
 |cons c cs b=>exact⟨h.1,b h.2<|by rw[show o+1+cs.length=o+(cs.length+1)by omega];exact k⟩
def Kw:∀{es:List AV}{sz r o:Nat}(i:Nat){e:AV},ZA T X w sz r es o->es[i]?=some e->e.cells.length=sz/\ZV T X w r e.cells (o+i*sz)
 |[],_,_,_,i,_,_,h=>by simp at h
 |a::es,sz,r,o,i,e,h,hi=>by
  cases i with
  |zero=>
   simp at hi;subst hi;cases a with
   |agg cs=>exact⟨h.1,by simpa[AV.cells]using h.2.1⟩
   |_=>exact⟨h.1.symm,by simpa[AV.cells,ZV]using h.2.1⟩
  |succ i=>
   simp at hi;have b:ZA T X w sz r es (o+sz):=by cases a<;>exact h.2.2
   have:=Kw i b hi;rw[show o+(i+1)*sz=o+sz+i*sz by rw[ZTo];omega]
   exact this
def UU{es:List AV}{sz r o:Nat}(n:Nat)(h:ZA T X w sz r es o):ZA T X w sz r (es.drop n) (o+n*sz):=by
 induction es generalizing n o with
 |nil=>simp[ZA]
 |cons a es b=>
  cases n with
  |zero=>simpa using h
  |succ n=>
   have c:ZA T X w sz r es (o+sz):=by cases a<;>exact h.2.2
   have:=b n c;rw[show o+(n+1)*sz=o+sz+n*sz by rw[ZTo];omega]
   simpa using this
def UV{es:List AV}{sz r o:Nat}(n:Nat)(h:ZA T X w sz r es o):ZA T X w sz r (es.take n) o:=by
 induction es generalizing n o with
 |nil=>simp[ZA]
 |cons a es b=>
  cases n with
  |zero=>simp[ZA]
  |succ n=>
   cases a with
   |agg cs=>exact⟨h.1,h.2.1,b n h.2.2⟩
   |_=>exact⟨h.1,h.2.1,b n h.2.2⟩
def flat(es:List AV):List AV:=es.flatMap AV.cells
def Kx{es:List AV}{sz r o:Nat}(h:ZA T X w sz r es o):ZV T X w r (flat es) o/\(flat es).length=es.length*sz/\∀e∈es,e.cells.length=sz:=by
 induction es generalizing o with
 |nil=>simp[flat,ZV]
 |cons a es j=>
  have k:ZA T X w sz r es (o+sz):=by cases a<;>exact h.2.2
  obtain⟨d,i,f⟩:=j k;obtain⟨b,g⟩:=Kw (es:=a::es) (e:=a) 0 h<|by simp
  have e:flat (a::es)=a.cells++flat es:=by simp[flat]
  rw[e];refine⟨Ck (by simpa using g) (by rw[b];exact d),by simp[b,i,ZTo];omega,?_⟩
  intro x c;rcases ZST.1 c with rfl|c
  .exact b
  .exact f x c
def Wq{es:List AV}{sz r o:Nat}(d:∀e∈es,e.cells.length=sz)(h:ZV T X w r (flat es) o):ZA T X w sz r es o:=by
 induction es generalizing o with
 |nil=>trivial
 |cons a es g=>
  have e:flat (a::es)=a.cells++flat es:=by simp[flat]
  rw[e]at h;have b:=d a<|by simp
  have j:=Ku a.cells.length h;rw[List.drop_left,b]at j;have i:=Mh a.cells.length h;rw[List.take_left]at i;have c:=g (λx f=>d x<|by simp[f]) j
  cases a with
  |agg cs=>exact⟨b,i,c⟩
  |_=>exact⟨b.symm,i.1,c⟩
def HT{a:AV}{v:Value}(b:scalar a=true)(h:R T X w a v):v.oneCell'=true/\a.cells=[a]/\v.cells = #[v]:=by
 cases a<;>simp[scalar]at b<;>simp only[R]at h
 case bool=>subst h;exact⟨rfl,rfl,rfl⟩
 case int=>subst h;exact⟨rfl,rfl,rfl⟩
 case str=>subst h;exact⟨rfl,rfl,rfl⟩
 case nilp=>subst h;exact⟨rfl,rfl,rfl⟩
 case nilsl=>subst h;exact⟨rfl,rfl,rfl⟩
 case nilmap=>subst h;exact⟨rfl,rfl,rfl⟩
 case nilfn=>subst h;exact⟨rfl,rfl,rfl⟩
 case nilif=>subst h;exact⟨rfl,rfl,rfl⟩
 case iptr=>obtain⟨r,o,rfl,_⟩:=h;exact⟨rfl,rfl,rfl⟩
 case isl=>obtain⟨r,o,c,rfl,_⟩:=h;exact⟨rfl,rfl,rfl⟩
 case imap=>obtain⟨r,o,c,l,rfl,_⟩:=h;exact⟨rfl,rfl,rfl⟩
 case ifc=>obtain⟨u,rfl,_⟩:=h;exact⟨rfl,rfl,rfl⟩
 case clo=>obtain⟨f,c,rfl,_⟩:=h;exact⟨rfl,rfl,rfl⟩
 case ptr=>obtain⟨⟨p,rfl⟩,_⟩:=h;exact⟨rfl,rfl,rfl⟩
 case sl=>obtain⟨⟨p,l,c,rfl⟩,_⟩:=h;exact⟨rfl,rfl,rfl⟩
 case mp=>obtain⟨r,_,rfl⟩:=h;exact⟨rfl,rfl,rfl⟩
 case it=>obtain⟨r,_,rfl⟩:=h;exact⟨rfl,rfl,rfl⟩
 case yld=>obtain⟨r,_,rfl⟩:=h;exact⟨rfl,rfl,rfl⟩
end Go.AM
namespace Go.AM
open Go
variable [Dr]
variable {P:Program} {E:Env} {T:Ty} {X:Xt} {w:World} {h:Hp} {fr:Fr} {a:Act}
mutual
def Q3:Value->AV->Bool
 |_,.bot=>true
 | .bool b,.bool c=>b==c
 | .int k n,.int j m=>decide (k=j)&&n==m
 | .string s,.str t=>Z3 s t
 | .pointer none,.nilp=>true
 | .slice none 0 0,.nilsl=>true
 | .slice none 0 0,.isl _ _ _ []=>true
 | .map none,.nilmap=>true
 | .nilFunc,.nilfn=>true
 | .nilIface,.nilif=>true
 | .iface t v,.ifc u x=>t==u&&Q3 v x
 | .agg vs,.agg cs=>Wr vs.toList cs
 |_,_=>false
def Wr:List Value->List AV->Bool
 |[],[]=>true
 |v::vs,c::cs=>Q3 v c&&Wr vs cs
 |_,_=>false
end
def Ky(a b:ByteArray):Z3 a b=true↔a=b:=by
 unfold Z3;constructor
 .intro h;have:=eq_of_beq h;cases a;cases b;simp at this;rw[this]
 .rintro rfl;simp
mutual
def Ws:(v:Value)->(c:AV)->Q3 v c=true->R T X w c v
 |v,.bot,_=>trivial
 |v,.bool c,h=>by cases v<;>simp[Q3]at h;subst h;rfl
 |v,.int j m,h=>by
  cases v<;>simp[Q3]at h
  obtain⟨rfl,rfl⟩:=h;rfl
 |v,.str t,h=>by
  cases v<;>simp[Q3]at h
  rw[Ky]at h;subst h;rfl
 |v,.nilp,h=>by
  cases v with
  |pointer a=>cases a<;>simp[Q3]at h;rfl
  |_=>simp[Q3]at h
 |v,.nilsl,h=>by
  cases v with
  |slice a l c=>
   cases a<;>cases l<;>cases c<;>simp[Q3]at h
   rfl
  |_=>simp[Q3]at h
 |v,.nilmap,h=>by
  cases v with
  |map a=>cases a<;>simp[Q3]at h;rfl
  |_=>simp[Q3]at h
 |v,.nilfn,h=>by cases v<;>simp[Q3]at h;rfl
 |v,.nilif,h=>by cases v<;>simp[Q3]at h;rfl
 |v,.ifc u x,h=>by
  cases v<;>simp[Q3]at h
  obtain⟨rfl,h⟩:=h;exact⟨_,rfl,Ws _ x h⟩
 |v,.agg cs,h=>by
  cases v<;>simp[Q3]at h
  exact⟨_,rfl,HU _ cs h⟩
 |v,.tup _,h=>by cases v<;>simp[Q3]at h
 |v,.iptr _ _,h=>by cases v<;>simp[Q3]at h
 |v,.isl bw ex sz es,h=>by
  cases v with
  |slice a l c=>
   cases a<;>cases l<;>cases c<;>cases es<;>simp[Q3]at h
   exact⟨none,0,0,rfl,rfl,ZSr _,λ_=>rfl,by cases bw<;>rfl,.inl rfl⟩
  |_=>simp[Q3]at h
 |v,.imap _ _ _,h=>by cases v<;>simp[Q3]at h
 |v,.clo _ _ _,h=>by cases v<;>simp[Q3]at h
 |v,.ptr _ _ _ _,h=>by cases v<;>simp[Q3]at h
 |v,.sl _ _ _ _ _,h=>by cases v<;>simp[Q3]at h
 |v,.mp _,h=>by cases v<;>simp[Q3]at h
 |v,.it _,h=>by cases v<;>simp[Q3]at h
 |v,.yld _,h=>by cases v<;>simp[Q3]at h
def HU:(vs:List Value)->(cs:List AV)->Wr vs cs=true->Rs T X w cs vs
 |[],[],_=>rfl
 |[],_::_,h=>by simp[Wr]at h
 |_::_,[],h=>by simp[Wr]at h
 |v::vs,c::cs,h=>by
  simp[Wr]at h;exact⟨v,vs,rfl,Ws v c h.1,HU vs cs h.2⟩
end
def Zr:Operand->Arg->Bool
 | .tmp t,.t n=>t==n
 | .const v,.c c=>Q3 v c
 | .func f,.f g=>f==g
 | .global g,.g k=>g==k
 |_,_=>false
def GlS(w:World)(g:Nat):AV->Prop
 | .iptr _ cs=>∃c t f,w.heap[g]?=some (.cells c t f)/\c.size=cs.length
 |_=>True
def GlR(E:Env)(T:Ty)(X:Xt)(w:World):Prop:=∀g,R T X w (E.gl g) (.pointer<|some ⟨g,0,none⟩)/\GlS w g (E.gl g)
structure Ctx(E:Env)(T:Ty)(X:Xt)(h:Hp)(w:World):Prop where
 m:M T X h w
 gl:GlR E T X w
 hX:∀r,X r->r<w.heap.size
def evR(c:GlR E T X w)(d:FrR T X w fr a.tmps){x:Operand}{y:Arg}(b:Zr x y=true):R T X w (ev E fr y) (a.eval x):=by
 cases x<;>cases y<;>simp[Zr]at b
 .subst b;exact d _
 .exact Ws _ _ b
 .subst b;exact(c _).1
 .subst b;exact⟨#[],#[],rfl,rfl,rfl⟩
def Wt:List Operand->List Arg->Bool
 |[],[]=>true
 |x::xs,y::ys=>Zr x y&&Wt xs ys
 |_,_=>false
def VF(b:GlR E T X w)(c:FrR T X w fr a.tmps):∀{xs:List Operand}{ys:List Arg},Wt xs ys=true->Rs T X w (ys.map<|ev E fr) (xs.map a.eval)
 |[],[],_=>rfl
 |[],_::_,h=>by simp[Wt]at h
 |_::_,[],h=>by simp[Wt]at h
 |x::xs,y::ys,h=>by
  simp[Wt]at h;exact⟨_,_,rfl,evR b c h.1,VF b c h.2⟩
def Sim(P:Program)(T:Ty)(X:Xt)(h:Hp)(w:World)(s:Sem Next)(res:Zt):Prop:=
 ∃a w' rv,(s.run P w=.ok (.value rv) w'\/(s.run P w=.ok .skip w'/\rv=undef))/\Step T w a w'/\M a X (ZH h res.2.2) w'/\R a X w' res.1 rv
theorem Sim.pure{s:Sem Next}{v:AV}{rv:Value}{rs:List Nat}(m:M T X h w)(a:s.run P w=.ok (.value rv) w)(b:R T X w v rv):Sim P T X h w s (v,rs,none):=
 ⟨T,w,rv,.inl a,.refl _ _,m,b⟩
def ZY{v:Option AV}{res:Zt}(h:Zl v=some res):∃u,v=some u/\res=(u,[],none):=by
 cases v<;>simp[Zl]at h
 exact⟨_,rfl,h.symm⟩
def Wu{v:Value}{b:Bool}(h:R T X w (.bool b) v):v=.bool b:=h
def QS{v:Value}{k:IntKind}{n:Int}(h:R T X w (.int k n) v):v=.int k n:=h
def Yj{v:Value}{s:ByteArray}(h:R T X w (.str s) v):v=.string s:=h
def Cl(s:Sem Value)(w:World){rv:Value}{w':World}(a:s.run P w=.ok rv w'):(do Pure.pure (Next.value<|<-s):Sem Next).run P w=.ok (.value rv) w':=by
 simp[a]
def Cm(s:Sem Unit)(w:World){w':World}(a:s.run P w=.ok () w'):(do s;Pure.pure Next.skip:Sem Next).run P w=.ok .skip w':=by
 simp[a]
def toList_data(s:ByteArray):s.toList=s.data.toList:=by
 exact ByteArray.toList_eq s
def Cn{c:BinOp}{k:IntKind}{x y:Int}{v:AV}(a:JO c k x y=some v):
 ∃rv,R T X w v rv/\∀ty,(binOp c ty (.int k x)<|.int k y).run P w=.ok rv w:=by
 cases c<;>simp only[JO,reduceCtorEq,Option.some.injEq,ZU6]at a
 case quo=>obtain⟨b,rfl⟩:=a;exact⟨_,rfl,λty=>by simp[binOp,Op.intDiv,b]⟩
 case rem=>obtain⟨b,rfl⟩:=a;exact⟨_,rfl,λty=>by simp[binOp,Op.intDiv,b]⟩
 all_goals
  subst a;exact⟨_,rfl,λty=>by simp[binOp,Op.intArith,Op.intBits,Op.intCmp]⟩
def Co{b:BinOp}{x y:ByteArray}{v:AV}(a:UR b x y=some v):
 ∃rv,R T X w v rv/\∀ty,(binOp b ty (.string x)<|.string y).run P w=.ok rv w:=by
 cases b<;>simp only[UR,reduceCtorEq,Option.some.injEq,ZUe]at a
 case add=>
  obtain⟨d,rfl⟩:=a;refine⟨_,rfl,λty=>?_⟩
  have c:¬(((x.size+y.size:Nat):Int)>IntKind.i64.max):=by
   have:IntKind.i64.max=9223372036854775807:=by decide
   omega
  simp only[binOp,Op.stringOp,if_neg c];rfl
 all_goals
  subst a;exact⟨_,rfl,λty=>by simp[binOp,Op.stringOp,Z3,WW,toList_data]⟩
def Cp{c:BinOp}{x y v:AV}{g h:Value}(b:YZ c x y=some v)(i:R T X w x g)(l:R T X w y h):
 ∃rv,R T X w v rv/\∀ty,(binOp c ty g h).run P w=.ok rv w:=by
 cases x<;>try (simp[YZ]at b;done)
 case int k m=>
  cases y<;>try (simp[YZ]at b;done)
  case int j n=>
   cases QS i;cases QS l;by_cases f:c=.shl
   .subst f;simp only[YZ,ZU6,Option.some.injEq]at b;obtain⟨e,rfl⟩:=b;exact⟨_,rfl,λty=>by simp[binOp,Op.shift,e]⟩
   by_cases d:c=.shr
   .subst d;simp only[YZ,ZU6,Option.some.injEq]at b;obtain⟨e,rfl⟩:=b;exact⟨_,rfl,λty=>by simp[binOp,Op.shift,e]⟩
   have a:(if k=j then JO c k m n else none)=some v:=by
    cases c<;>first|exact b|exact(f rfl).elim|exact(d rfl).elim
   rw[ZUe]at a;obtain⟨rfl,a⟩:=a;exact Cn a
 case str s=>
  cases y<;>try (simp[YZ]at b;done)
  case str t=>
   cases Yj i;cases Yj l;exact Co b
def Cq{c:UnOp}{x v:AV}{e:Value}(a:Vy c x=some v)(d:R T X w x e):
 ∃rv,R T X w v rv/\(Op.unary c e).run P w=.ok rv w:=by
 cases x<;>try (simp[Vy]at a;done)
 case bool b=>
  cases Wu d;cases c<;>simp[Vy]at a
  subst a;exact⟨_,rfl,by simp[Op.unary]⟩
 case int k n=>
  cases QS d;cases c<;>simp[Vy]at a
  subst a;exact⟨_,rfl,by simp[Op.unary,Op.intArith]⟩
end Go.AM
namespace Go.AM
open Go
variable [Dr]
variable {P:Program} {E:Env} {T:Ty} {X:Xt} {w:World} {h:Hp} {fr:Fr} {a:Act}
def ZF(P:Program)(t:TypeId):Bool:=
 match P.underlying t with
 |some (.struct _)|some (.array _ _)=>true
 |_=>false
def ZR(P:Program)(t:TypeId):Option Nat:=(P.info? t).map (·.size)
mutual
def tk(P:Program):Nat->TypeId->Option (List Nat)
 |0,_=>none
 |d+1,t=>
  match P.underlying t with
  |some .bool=>some [0]
  |some (.int _)=>some [1]
  |some .string=>some [2]
  |some (.struct fs)=>if P.stoodInHeld t then none else tkf P d fs.toList 0
  |some (.array n e)=>
   match tk P d e with
   |some l=>if ZR P e=some l.length then some (List.replicate n l).flatten else none
   |none=>none
  |_=>none
def tkf(P:Program):Nat->List Field->Nat->Option (List Nat)
 |0,_,_=>none
 |_+1,[],_=>some []
 |d+1,f::fs,off=>
  if f.name = "_"\/f.offset≠off then none else
  match tk P d f.type with
  |some l=>if ZR P f.type=some l.length then(tkf P d fs<|off+l.length).map (l++·)else none
  |none=>none
end
def mkV(P:Program)(t:TypeId)(vs:List Value):Value:=if ZF P t then .agg vs.toArray else vs.headD undef
def V1{t:TypeId}(w:World){d:TypeDesc}(a:P.underlying t=some d):(isAgg t).run P w=.ok (ZF P t) w:=by
 simp only[isAgg,Sem.run_bind,run_underlying a,Result.andThen_ok,ZF,a];cases d<;>rfl
def QY{t:TypeId}(w:World){n:Nat}(a:ZR P t=some n):(sizeOf t).run P w=.ok n w:=by
 unfold ZR at a;cases b:P.info? t with
 |none=>rw[b]at a;cases a
 |some i=>
  rw[b]at a;simp at a;simp[sizeOf,typeInfo,b,a]
def JT{t:TypeId}(w:World){d:TypeDesc}(c:P.underlying t=some d){n off:Nat}(e:ZR P t=some n)(cs:Array Value)(g:ZF P t=false->n=1)(f:off+n<=cs.size):
 (part t cs off).run P w=.ok (mkV P t<|(cs.toList.drop off).take n) w:=by
 simp only[part,Sem.run_bind,V1 w c,Result.andThen_ok];cases b:ZF P t with
 |true=>
  simp only[if_true,Sem.run_bind,QY w e,Result.andThen_ok,mkV,b];simp only[Sem.run_pure];congr 2;apply ZTC;simp
 |false=>
  have:=g b;subst this;have a:off<cs.size:=by omega
  simp only[ZSH,if_false,mkV,b];rw[ZTh a];simp only[Sem.run_pure];congr 1;have:(List.drop off cs.toList)=cs[off]::List.drop (off+1) cs.toList:=by
   rw[ZTD<|by simpa using a]
   simp
  rw[this];simp
def UW(P:Program)(d:Nat)(t:TypeId)(x y:Value)(b:Bool):Prop:=∀w:World,(Op.equalIn d t x y).run P w=.ok b w
def Mi:∀{l d:List Nat}{a c:List AV}{b:Bool},ZE (l++d) a c=some b->∃e f,ZE l (a.take l.length) (c.take l.length)=some e/\ZE d (a.drop l.length) (c.drop l.length)=some f/\b=(e&&f):=by
 intro l;induction l with
 |nil=>intro d a c b h;exact⟨true,b,by simp[ZE],by simpa using h,by simp⟩
 |cons k l m=>
  intro d a c b h;cases a with
  |nil=>simp[ZE]at h
  |cons x a=>
   cases c with
   |nil=>simp[ZE]at h
   |cons y c=>
    simp only[ZSv,ZE]at h;cases o:eq1 k x y with
    |none=>rw[o]at h;cases h
    |some i=>
     rw[o]at h;simp only at h;cases p:ZE (l++d) a c with
     |none=>rw[p]at h;cases h
     |some n=>
      rw[p]at h;simp only[Option.some.injEq]at h;obtain⟨e,f,g,j,rfl⟩:=m p;refine⟨i&&e,f,?_,by simpa using j,by rw[<-h,ZUz]⟩
      simp only[ZSG,ZUp,ZE,o,g]
def X5:∀{d:List Nat}{a c:List AV}{b:Bool},ZE d a c=some b->a.length=d.length/\c.length=d.length:=by
 intro d;induction d with
 |nil=>intro a c b h;cases a<;>cases c<;>simp[ZE]at h<;>simp
 |cons k d e=>
  intro a c b h;cases a with
  |nil=>simp[ZE]at h
  |cons x a=>
   cases c with
   |nil=>simp[ZE]at h
   |cons y c=>
    simp only[ZE]at h;cases i:eq1 k x y with
    |none=>rw[i]at h;cases h
    |some g=>
     rw[i]at h;cases j:ZE d a c with
     |none=>simp[j]at h
     |some f=>have:=e j;simp[this.1,this.2]
def Cr{d:Nat}{t:TypeId}{k:Nat}{a:TypeDesc}{x y:AV}{i h:Value}{b:Bool}(e:P.underlying t=some a)
 (j:(a=.bool/\k=0)\/((∃q,a=.int q)/\k=1)\/(a=.string/\k=2)) (c:eq1 k x y=some b) (f:R T X w x i) (g:R T X w y h):UW P (d+1) t i h b:=by
 intro w';rcases j with⟨rfl,rfl⟩|⟨⟨q,rfl⟩,rfl⟩|⟨rfl,rfl⟩
 .cases x<;>cases y<;>simp[eq1]at c
  subst c;cases Wu f;cases Wu g;simp[Op.equalIn,run_underlying e]
 .cases x<;>cases y<;>simp[eq1]at c
  obtain⟨rfl,rfl⟩:=c;cases QS f;cases QS g;simp[Op.equalIn,run_underlying e]
 .cases x<;>cases y<;>simp[eq1]at c
  subst c;cases Yj f;cases Yj g;simp[Op.equalIn,run_underlying e,Z3,beq_toListBytes,toList_data]
def UX{d:Nat}{t:TypeId}{l:List Nat}(h:tk P d t=some l)(b:ZF P t=false):l.length=1:=by
 cases d with
 |zero=>simp[tk]at h
 |succ d=>
  unfold tk at h;unfold ZF at b;cases c:P.underlying t with
  |none=>rw[c]at h;simp at h
  |some a=>
   rw[c]at h b;cases a<;>simp at h b<;>subst h<;>rfl
def VG{d:Nat}{t:TypeId}{l:List Nat}(h:tk P d t=some l):∃a,P.underlying t=some a:=by
 cases d with
 |zero=>simp[tk]at h
 |succ d=>
  unfold tk at h;cases b:P.underlying t with
  |none=>rw[b]at h;simp at h
  |some a=>exact⟨a,rfl⟩
def UY{cs:List AV}{vs:List Value}(h:Rs T X w cs vs)(off n:Nat):Rs T X w ((cs.drop off).take n) ((vs.drop off).take n):=Kt n<|VE off h
def Cs{B:Nat}{e:TypeId}{l:List Nat}{j i:List AV}{xs ys:Array Value}(a:∃g,P.underlying e=some g)(d:ZR P e=some l.length)(M:ZF P e=false->l.length=1)
 (J:∀(j i:List AV)(D C:List Value)(b:Bool),ZE l j i=some b->Rs T X w j D->Rs T X w i C->UW P B e (mkV P e D) (mkV P e C) b)
 (z:Rs T X w j xs.toList) (A:Rs T X w i ys.toList):
 ∀(n s:Nat)(b:Bool),ZE (List.replicate n l).flatten (j.drop<|s*l.length) (i.drop<|s*l.length)=some b->∀w':World,(Op.eqItems B e l.length xs ys<|List.range' s n).run P w'=.ok b w':=by
 intro n;obtain⟨g,a⟩:=a;induction n with
 |zero=>
  intro s b f w';simp only[List.replicate_zero,List.flatten_nil]at f;have t:b=true:=by
   have o:=X5 f;generalize j.drop (s*l.length)=u at f o;generalize i.drop (s*l.length)=v at f o;cases u<;>cases v<;>simp[ZE]at f o⊢
   exact f
  subst t;simp[Op.eqItems]
 |succ n q=>
  intro s b f w';rw[ZU7,ZUf]at f;obtain⟨y,H,h,k,rfl⟩:=Mi f;rw[ZTF,ZTF]at k;have p:=(X5 h).1;have m:=(X5 h).2;have L:=Qr z;have E:=Qr A;simp only[ZTk,ZUA]at p m;have c:l.length=0\/s*l.length+l.length<=xs.size/\s*l.length+l.length<=ys.size:=by
   simp only[ZTb]at L E;omega
  have F:(part e xs<|s*l.length).run P w'=.ok (mkV P e<|(xs.toList.drop<|s*l.length).take l.length) w':=by
   rcases c with c|c
   .have r:ZF P e=true:=by
     cases x:ZF P e with
     |true=>rfl
     |false=>have:=M x;omega
    simp only[part,Sem.run_bind,V1 w' a,Result.andThen_ok,r,if_true,QY w' d,mkV,Sem.run_pure,c];simp
   .exact JT w' a d xs M c.1
  have G:(part e ys<|s*l.length).run P w'=.ok (mkV P e<|(ys.toList.drop<|s*l.length).take l.length) w':=by
   rcases c with c|c
   .have r:ZF P e=true:=by
     cases x:ZF P e with
     |true=>rfl
     |false=>have:=M x;omega
    simp only[part,Sem.run_bind,V1 w' a,Result.andThen_ok,r,if_true,QY w' d,mkV,Sem.run_pure,c];simp
   .exact JT w' a d ys M c.2
  have K:=J _ _ _ _ y h (UY z _ _) (UY A _ _) w';rw[List.range'_succ];simp only[Op.eqItems,Sem.run_bind,F,G,K,Result.andThen_ok];cases y with
  |false=>simp
  |true=>
   simp only[ZSI,ZSH,if_false,ZSB];exact q (s+1) H (by rw[ZTo];exact k) w'
def Ct(d:Nat):(∀(c:Nat)(t:TypeId)(p:List Nat),d<=c->tk P d t=some p->∀(o m:List AV)(H G:List Value)(b:Bool),ZE p o m=some b->Rs T X w o H->Rs T X w m G->UW P c t (mkV P t H) (mkV P t G) b)/\
 (∀(c:Nat)(z:List Field)(off:Nat)(p:List Nat),d<=c+1->tkf P d z off=some p->∀(o m:List AV)(xs ys:Array Value)(b:Bool),ZE p (o.drop off) (m.drop off)=some b->Rs T X w o xs.toList->Rs T X w m ys.toList->∀w':World,(Op.eqFields c xs ys z).run P w'=.ok b w'):=by
 induction d with
 |zero=>exact⟨λc t p _ h=>by simp[tk]at h,λc z off p _ h=>by simp[tkf]at h⟩
 |succ d Q=>
  constructor
  .intro c t p hd h o m H G b g C D;obtain⟨c,rfl⟩:∃k,c=k+1:=⟨c-1,by omega⟩
   have h0:=h;unfold tk at h;obtain⟨j,s⟩:=VG h0;rw[s]at h;have K:=(X5 g).1;have J:=(X5 g).2;have B:∀k,p=[k]->ZF P t=false->((j=.bool/\k=0)\/((∃q,j=.int q)/\k=1)\/(j=.string/\k=2))->UW P (c+1) t (mkV P t H) (mkV P t G) b:=by
    intro k hk E Y;subst hk;cases o with
    |nil=>simp[ZE]at g
    |cons x o=>
     cases m with
     |nil=>simp[ZE]at g
     |cons y m=>
      obtain⟨v,vr,rfl,hv,_⟩:=C;obtain⟨u,ur,rfl,S,_⟩:=D;simp only[ZE]at g;cases h1:eq1 k x y with
      |none=>rw[h1]at g;cases g
      |some b0=>
       rw[h1]at g;cases o<;>cases m<;>simp[ZE]at g
       subst g;have e:=Cr (P:=P) (d:=c) s Y h1 hv S;simpa[mkV,E]using e
   cases j with
   |bool=>simp at h;exact B 0 h.symm (by simp[ZF,s])<|.inl ⟨rfl,rfl⟩
   |int q=>simp at h;exact B 1 h.symm (by simp[ZF,s])<|.inr<|.inl ⟨⟨q,rfl⟩,rfl⟩
   |string=>simp at h;exact B 2 h.symm (by simp[ZF,s])<|.inr<|.inr ⟨rfl,rfl⟩
   |struct z=>
    simp only[ZU6,ZTX]at h;obtain⟨W,h⟩:=h;intro w';have E:ZF P t=true:=by simp[ZF,s]
    have hf:P.fieldsOf t=z:=by simp[Program.fieldsOf,s]
    simp only[mkV,E,if_true];rw[run_equalIn_struct w' c t _ _ (by rw[hf];exact s) W,hf]
    exact Q.2 c z.toList 0 p (by omega) h o m _ _ b (by simpa using g) (by simpa using C) (by simpa using D) w'
   |array n e=>
    simp only at h;cases r:tk P d e with
    |none=>rw[r]at h;cases h
    |some l=>
     rw[r]at h;simp only[ZUe,Option.some.injEq]at h;obtain⟨a,rfl⟩:=h;intro w';have E:ZF P t=true:=by simp[ZF,s]
     simp only[mkV,E,if_true];obtain⟨i,O,R⟩:∃i,P.info? e=some i/\i.size=l.length:=by
      unfold ZR at a;cases O:P.info? e with
      |none=>rw[O]at a;cases a
      |some i=>rw[O]at a;simp at a;exact⟨i,rfl,a⟩
     have hc:P.cellsOf e=l.length:=by simp[Program.cellsOf,O,R]
     rw[run_equalIn_array w' c _ _ s O,hc,List.range_eq_range'];exact Cs (VG r) a (UX r) (λo m H G b=>Q.1 c e l (by omega) r o m H G b) (by simpa using C) (by simpa using D) n 0 b (by simpa using g) w'
   |_=>simp at h
  .intro c z off p hd h o m xs ys b g C D w';cases z with
   |nil=>
    simp[tkf]at h;subst h;have Z:b=true:=by
     have V:=X5 g;generalize o.drop off=u at g V;generalize m.drop off=v at g V;cases u<;>cases v<;>simp[ZE]at g V⊢
     exact g
    subst Z;simp[Op.eqFields]
   |cons f z=>
    unfold tkf at h;simp only[ZU6,not_or,Decidable.not_not]at h;obtain⟨⟨hn,ho⟩,h⟩:=h;cases r:tk P d f.type with
    |none=>rw[r]at h;cases h
    |some l=>
     rw[r]at h;simp only[ZUe,ZSD]at h;obtain⟨a,U,h',rfl⟩:=h;obtain⟨b1,b2,F,L,rfl⟩:=Mi g;rw[ZTF,ZTF]at L;have K:=(X5 F).1;have J:=(X5 F).2;have lx:=Qr C;have ly:=Qr D;simp only[ZTk,ZUA]at K J;obtain⟨j,A⟩:=VG r;have h1:=λhh=>UX r hh
     have pt:∀(M:Array Value),(l.length=0\/off+l.length<=M.size)->(part f.type M off).run P w'=.ok (mkV P f.type<|(M.toList.drop off).take l.length) w':=by
      intro M N;rcases N with N|N
      .have E:ZF P f.type=true:=by
        cases hh:ZF P f.type with
        |true=>rfl
        |false=>have:=h1 hh;omega
       simp only[part,Sem.run_bind,V1 w' A,Result.andThen_ok,E,if_true,QY w' a,mkV,Sem.run_pure,N];simp;omega
      .exact JT w' A a M h1 N
     simp only[ZTb]at lx ly;have px:=pt xs<|by omega
     have py:=pt ys<|by omega
     have e:=Q.1 c f.type l (by omega) r _ _ _ _ b1 F (UY C _ _) (UY D _ _) w'
     subst ho;simp only[Op.eqFields,ne_eq,hn,not_false_eq_true,if_true,Sem.run_bind,px,py,e,Result.andThen_ok];cases b1 with
     |false=>simp
     |true=>
      simp only[ZSI,ZSH,if_false,ZSB];exact Q.2 c z _ U (by omega) h' o m xs ys b2 L C D w'
def HV{t:TypeId}{i:List Nat}{x y:AV}{e d:Value}{b:Bool}(j:tk P 20 t=some i)(a:Zz (ZF P t) i x y=some b)(f:R T X w x e)(g:R T X w y d):(Op.equal t e d).run P w=.ok b w:=by
 have c:=(Ct (P:=P) (T:=T) (X:=X) (w:=w) 20).1 Op.maxDepth t i (by decide) j
 cases h:ZF P t with
 |true=>
  rw[h]at a;cases x<;>cases y<;>simp[Zz]at a
  obtain⟨vs,rfl,f⟩:=f;obtain⟨us,rfl,g⟩:=g;have:=c _ _ _ _ b a f g w;simpa[mkV,h,Op.equal]using this
 |false=>
  rw[h]at a;simp only[Zz]at a;have:=c _ _ [e] [d] b a ⟨e,[],rfl,f,rfl⟩ ⟨d,[],rfl,g,rfl⟩ w;simpa[mkV,h,Op.equal]using this
end Go.AM
namespace Go.AM
open Go
variable [Dr]
variable {P:Program} {E:Env} {T:Ty} {X:Xt} {w:World} {h:Hp} {fr:Fr} {a:Act}
def YH(P:Program)(t:TypeId):Option Value:=(P.info? t).bind (·.zero)
def Xu{t:TypeId}(w:World){v:Value}(a:YH P t=some v):(zeroValue t).run P w=.ok v w:=by
 unfold YH at a;cases b:P.info? t with
 |none=>rw[b]at a;cases a
 |some i=>
  rw[b]at a;simp at a;simp[zeroValue,typeInfo,b,a]
def Kz{sz:Nat}{x:AV}{v:Value}(b:fits sz x=true)(a:R T X w x v):x.cells.length=sz/\v.cells.size=sz/\Rs T X w x.cells v.cells.toList/\(∀c∈v.cells.toList,c.oneCell'=true)/\(∀c∈x.cells,scalar c=true):=by
 cases x with
 |agg cs=>
  simp only[fits,ZSq,beq_iff_eq,ZSw]at b;obtain⟨vs,rfl,a⟩:=a;refine⟨b.1,?_,a,?_,b.2⟩
  .have:=Qr a;simp only[Value.cells,AV.cells]at*;simp only[ZTb]at this;omega
  .intro c g;obtain⟨i,e⟩:=ZTs.1 g;have k:=Qr a;have d:i<cs.length:=by rw[k];exact(ZSA.1 e).1
   obtain⟨u,h,j⟩:=Wp i a<|ZSu d;simp only[Value.cells]at e;rw[h]at e;cases e;exact(HT (b.2 _<|ZUq d) j).1
 |_=>
  simp only[fits,ZSq,beq_iff_eq]at b;obtain⟨l,m,f⟩:=HT b.1 a;rw[m,f,b.2];exact⟨rfl,rfl,⟨_,_,rfl,a,rfl⟩,by simpa using l,by simpa using b.1⟩
def KA(w:World)(cs:Array Value)(e:TypeId)(j:Nat):World.at (w.alloc<|.cells cs e) w.heap.size j=cs[j]?:=by
 have:(w.alloc<|.cells cs e).heap[w.heap.size]?=some (.cells cs e):=Wo w _;simp only[World.at,World.cell?,this];simp
def HW{s:Sem Next}{aid sz:Nat}{es:List AV}{cs:Array Value}{e:TypeId}{C:Nat}{rv:Value}{v:AV}{rs:List Nat}(m:M T X h w)(l:∀r,X r->r<w.heap.size)
 (d:aid<=h.length) (b:T aid=none) (g:0<sz) (i:es.length<=C) (f:cs.size=C*sz) (c:∀x∈es,x.cells.length=sz)
 (o:∃us,Rs T X w (flat es) us/\∀(j:Nat)(u:Value),us[j]?=some u->cs[j]?=some u)
 (a:s.run P w=.ok (.value rv) (w.alloc<|.cells cs e))
 (p:R (upd T aid<|.row sz es.length (some w.heap.size) C 0) X (w.alloc<|.cells cs e) v rv):
 Sim P T X h w s (v,rs,some (aid,.row sz es)):=by
 refine⟨upd T aid<|.row sz es.length (some w.heap.size) C 0,w.alloc<|.cells cs e,rv,.inl a,VD T w _ aid _ b (by simp[TC.real]),?_,p⟩
 refine JQ m l aid _ _ _ d b (by simp[TC.real]) ⟨rfl,rfl,g,by rw[ZSE];exact i,cs,e,Wo w _,f,?_⟩
 have k:=VD T w (.cells cs e) aid (.row sz es.length (some w.heap.size) C 0) b<|by simp[TC.real]
 obtain⟨us,q,t⟩:=o;rw[ZU8];exact Wq c<|Xs (Yb k _ _ q)<|λj u n=>by rw[KA,ZSE];exact t j u n
def Cu(x:AV):flat [x]=x.cells:=by simp[flat]
def UZ{s:Sem Next}{aid sz:Nat}{x:AV}{v:Value}{e:TypeId}{rs:List Nat}(m:M T X h w)(i:∀r,X r->r<w.heap.size)(b:aid<=h.length)(c:T aid=none)(f:0<sz)
 (j:fits sz x=true) (g:R T X w x v) (a:s.run P w=.ok (.value<|.pointer<|some ⟨w.heap.size,0,none⟩) (w.alloc<|.cells v.cells e)):
 Sim P T X h w s (.ptr aid 0 0 1,rs,some (aid,.row sz [x])):=by
 obtain⟨n,o,d,l,k⟩:=Kz j g;refine HW (C:=1) (e:=e) m i b c f (by simp) (by simpa using o) (by simpa using n) ⟨v.cells.toList,by rw[Cu];exact d,by simp⟩ a ?_
 exact⟨⟨_,rfl⟩,sz,1,some w.heap.size,1,0,upd_same _ _ _,ZSr _,λ_=>⟨w.heap.size,rfl,by omega,by simp⟩⟩
def KB(t:TypeId)(v:Value)(w:World):(newVar t v).run P w=.ok ⟨w.heap.size,0,none⟩ (w.alloc<|.cells v.cells t):=by
 simp[newVar,newRow]
def Mj{s:Sem Next}{x:AV}{v:Value}{e:TypeId}{rs:List Nat}{sz:Nat}{bw:Bool}(m:M T X h w)(i:∀r,X r->r<w.heap.size)(n:fits sz x=true)(k:okc bw x.cells=true)
 (g:R T X w x v) (a:s.run P w=.ok (.value<|.pointer<|some ⟨w.heap.size,0,none⟩) (w.alloc<|.cells v.cells e)):
 Sim P T X h w s (.iptr bw x.cells,rs,none):=by
 obtain⟨q,t,f,p,o⟩:=Kz n g;have b:=UT T w<|.cells v.cells e;refine⟨T,_,_,.inl a,b,Xr m b<|λr c=>alloc_old w _<|m.lt r c,?_⟩
 refine⟨w.heap.size,0,rfl,λc=>by have:=m.lt _ c;omega,λ_ d=>by have:=i _ d;omega,k,by rw[World.size_alloc];omega,?_⟩
 exact Xs (Yb b _ _ f)<|λj u l=>by rw[KA,ZSE];simpa using l
def addr_add(r o j:Nat):Addr.add ⟨r,o,none⟩ j=⟨r,o+j,none⟩:=by
 unfold Addr.add;split
 .next h=>subst h;rfl
 .rfl
def Xv(P:Program)(t:TypeId)(n:Option Nat):Bool:=
 match P.underlying t with
 |none=>false
 |some _=>if ZF P t then(match n with|some k=>decide (ZR P t=some k)|none=>false)else n.isNone
def G0{t:TypeId}{n:Option Nat}{cs:List AV}{r o:Nat}{v:AV}(a:Xv P t n=true)(i:ZV T X w r cs o)(b:takeC n cs=some v):
 ∃rv,(loadVar t ⟨r,o,none⟩).run P w=.ok rv w/\R T X w v rv:=by
 unfold Xv at a;cases e:P.underlying t with
 |none=>rw[e]at a;cases a
 |some d=>
  rw[e]at a;simp only at a;cases f:ZF P t with
  |false=>
   rw[f]at a;simp at a;subst a;cases cs with
   |nil=>simp[takeC]at b
   |cons c cs=>
    simp[takeC]at b;subst b;obtain⟨⟨u,p,q⟩,_⟩:=i;refine⟨u,?_,q⟩;simp only[loadVar,Sem.run_bind,V1 w e,Result.andThen_ok,f,ZSH,if_false];rw[run_load];simp only[World.at]at p;simp[p]
  |true=>
   rw[f]at a;cases n with
   |none=>simp at a
   |some k=>
    simp at a;simp only[takeC]at b;cases g:Nat.ble k cs.length with
    |false=>rw[g]at b;cases b
    |true=>
     rw[g]at b;simp at b;subst b;have h:k<=cs.length:=ZT0 g;obtain⟨us,p,q⟩:=Kv<|Mh k i;have l:=Qr q;simp only[ZTk,ZUB h]at l;refine⟨.agg us.toArray,?_,us.toArray,rfl,by simpa using q⟩
     simp only[loadVar,Sem.run_bind,V1 w e,Result.andThen_ok,f,if_true,QY w a];rw[l,run_loadCells_list w ⟨r,o,none⟩ us<|λj u m=>by rw[addr_add];exact p j u m]
     simp
def JU(m:M T X h w){b sz:Nat}{es:List AV}(o:h[b]?=some (.row sz es)){i off g:Nat}{v:Value}(s:R T X w (.ptr b i off g) v)(k:es.length=g):
 ∃r C B cs A,T b=some (.row sz es.length (some r) C B)/\v=.pointer (some ⟨r,(B+i)*sz+off,none⟩)/\i<es.length/\w.heap[r]?=some (.cells cs A (0,0))/\cs.size=C*sz/\B+es.length<=C/\0<sz/\ZA T X w sz r es (B*sz):=by
 obtain⟨r,C,B,d,j,l,q⟩:=XV m o;obtain⟨_,n,x,z,y,t,c,e,a⟩:=s;rw[d]at c;cases c;obtain⟨p,rfl,u,rfl⟩:=a k.symm;obtain⟨cs,A,D,E,f⟩:=q;exact⟨p,C,B,cs,A,d,rfl,by omega,D,E,l,j,f⟩
def Cv{s:Sem Next}{t:TypeId}{n:Option Nat}{x:AV}{v:Value}{res:Zt}(m:M T X h w)(y:Xv P t n=true)(p:R T X w x v)
 (l:∀rv,(Instr.loadAt t v).run P w=.ok rv w->s.run P w=.ok (.value rv) w)
 (a:(match(generalizing:=false) x with
  | .iptr _ cs=>Zl<|takeC n cs
  | .ptr b i off g=>
   match h[b]? with
   |some (.row _ es)=>
    bif es.length==g then
     match es[i]? with
     |some e=>(takeC n<|e.cells.drop off).map λv=>(v,[b],none)
     |none=>none
    else none
   |_=>none
  |_=>none)=some res):Sim P T X h w s res:=by
 cases x<;>simp only[reduceCtorEq]at a
 case iptr bw cs=>
  obtain⟨u,c,rfl⟩:=ZY a;obtain⟨r,o,rfl,_,_,_,_,E⟩:=p;obtain⟨rv,K,L⟩:=G0 y E c;exact Sim.pure m (l rv<|by simpa[Instr.loadAt,Instr.sureAddr]using K) L
 case ptr b i off g=>
  cases f:h[b]? with
  |none=>rw[f]at a;cases a
  |some o=>
   rw[f]at a;cases o<;>simp only[reduceCtorEq]at a
   case row sz es=>
    cases d:(es.length==g)with
    |false=>rw[d]at a;cases a
    |true=>
     rw[d]at a;simp only[cond_true]at a;cases j:es[i]? with
     |none=>rw[j]at a;cases a
     |some e=>
      rw[j]at a;simp only[ZSD]at a;obtain⟨u,c,rfl⟩:=a;obtain⟨r,C,B,cs,N,F,rfl,q,K,L,G,J,z⟩:=JU m f p<|by simpa using d
      obtain⟨H,k⟩:=Kw i z j;rw[<-ZSY]at k;obtain⟨rv,A,D⟩:=G0 y (Ku off k) c;exact⟨T,w,rv,.inl<|l rv<|by simpa[Instr.loadAt,Instr.sureAddr]using A,.refl _ _,m,D⟩
end Go.AM
namespace Go.AM
open Go
variable [Dr]
variable {P:Program} {E:Env} {T:Ty} {X:Xt} {w:World} {h:Hp} {fr:Fr} {a:Act}
def KC{T:Ty}{b:Nat}{c:TC}(a:T b=some c):upd T b c=T:=by
 funext x
 unfold upd;split
 .next e=>subst e;exact a.symm
 .rfl
def JV{w':World}(m:M T X h w){b r:Nat}{c c':TC}{o:AObj}(a:T b=some c)(l:c.real=some r)(n:c'.real=some r)(v:XS c c')(B:b<=h.length)
 (u:w'.os=w.os) (k:w'.tape=w.tape) (q:w'.output=w.output) (y:w'.heap.size=w.heap.size) (A:∀x,x≠r->w'.heap[x]?=w.heap[x]?)
 (p:Step T w (upd T b c') w'->YR (upd T b c') X w' (some o) (some c')) (hdr:Dr.d->w.drawn<=w'.drawn:=by intro _;first|exact ZSr _|exact Nat.le_add_right ..):Step T w (upd T b c') w'/\M (upd T b c') X (setH h b o) w':=by
 have t:Step T w (upd T b c') w':=by
  refine⟨u,k,q,by omega,?_,?_,?_,hdr⟩
  .intro x j i;by_cases e:x=b
   .subst e;rw[a]at i;cases i;exact⟨c',upd_same _ _ _,v⟩
   .exact⟨j,by rw[upd_ne _ _ e];exact i,.refl _⟩
  .intro x _ i;exact A x<|λe=>i<|by subst e;exact⟨b,c,a,l⟩
  .intro x i;obtain⟨g,j,C,D⟩:=i;by_cases e:g=b
   .subst e;rw[upd_same]at C;cases C;rw[n]at D;cases D;exact .inl ⟨g,c,a,l⟩
   .rw[upd_ne _ _ e]at C;exact .inl ⟨g,j,C,D⟩
 refine⟨t,WZ m b o c' B t ?_ ?_<|p t⟩
 .intro g j z f C D;refine A z (λe=>?_)
  subst e;exact f<|m.inj g j b c z C a D l
 .intro z s;rw[n]at s;cases s;refine⟨by have:=m.lt r ⟨b,c,a,l⟩;omega,m.notX r ⟨b,c,a,l⟩,λg j f C D=>f<|m.inj g j b c r C a D l⟩
def KD{b:Nat}{o:AObj}(a:h[b]?=some o):b<=h.length:=ZTx (ZSA.1 a).1
def Mk{es:List AV}{i:Nat}{e:AV}(a:es[i]?=some e):es=es.take i++e::es.drop (i+1):=by
 have b:i<es.length:=(ZSA.1 a).1;have c:es[i]=e:=(ZSA.1 a).2;rw[<-c,ZUQ,ZTt]
def Ml{es:List AV}{i:Nat}{e b:AV}(c:es[i]?=some e):es.set i b=es.take i++b::es.drop (i+1):=by
 have a:i<es.length:=(ZSA.1 c).1;rw[ZVe,if_pos a]
def KE(a b:List AV):flat (a++b)=flat a++flat b:=by simp[flat]
def VH(a:AV)(b:List AV):flat (a::b)=a.cells++flat b:=by simp[flat]
def HX{es:List AV}{sz:Nat}(b:∀e∈es,e.cells.length=sz):(flat es).length=es.length*sz:=by
 induction es with
 |nil=>simp[flat]
 |cons a es c=>
  rw[VH,ZSJ,b a (by simp),c<|λe d=>b e<|by simp[d],ZSG,ZTo];omega
def HZ{sz r:Nat}{es:List AV}{cs:Array Value}{o:TypeId}{fz:Nat×Nat}{C B:Nat}(h:ZA T X w sz r es<|B*sz)(i:w.heap[r]?=some (.cells cs o fz))(f:cs.size=C*sz)(d:B+es.length<=C):
 ∃a us b,cs.toList=a++(us++b)/\a.length=B*sz/\Rs T X w (flat es) us/\us.length=es.length*sz:=by
 obtain⟨n,p,k⟩:=Kx h;obtain⟨us,g,e⟩:=Kv n;have m:=Qr e;have l:B*sz+es.length*sz<=cs.size:=by rw[f,<-ZSY];exact ZTz _ d
 refine⟨cs.toList.take<|B*sz,us,(cs.toList.drop<|B*sz).drop us.length,?_,by simp;omega,e,by omega⟩
 have:us=(cs.toList.drop<|B*sz).take us.length:=by
  apply ZTO;intro j;by_cases c:j<us.length
  .rw[ZTK c];have:=g j us[j]<|ZSu c;simp only[World.at,World.cell?,i]at this;simp at this;rw[ZSu c,ZU9,ZTV,<-this]
  .rw[ZTj (by omega),ZTj<|by simp;omega]
 conv=>lhs;rw[<-ZTt (B*sz) cs.toList,<-ZTt us.length (cs.toList.drop<|B*sz)]
 rw[<-this]
def Mm{r:Nat}{b a:Array Value}{d:TypeId}{fz:Nat×Nat}(c:w.heap[r]?=some (.cells b d fz))(j:Nat):World.at (w.setRow r a) r j=a[j]?:=by
 have:=setRow_heap w r b a d fz c;simp only[World.at,World.cell?,this];simp
def Cw{t:TypeId}{n:Nat}{r o:Nat}{v:Value}{cs:Array Value}{f:TypeId}(e:ZR P t=some n)(b:v.cells.size=n)(g:∀c∈v.cells.toList,c.oneCell'=true)
 (d:w.heap[r]?=some (.cells cs f (0,0))) (a:o+n<=cs.size):
 (storeVar t ⟨r,o,none⟩ v).run P w=.ok () (w.setRow r (cs.toList.take o++v.cells.toList++cs.toList.drop (o+n)).toArray):=by
 simp only[storeVar,Sem.run_bind,QY w e,Result.andThen_ok,b,ne_eq,not_true_eq_false,if_false];have:=run_storeCells_at (P:=P) r o f v.cells.toList 0 cs w d (by simp[b];exact a) g
 simp only[ZTc,ZTb,b]at this;simpa using this
def Cx{s:Sem Next}{t:TypeId}{n:Nat}{x y:AV}{vx Z:Value}{res:Zt}(m:M T X h w)(hn:ZR P t=some n)(A:R T X w x vx)(hy:R T X w y Z)
 (hs:∀w',(Instr.storeAt t vx Z).run P w=.ok () w'->s.run P w=.ok .skip w')
 (a:(match(generalizing:=false) x with
  | .ptr b i off g=>
   match h[b]? with
   |some (.row sz es)=>
    let cs:=y.cells
    bif es.length==g&&fits n y then
     match es[i]? with
     |some (.agg l)=>
      bif Nat.ble (off+n) l.length then some (AV.bot,[b],some (b,AObj.row sz<|es.set i<|.agg<|l.take off++cs++l.drop (off+n)))else none
     |some _=>
      match cs with
      |[c]=>bif off==0 then some (AV.bot,[b],some (b,AObj.row sz<|es.set i c))else none
      |_=>none
     |none=>none
    else none
   |_=>none
  |_=>none)=some res):Sim P T X h w s res:=by
 cases x<;>simp only[reduceCtorEq]at a
 case ptr b i off g=>
  cases hb:h[b]? with
  |none=>rw[hb]at a;cases a
  |some o=>
   rw[hb]at a;cases o<;>simp only[reduceCtorEq]at a
   case row sz es=>
    cases Q:(es.length==g&&fits n y)with
    |false=>rw[Q]at a;cases a
    |true=>
     rw[Q]at a;simp only[cond_true]at a;simp only[ZSq,beq_iff_eq]at Q;obtain⟨Q,hf⟩:=Q;obtain⟨f1,f2,f3,f4,f5⟩:=Kz hf hy;obtain⟨r,C,B,cs,el,hT,rfl,al,h1,h2,h3,h4,h5⟩:=JU m hb A Q;obtain⟨D,us,f,W,ac,aj,ap⟩:=HZ h5 h1 h2 h3;have ab:∀e e',es[i]?=some e->off+n<=e.cells.length->e'.cells=e.cells.take off++y.cells++e.cells.drop (off+n)->
      res=(AV.bot,[b],some (b,AObj.row sz<|es.set i e'))->Sim P T X h w s res:=by
      intro e e' F v aa z;have ah:=Mk F;have K:=(Kx h5).2.2;have G:(es.take i).length=i:=by simp;omega
      have L:(flat<|es.take i).length=i*sz:=by
       rw[HX (sz:=sz)<|λe a=>K e<|ZTQ a,G]
      have k:e.cells.length=sz:=K e<|ZSy F;have J:Rs T X w (flat (es.take i)++(e.cells++flat (es.drop<|i+1))) us:=by
       rw[<-VH,<-KE,<-ah];exact aj
      obtain⟨u1,an⟩:∃u1,u1=us.take (i*sz):=⟨_,rfl⟩;have ae:us.length=i*sz+(sz+(flat<|es.drop<|i+1).length):=by
       have:=Qr J;simp only[ZSJ,L,k]at this;omega
      have R1:Rs T X w (flat<|es.take i) (us.take<|i*sz):=by
       have:=Kt (i*sz) J
       rwa[ZUr L]at this
      have V:Rs T X w (e.cells++flat (es.drop<|i+1)) (us.drop<|i*sz):=by
       have:=VE (i*sz) J
       rwa[ZUC L]at this
      have Re:Rs T X w e.cells ((us.drop<|i*sz).take sz):=by
       have:=Kt sz V
       rwa[ZUr k]at this
      have R3:Rs T X w (flat<|es.drop<|i+1) ((us.drop<|i*sz).drop sz):=by
       have:=VE sz V
       rwa[ZUC k]at this
      have af:cs.size=B*sz+(us.length+f.length):=by
       have:=congrArg List.length W;simpa[ac]using this
      have am:(B+i)*sz=B*sz+i*sz:=ZSY _ _ _;have E:=Cw (P:=P) (o:=(B+i)*sz+off) hn f2 f4 h1<|by omega
      obtain⟨d,q⟩:∃d,d=(cs.toList.take ((B+i)*sz+off)++Z.cells.toList++cs.toList.drop ((B+i)*sz+off+n)):=⟨_,rfl⟩;rw[<-q]at E;have N:d=D++(us.take (i*sz)++(((us.drop<|i*sz).take sz).take off++Z.cells.toList++((us.drop<|i*sz).take sz).drop (off+n))++(us.drop<|i*sz).drop sz++f):=by
       rw[q,W,show(B+i)*sz+off=D.length+(i*sz+off)by omega,show D.length+(i*sz+off)+n=D.length+(i*sz+off+n)by omega,ZUR,List.drop_length_add_append]
       have e1:(us++f).take (i*sz+off)=us.take (i*sz)++((us.drop<|i*sz).take sz).take off:=by
        rw[ZUS (by omega),List.take_add,List.take_take,ZUB<|by omega]
       have e2:(us++f).drop (i*sz+off+n)=((us.drop<|i*sz).take sz).drop (off+n)++(us.drop<|i*sz).drop sz++f:=by
        rw[ZUT<|by omega]
        congr 1
        conv=>lhs;rw[show i*sz+off+n=i*sz+(off+n)by omega,<-ZTF]
        have hh:(us.drop<|i*sz).drop (off+n)=(((us.drop<|i*sz).take sz)++((us.drop<|i*sz).drop sz)).drop (off+n):=by rw[ZTt]
        rw[hh,ZUT<|by simp;omega]
       rw[e1,e2];simp[ZSN]
      have p:d.length=cs.size:=by
       rw[q];simp[f2];omega
      have ad:(w.setRow r d.toArray).heap[r]?=some (.cells d.toArray el (0,0)):=setRow_heap w r cs d.toArray el (0,0) h1;obtain⟨U,hm⟩:=JV (w':=w.setRow r d.toArray) (o:=.row sz<|es.set i e') (c':=.row sz es.length (some r) C B) m hT rfl rfl (.refl _) (KD hb) rfl rfl rfl (setRow_size _ _ _)
       (λx A=>setRow_other w r x _ A)
       (λU=>⟨rfl,by simp,h4,h3,d.toArray,el,ad,by simpa[p]using h2,by
        rw[KC hT]at U⊢;refine Wq ?_ ?_
        .intro x A;rcases ZUD A with A|A
         .exact K x A
         .subst A;rw[aa];simp[f1,k];omega
        .have ag:flat (es.set i e')=flat (es.take i)++(e.cells.take off++y.cells++e.cells.drop (off+n))++flat (es.drop<|i+1):=by
          rw[Ml F,KE,VH,aa];simp
         rw[ag];have hR:Rs T X w (flat (es.take i)++(e.cells.take off++y.cells++e.cells.drop (off+n))++flat (es.drop<|i+1)) (us.take (i*sz)++(((us.drop<|i*sz).take sz).take off++Z.cells.toList++((us.drop<|i*sz).take sz).drop (off+n))++(us.drop<|i*sz).drop sz):=
          QR (QR R1<|QR (QR (Kt off Re) f3)<|VE (off+n) Re) R3
         refine Xs (Yb U _ _ hR)<|λj u hj=>?_
         rw[Mm h1];simp only[ZUg];rw[N,ZTd (by omega),ac,show B*sz+j-B*sz=j by omega,ZT2 (ZSA.1 hj).1]
         exact hj⟩)
      rw[KC hT]at U hm;subst z;exact⟨T,_,undef,.inr ⟨hs _ (by simpa[Instr.storeAt,Instr.sureAddr]using E),rfl⟩,U,hm,trivial⟩
     cases F:es[i]? with
     |none=>rw[F]at a;cases a
     |some e=>
      rw[F]at a;have H:∀c,y.cells=[c]->off=0->e.cells=[e]->res=(AV.bot,[b],some (b,AObj.row sz<|es.set i c))->Sim P T X h w s res:=by
       intro c hc v S z;have Y:n=1:=by rw[<-f1,hc];rfl
       have ak:c.cells=[c]:=by
        have:=f5 c<|by rw[hc];simp
        cases c<;>first|rfl|simp[scalar]at this
       exact ab e c F (by rw[S,v,Y];simp) (by rw[ak,S,v,hc,Y];simp) z
      cases e with
      |agg l=>
       simp only at a;cases O:Nat.ble (off+n) l.length with
       |false=>rw[O]at a;cases a
       |true=>
        rw[O]at a;simp only[cond_true,Option.some.injEq]at a;exact ab (.agg l) _ F (ZT0 O) rfl a.symm
      |_=>
       simp only at a;split at a
       .next c hc=>
        cases O:(off==0)with
        |false=>rw[O]at a;cases a
        |true=>
         rw[O]at a;simp only[cond_true,Option.some.injEq]at a;exact H c hc (by simpa using O) rfl a.symm
       .cases a
end Go.AM
namespace Go.AM
open Go
variable [Dr]
variable {P:Program} {E:Env} {T:Ty} {X:Xt} {w:World} {h:Hp} {fr:Fr} {a:Act} {b sz g r C i off:Nat}
def G1:∀{cs:List AV},Z4 cs=true↔∀c∈cs,clean c=true
 |[]=>by simp[Z4]
 |c::cs=>by simp[Z4,G1 (cs:=cs)]
def Cy{cs:List AV}(n:Nat)(h:Z4 cs=true):Z4 (cs.drop n)=true:=by
 rw[G1]at*;exact λc a=>h c<|ZUh a
def Cz{cs:List AV}(n:Nat)(h:Z4 cs=true):Z4 (cs.take n)=true:=by
 rw[G1]at*;exact λc a=>h c<|ZTQ a
def KF:∀{cs:List AV},Zi cs=true↔∀c∈cs,Zy c=true
 |[]=>by simp[Zi]
 |c::cs=>by simp[Zi,KF (cs:=cs)]
def R0{bw:Bool}{cs:List AV}(n:Nat)(h:okc bw cs=true):okc bw (cs.drop n)=true:=by
 cases bw with
 |false=>exact Cy n h
 |true=>exact KF.2<|λc a=>KF.1 h c<|ZUh a
def CA{bw:Bool}{cs:List AV}(n:Nat)(h:okc bw cs=true):okc bw (cs.take n)=true:=by
 cases bw with
 |false=>exact Cz n h
 |true=>exact KF.2<|λc a=>KF.1 h c<|ZTQ a
def CB{c:AV}(h:clean c=true):Z4 c.cells=true:=by
 cases c<;>simp_all[AV.cells,Z4,clean]
def CC{bw:Bool}{es:List AV}{e:AV}{i:Nat}(h:okc bw es=true)(a:es[i]?=some e):okc bw e.cells=true:=by
 cases bw with
 |false=>exact CB<|G1.1 h e<|ZSy a
 |true=>
  have:=KF.1 h e<|ZSy a;show Zi e.cells=true
  cases e<;>simp_all[AV.cells,Zi,Zy]
def R4(m:M T X h w){b g i off:Nat}{v:Value}{res:Zt}{F:List AV->Option Zt}(q:R T X w (.ptr b i off g) v)
 (a:(match(generalizing:=false) h[b]? with
  |some (.row _ es)=>bif es.length==g then F es else none
  |_=>none)=some res):∃sz es r C B cs s,h[b]?=some (.row sz es)/\es.length=g/\F es=some res/\T b=some (.row sz g (some r) C B)/\v=.pointer (some ⟨r,(B+i)*sz+off,none⟩)/\i<g/\
   w.heap[r]?=some (.cells cs s (0,0))/\cs.size=C*sz/\B+g<=C/\0<sz/\ZA T X w sz r es (B*sz):=by
 cases f:h[b]? with
 |none=>rw[f]at a;cases a
 |some o=>
  rw[f]at a;cases o<;>(first|(simp only[reduceCtorEq]at a;done)|dsimp only at a|skip)
  case row sz es=>
   cases e:(es.length==g)with
   |false=>rw[e]at a;cases a
   |true=>
    rw[e]at a;have c:es.length=g:=by simpa using e
    obtain⟨r,C,B,cs,s,j,d,n,t,u,k,p,l⟩:=JU m f q c;subst c;exact⟨sz,es,r,C,B,cs,s,rfl,rfl,by simpa using a,j,d,n,t,u,k,p,l⟩
def R5{B:Nat}(a:T b=some (.row sz g (some r) C B))(c:i<g):R T X w (.ptr b i off g) (.pointer<|some ⟨r,(B+i)*sz+off,none⟩):=
 ⟨⟨_,rfl⟩,sz,g,some r,C,B,a,ZSr _,λ_=>⟨r,rfl,c,rfl⟩⟩
def CD{s:Sem Next}{t:TypeId}{l:Array Field}{f:Field}{k n:Nat}{x:AV}{v:Value}{res:Zt}(m:M T X h w)(A:P.underlying t=some (.struct l))(H:l[k]?=some f)(G:ZR P f.type=some n)(z:n≠0)
 (p:R T X w x v) (d:∀rv,(Instr.fieldAt t v k).run P w=.ok rv w->s.run P w=.ok (.value rv) w)
 (a:(match(generalizing:=false) x with
  | .iptr bw cs=>Zl<|some<|.iptr bw<|cs.drop f.offset
  | .ptr b i off g=>
   match h[b]? with
   |some (.row _ es)=>bif es.length==g then some (AV.ptr b i (off+f.offset) g,[b],none)else none
   |_=>none
  |_=>none)=some res):Sim P T X h w s res:=by
 have c:∀ad:Addr,(Instr.fieldAt t (.pointer<|some ad) k).run P w=.ok (.pointer<|some<|ad.add f.offset) w:=by
  intro ad;simp[Instr.fieldAt,run_underlying A,H,Instr.sureAddr,fieldPlace,QY w G,z]
 cases x<;>(first|(simp only[reduceCtorEq]at a;done)|dsimp only at a|skip)
 case iptr bw cs=>
  obtain⟨u,E,rfl⟩:=ZY a;cases E;obtain⟨r,o,rfl,L,N,j,q,e⟩:=p;exact Sim.pure m (d _<|c _) ⟨r,o+f.offset,by rw[addr_add],L,N,R0 _ j,q,Ku _ e⟩
 case ptr b i off g=>
  obtain⟨sz,es,r,C,B,cs,O,K,J,a,y,rfl,D,L,N,j,q,e⟩:=R4 m (F:=λes=>some (AV.ptr b i (off+f.offset) g,[b],none)) p a
  simp only[Option.some.injEq]at a;subst a;exact Sim.pure m (d _<|c _)<|by rw[addr_add,ZTG];exact R5 y D
def ZGx{s:Sem Next}{neg:Bool}{x:AV}{v:Value}{res:Zt}(m:M T X h w)(c:R T X w x v)
 (d:∀p,v=.pointer p->s.run P w=.ok (.value<|.bool (if neg then p.isSome else p.isNone)) w)
 (a:(match(generalizing:=false) x with
  | .nilp=>Zl<|some<|.bool !neg
  | .iptr _ _=>Zl<|some<|.bool neg
  | .ptr b _ _ g=>
   match h[b]? with
   |some (.row _ es)=>bif es.length==g then some (AV.bool neg,[b],none)else none
   |_=>none
  |_=>none)=some res):Sim P T X h w s res:=by
 cases x<;>(first|(simp only[reduceCtorEq]at a;done)|dsimp only at a|skip)
 case nilp=>
  obtain⟨u,e,rfl⟩:=ZY a;cases e;have c:v=.pointer none:=c;subst c;exact Sim.pure m (d _ rfl)<|by cases neg<;>rfl
 case iptr bw cs=>
  obtain⟨u,e,rfl⟩:=ZY a;cases e;obtain⟨r,o,rfl,_⟩:=c;exact Sim.pure m (d _ rfl)<|by cases neg<;>rfl
 case ptr b i off g=>
  obtain⟨sz,es,r,C,B,cs,z,n,l,a,f,rfl,q,y,A,k,t,j⟩:=R4 m (F:=λes=>some (AV.bool neg,[b],none)) c a
  simp only[Option.some.injEq]at a;subst a;exact Sim.pure m (d _ rfl)<|by cases neg<;>rfl
def CE{s:Sem Next}{x:AV}{v:Value}{res:Zt}(m:M T X h w)(j:R T X w x v)
 (k:(∃p,v=.pointer (some p))\/(∃f c e,v=.func (.func f) c e)->s.run P w=.ok (.value v) w)
 (a:(match(generalizing:=false) x with
  | .iptr bw cs=>Zl<|some<|.iptr bw cs
  | .ptr b i off g=>
   match h[b]? with
   |some (.row _ es)=>bif es.length==g then some (AV.ptr b i off g,[b],none)else none
   |_=>none
  | .clo (.func f) first cap=>Zl<|some<|.clo (.func f) first cap
  |_=>none)=some res):Sim P T X h w s res:=by
 cases x<;>(first|(simp only[reduceCtorEq]at a;done)|dsimp only at a|skip)
 case iptr bw cs=>
  obtain⟨u,l,rfl⟩:=ZY a;cases l;have d:=j;obtain⟨r,o,rfl,_⟩:=j;exact Sim.pure m (k<|.inl ⟨_,rfl⟩) d
 case ptr b i off g=>
  obtain⟨sz,es,r,C,B,cs,G,z,y,a,n,rfl,A,E,H,t,D,q⟩:=R4 m (F:=λes=>some (AV.ptr b i off g,[b],none)) j a
  simp only[Option.some.injEq]at a;subst a;exact Sim.pure m (k<|.inl ⟨_,rfl⟩) j
 case clo fn first cap=>
  cases fn<;>(first|(simp only[reduceCtorEq]at a;done)|dsimp only at a|skip)
  obtain⟨u,l,rfl⟩:=ZY a;cases l;have d:=j;obtain⟨f,c,rfl,_⟩:=j;exact Sim.pure m (k<|.inr ⟨_,_,_,rfl⟩) d
def Wv{p:Prop}[Decidable p]{b:Type}{x:Option b}{y:b}(h:(if p then x else none)=some y):p/\x=some y:=by
 by_cases a:p
 .rw[if_pos a]at h;exact⟨a,h⟩
 .rw[if_neg a]at h;cases h
def CF{s:Sem Next}{t e:TypeId}{sz:Nat}{x y:AV}{v u:Value}{res:Zt}(m:M T X h w)(U:P.underlying t=some (.slice e))(Z:ZR P e=some sz)
 (K:R T X w x v) (L:R T X w y u) (J:∀rv,(Instr.indexAt t v u).run P w=.ok rv w->s.run P w=.ok (.value rv) w)
 (a:(match(generalizing:=false) x,y with
 | .isl bw _ sz' es,.int _ n=>
  if 0<=n then
   match es[n.toNat]? with
   |some e=>bif sz'==sz then Zl (some<|.iptr bw e.cells)else none
   |none=>none
  else none
 | .sl b g off f _,.int _ n=>
  if 0<=n/\n<(f:Int)then
   match h[b]? with
   |some (.row sz' es)=>bif sz'==sz&&es.length==g then some (AV.ptr b (off+n.toNat) 0 g,[b],none)else none
   |_=>none
  else none
 |_,_=>none)=some res):Sim P T X h w s res:=by
 have j:∀(k:IntKind)(n:Int)(ad:Addr)(l c:Nat),0<=n->n<(l:Int)->(Instr.indexAt t (.slice (some ad) l c)<|.int k n).run P w=.ok (.pointer<|some<|ad.add<|n.toNat*sz) w:=by
  intro k n ad l c h1 h2;simp[Instr.indexAt,asIntOf,run_underlying U,h1,h2,QY w Z]
 cases x<;>(first|(simp only[reduceCtorEq]at a;done)|dsimp only at a|skip)
 case isl bw ex sz' es=>
  cases y<;>(first|(simp only[reduceCtorEq]at a;done)|dsimp only at a|skip)
  case int k n=>
   obtain⟨E,a⟩:=Wv a;cases p:es[n.toNat]? with
   |none=>rw[p]at a;cases a
   |some el=>
    rw[p]at a;simp only at a;cases d:(sz'==sz)with
    |false=>rw[d]at a;cases a
    |true=>
     rw[d]at a;obtain⟨q,Y,rfl⟩:=ZY a;cases Y;have z:sz'=sz:=by simpa using d
     subst z;cases QS L;obtain⟨ad,f,cap,rfl,h1,h2,h3,W,O⟩:=K;have D:n.toNat<es.length:=(ZSA.1 p).1;rcases O with rfl|⟨r,o,rfl,h6,h7,h8,h9⟩
     .simp at D
     obtain⟨V,A⟩:=Kw n.toNat h9 p;refine Sim.pure m (J _<|j k n _ _ _ E<|by omega) ⟨r,o+n.toNat*sz',by rw[addr_add],h6,h7,CC W p,h8,A⟩
 case sl b g off f ex=>
  cases y<;>(first|(simp only[reduceCtorEq]at a;done)|dsimp only at a|skip)
  case int k n=>
   obtain⟨⟨E,hl⟩,a⟩:=Wv a;cases F:h[b]? with
   |none=>rw[F]at a;cases a
   |some o=>
    rw[F]at a;cases o<;>(first|(simp only[reduceCtorEq]at a;done)|dsimp only at a|skip)
    case row sz' es=>
     cases d:(sz'==sz&&es.length==g)with
     |false=>rw[d]at a;cases a
     |true=>
      rw[d]at a;simp only[cond_true,Option.some.injEq]at a;subst a;simp only[ZSq,beq_iff_eq]at d;obtain⟨rfl,N⟩:=d;cases QS L;obtain⟨r,C,B,G,q0,hC,hr⟩:=XV m F;obtain⟨_,Q,g2,r2,C2,B2,i,q1,q2,S⟩:=K;rw[G]at i;cases i;obtain⟨cap,q4,q5,q6,H⟩:=S N.symm;rcases H with⟨r3,rfl,rfl⟩|⟨H,_,_⟩
      .refine Sim.pure m (J _<|j k n _ _ _ E<|by omega) ?_
       rw[addr_add,show(B+off)*sz'+n.toNat*sz'=(B+(off+n.toNat))*sz'+0 by rw[<-ZSY,ZTG];rfl]
       rw[<-N];exact R5 G<|by omega
      .omega
def CG{s:Sem Next}{t e:TypeId}{sz c:Nat}{x y:AV}{v u:Value}{res:Zt}(m:M T X h w)(K:P.underlying t=some (.array c e))(O:ZR P e=some sz)
 (A:R T X w x v) (E:R T X w y u) (z:∀rv,(Instr.indexAt t v u).run P w=.ok rv w->s.run P w=.ok (.value rv) w)
 (a:(match(generalizing:=false) x,y with
 | .iptr bw cs,.int _ n=>if 0<=n/\n<(c:Int)then Zl (some<|.iptr bw<|cs.drop<|n.toNat*sz)else none
 | .ptr b j off g,.int _ n=>
  match h[b]? with
  |some (.row _ es)=>bif es.length==g then(if 0<=n/\n<(c:Int)then some (AV.ptr b j (off+n.toNat*sz) g,[b],none)else none)else none
  |_=>none
 |_,_=>none)=some res):Sim P T X h w s res:=by
 have d:∀(k:IntKind)(n:Int)(ad:Addr),0<=n->n<(c:Int)->(Instr.indexAt t (.pointer<|some ad)<|.int k n).run P w=.ok (.pointer<|some<|ad.add<|n.toNat*sz) w:=by
  intro k n ad U V;simp[Instr.indexAt,asIntOf,run_underlying K,U,V,QY w O,Instr.sureAddr]
 cases x<;>(first|(simp only[reduceCtorEq]at a;done)|dsimp only at a|skip)
 case iptr bw cs=>
  cases y<;>(first|(simp only[reduceCtorEq]at a;done)|dsimp only at a|skip)
  case int k n=>
   obtain⟨⟨l,f⟩,a⟩:=Wv a;obtain⟨q,L,rfl⟩:=ZY a;cases L;cases QS E;obtain⟨r,o,rfl,U,V,D,G,p⟩:=A;exact Sim.pure m (z _<|d k n _ l f) ⟨r,o+n.toNat*sz,by rw[addr_add],U,V,R0 _ D,G,Ku _ p⟩
 case ptr b i off g=>
  cases y<;>(first|(simp only[reduceCtorEq]at a;done)|dsimp only at a|skip)
  case int k n=>
   obtain⟨J,es,r,C,B,cs,W,S,Q,a,H,rfl,N,U,V,D,G,p⟩:=R4 m (F:=λes=>if 0<=n/\n<(c:Int)then some (AV.ptr b i (off+n.toNat*sz) g,[b],none)else none) A a
   obtain⟨⟨l,f⟩,a⟩:=Wv a;simp only[Option.some.injEq]at a;subst a;cases QS E;exact Sim.pure m (z _<|d k n _ l f)<|by rw[addr_add,ZTG];exact R5 H N
def Mn{t:TypeId}{n:Option Nat}{cs:List AV}{vs:Array Value}{off:Nat}{v:AV}(a:Xv P t n=true)(h:Rs T X w cs vs.toList)(b:takeC n (cs.drop off)=some v):
 ∃rv,(part t vs off).run P w=.ok rv w/\R T X w v rv:=by
 unfold Xv at a;have j:=Qr h;cases f:P.underlying t with
 |none=>rw[f]at a;cases a
 |some d=>
  rw[f]at a;simp only at a;cases g:ZF P t with
  |false=>
   rw[g]at a;simp at a;subst a;have m:=VE off h;generalize r:cs.drop off=q at b m;cases q with
   |nil=>simp[takeC]at b
   |cons c q=>
    simp[takeC]at b;subst b;obtain⟨u,p,s,x,o⟩:=m;refine⟨u,?_,x⟩;have e:vs[off]?=some u:=by
     have:=congrArg (λl:List Value=>l[0]?) s
     simpa using this
    simp only[part,Sem.run_bind,V1 w f,Result.andThen_ok,g,ZSH,if_false,e,Sem.run_pure]
  |true=>
   rw[g]at a;cases n with
   |none=>simp at a
   |some k=>
    simp at a;simp only[takeC]at b;cases i:Nat.ble k (cs.drop off).length with
    |false=>rw[i]at b;cases b
    |true=>
     rw[i]at b;simp at b;subst b;refine⟨.agg<|vs.extract off<|off+k,?_,_,rfl,?_⟩
     .simp only[part,Sem.run_bind,V1 w f,Result.andThen_ok,g,if_true,QY w a,Sem.run_pure]
     .have:=Kt k<|VE off h;simpa using this
end Go.AM
namespace Go.AM
open Go
variable [Dr]
variable {P:Program} {E:Env} {T:Ty} {X:Xt} {w:World} {h:Hp} {fr:Fr} {a:Act}
def Xw(T:Ty)(X:Xt)(w:World):Option AV->Option Value->Prop
 |none,none=>True
 |some a,some v=>R T X w a v
 |_,_=>False
def G2{k:IntKind}{n:Int}{v:Value}(a:Xw T X w (some<|.int k n)<|some v):v=.int k n:=a
def G3{v:AV}{n:Nat}(a:numOf v=some n):∃k i,v=.int k i/\0<=i/\i.toNat=n:=by
 cases v<;>simp[numOf]at a
 grind
theorem run_sliceBound{k:IntKind}{i:Int}{y:Nat}{a:BoundsCode}(c:0<=i)(b:i.toNat<=y):(Instr.sliceBound (.int k i) y a).run P w=.ok i.toNat w:=by
 simp_all[Instr.sliceBound,asIntOf]
def G4{t s mx:Option AV}{a l q:Nat}{m:Option Nat}(p:bounds t s mx a=some (l,q,m)){b d f:Option Value}(j:Xw T X w t b)(e:Xw T X w s d)(n:Xw T X w mx f)
 {cap:Nat} (G:a<=cap) (D:Bool):(Instr.sliceBounds D a cap b d f).run P w=.ok (l,q,m.getD cap) w/\l<=q/\q<=a/\(∀k,m=some k->q<=k/\k<=a):=by
 unfold bounds at p;split at p
 .next F h' A h g C=>
  .cases E:(Nat.ble A h'&&Nat.ble h' a&&VB h' a F)with
   |false=>grind
   |true=>
    rw[E]at p;simp[Prod.mk.injEq]at p;obtain⟨rfl,rfl,rfl⟩:=p;simp[Nat.ble_eq]at E;obtain⟨⟨z,O⟩,c3⟩:=E;have B:∀k,F=some k->h'<=k/\k<=a:=by
     intro k M
     simp_all[VB]
    have c:∀y o,h'<=y->A<=y->(match b with|some v=>Instr.sliceBound v y o|none=>pure 0:Sem Nat).run P w=.ok A w:=by
     cases t with
     |none=>
      cases b with
      |none=>simp_all[VA]
      |some _=>exact j.elim
     |some v=>
      cases b with
      |none=>exact j.elim
      |some rv=>
       obtain⟨k,i,rfl,r,rfl⟩:=G3 C;cases G2 j
       grind [run_sliceBound]
    cases mx with
    |none=>
     cases f with
     |some _=>exact n.elim
     |none=>
      simp[Vz]at h;subst h;cases s with
      |none=>
       cases d with
       |some _=>exact e.elim
       |none=>
        simp[Wl]at g;subst g;have:=c a .sliceB (by omega) z
        simp[Instr.sliceBounds,if_false];cases b with
        |none=>simp_all
        |some v=>simp_all
      |some v=>
       cases d with
       |none=>exact e.elim
       |some rv=>
        obtain⟨k,i,rfl,r,rfl⟩:=G3 g;cases G2 e;have:=c i.toNat .sliceB (by omega) z
        simp[Instr.sliceBounds,if_false];rw[run_sliceBound r<|by omega]
        cases b with
        |none=>simp_all
        |some v=>simp_all
    |some v=>
     cases f with
     |none=>exact n.elim
     |some rv=>
      simp[Vz]at h;obtain⟨L,u,rfl⟩:=h;obtain⟨k,i,rfl,r,rfl⟩:=G3 u;cases G2 n;obtain⟨J,N⟩:=B _ rfl;cases s with
      |none=>grind [Wl]
      |some v=>
       cases d with
       |none=>exact e.elim
       |some rv=>
        obtain⟨K,H,rfl,x,rfl⟩:=G3 g;cases G2 e;have:=c H.toNat .slice3C (by omega) z
        simp[Instr.sliceBounds,if_true];rw[run_sliceBound r<|by omega]
        simp[Result.andThen_ok];rw[run_sliceBound x<|by omega]
        cases b with
        |none=>simp_all
        |some v=>simp_all
 grind
def CH{s:Sem Next}{t e:TypeId}{sz:Nat}{x:AV}{A G mx:Option AV}{v:Value}{n p j:Option Value}{res:Zt}(m:M T X h w)(ht:P.underlying t=some (.slice e))(hn:ZR P e=some sz)
 (S:R T X w x v) (z:Xw T X w A n) (F:Xw T X w G p) (E:Xw T X w mx j) (O:∀rv,(Instr.sliceAt t v n p j).run P w=.ok rv w->s.run P w=.ok (.value rv) w)
 (f:(match(generalizing:=false) x with
 | .nilsl=>
  match bounds A G mx 0 with
  |some _=>Zl<|some .nilsl
  |none=>none
 | .isl bw ex sz' es=>
  match bounds A G mx es.length with
  |some (l,d,m)=>bif sz'==sz then Zl (some<|.isl bw (match m with|none=>ex&&d==es.length|some m=>m==d) sz<|(es.drop l).take (d-l))else none
  |none=>none
 | .sl b g off c ex=>
  match bounds A G mx c with
  |some (l,d,m)=>
   match h[b]? with
   |some (.row sz' es)=>bif sz'==sz&&es.length==g then some (AV.sl b g (off+l) (d-l) (match m with|none=>ex&&d==c|some m=>m==d),[b],none)else none
   |_=>none
  |none=>none
 |_=>none)=some res):Sim P T X h w s res:=by
 have D:∀(a:Option Addr)(c cap l d i:Nat),(Instr.sliceBounds true c cap n p j).run P w=.ok (l,d,i) w->
  (Instr.sliceAt t (.slice a c cap) n p j).run P w=.ok (.slice (if i=l then a else a.map (·.add (l*sz))) (d-l)<|i-l) w:=by
  simp_all[Instr.sliceAt,Instr.slice,run_underlying,QY]
 cases x<;>(first|(simp[reduceCtorEq]at f)|dsimp only at f|skip)
 case nilsl=>
  cases y:bounds A G mx 0 with
  |none=>grind
  |some q=>
   obtain⟨l,d,i⟩:=q;rw[y]at f;obtain⟨u,N,rfl⟩:=ZY f;cases N;have hv:v=.slice none 0 0:=S;subst hv;obtain⟨h1,h2,h3,h4⟩:=G4 (P:=P) y z F E (cap:=0) (ZSr _) true;refine Sim.pure m (O _<|D _ _ _ _ _ _ h1) ?_;have V:i.getD 0=0:=by
    cases i with
    |none=>rfl
    |some k=>grind
   show Value.slice _ _ _=_
   rw[V,show d-l=0 by omega,show 0-l=0 by omega]
   congr 1;split<;>rfl
 case isl bw ex sz' es=>
  cases y:bounds A G mx es.length with
  |none=>grind
  |some q=>
   obtain⟨l,d,i⟩:=q;rw[y]at f;dsimp only at f;cases H:(sz'==sz)with
   |false=>grind
   |true=>
    rw[H]at f;obtain⟨u,N,rfl⟩:=ZY f;cases N;have Q:sz'=sz:=by grind
    subst Q;obtain⟨ad,c,cap,rfl,q1,q2,q3,U,q5⟩:=S;subst q1;obtain⟨h1,h2,h3,h4⟩:=G4 (P:=P) y z F E (cap:=cap) q2 true;have W:d<=i.getD cap:=by
     grind
    refine Sim.pure m (O _<|D _ _ _ _ _ _ h1) ⟨_,_,_,rfl,by grind,by omega,?_,CA _<|R0 _ U,?_⟩
    .grind
    .by_cases L:l=d
     .simp_all
     .right;rcases q5 with rfl|⟨r,o,rfl,q6,q7,q8,q9⟩
      .grind
      .refine⟨r,o+l*sz',?_,q6,q7,q8,UV _<|UU _ q9⟩;rw[if_neg<|by omega]
       simp[addr_add]
 case sl b g off c ex=>
  cases y:bounds A G mx c with
  |none=>grind
  |some q=>
   obtain⟨l,d,i⟩:=q;rw[y]at f;dsimp only at f;cases K:h[b]? with
   |none=>grind
   |some o=>
    rw[K]at f;cases o<;>(first|(simp only[reduceCtorEq]at f;done)|dsimp only at f|skip)
    case row sz' es=>
     cases H:(sz'==sz&&es.length==g)with
     |false=>grind
     |true=>
      rw[H]at f;simp only[cond_true,Option.some.injEq]at f;subst f;simp only[ZSq,beq_iff_eq]at H;obtain⟨rfl,hg⟩:=H;obtain⟨r,C,B,Z,q0,hC,hr⟩:=XV m K;obtain⟨_,ac,g2,r2,C2,B2,J,q1,q2,q3⟩:=S;rw[Z]at J;cases J;obtain⟨cap,U,q5,q6,q7⟩:=q3 hg.symm;obtain⟨ad,rfl,hq⟩:∃ad,v=.slice ad c cap/\((∃Y,r=some Y/\ad=some ⟨Y,(B+off)*sz',none⟩)\/(cap=0/\(r=none->ad=none))):=by
       grind
      obtain⟨h1,h2,h3,h4⟩:=G4 (P:=P) y z F E (cap:=cap) U true;have W:d<=i.getD cap:=by
       cases i with
       |none=>grind
       |some k=>grind
      have aa:i.getD cap<=cap:=by
       cases i with
       |none=>simp
       |some k=>grind
      refine Sim.pure m (O _<|D _ _ _ _ _ _ h1) ⟨⟨_,_,_,rfl⟩,sz',es.length,r,C,B,Z,by omega,by omega,λ_=>⟨i.getD cap-l,by omega,by omega,?_,?_⟩⟩
      .grind
      .by_cases ab:i.getD cap=l
       .right;refine⟨by omega,ad,?_,?_⟩
        all_goals grind
       .left;rcases hq with⟨Y,e1,e2⟩|⟨e1,_⟩
        all_goals simp_all[addr_add,ZSY,ZTG]
def CI{s:Sem Next}{t:TypeId}{x:AV}{e f:Option AV}{v:Value}{a b:Option Value}{res:Zt}(m:M T X h w)(p:P.underlying t=some .string)
 (k:R T X w x v) (d:Xw T X w e a) (g:Xw T X w f b) (j:∀rv,(Instr.sliceAt t v a b none).run P w=.ok rv w->s.run P w=.ok (.value rv) w)
 (c:(match(generalizing:=false) x with
 | .str s=>
  match bounds e f none s.size with
  |some (l,hh,_)=>Zl<|some<|.str<|s.extract l hh
  |none=>none
 |_=>none)=some res):Sim P T X h w s res:=by
 cases x<;>(first|(simp[reduceCtorEq]at c)|dsimp only at c|skip)
 case str st=>
  cases i:bounds e f none st.size with
  |none=>grind
  |some q=>
   rw[i]at c;obtain⟨u,n,rfl⟩:=ZY c;cases n;cases Yj k;obtain⟨y,z,o,r⟩:=G4 (P:=P) i d g (show Xw T X w none none from trivial) (cap:=st.size) (ZSr _) false
   refine Sim.pure m (j _ ?_) rfl
   simp_all[Instr.sliceAt,Instr.slice,run_underlying]
def CJ{s:Sem Next}{t:TypeId}{x y:AV}{v u:Value}{res:Zt}(m:M T X h w)(o:P.underlying t=some .string)
 (i:R T X w x v) (j:R T X w y u) (f:∀rv,(Instr.index t v u).run P w=.ok rv w->s.run P w=.ok (.value rv) w)
 (a:(match(generalizing:=false) x,y with
 | .str s,.int _ n=>if 0<=n then Zl ((s.data[n.toNat]?).map λb=>.int .u8 b.toNat)else none
 |_,_=>none)=some res):Sim P T X h w s res:=by
 cases x<;>(first|(simp[reduceCtorEq]at a)|dsimp only at a|skip)
 case str st=>
  cases y<;>(first|(simp only[reduceCtorEq]at a)|dsimp only at a|skip)
  case int k n=>
   obtain⟨l,a⟩:=Wv a;obtain⟨q,e,rfl⟩:=ZY a;simp[ZSD]at e;obtain⟨b,d,rfl⟩:=e;cases QS j;cases Yj i;refine Sim.pure m (f _ ?_) rfl;have c:n.toNat<st.size:=(ZTi.1 d).1;have g:st[n.toNat]?=some b:=by
    rw[getElem?_pos st n.toNat c];exact congrArg some (ZTi.1 d).2
   simp_all[Instr.index,asIntOf,run_underlying]
def CK{s:Sem Next}{t e:TypeId}{n:Option Nat}{sz b:Nat}{x y:AV}{v u:Value}{res:Zt}(m:M T X h w)(p:P.underlying t=some (.array b e))(i:Xv P e n=true)(o:ZR P e=some sz)
 (d:R T X w x v) (g:R T X w y u) (j:∀rv,(Instr.index t v u).run P w=.ok rv w->s.run P w=.ok (.value rv) w)
 (a:(match(generalizing:=false) x,y with
 | .agg cs,.int _ k=>if 0<=k/\k<(b:Int)then Zl (takeC n<|cs.drop<|k.toNat*sz)else none
 |_,_=>none)=some res):Sim P T X h w s res:=by
 cases x<;>(first|(simp[reduceCtorEq]at a)|dsimp only at a|skip)
 case agg cs=>
  cases y<;>(first|(simp only[reduceCtorEq]at a)|dsimp only at a|skip)
  case int kk k=>
   obtain⟨⟨l,r⟩,a⟩:=Wv a;obtain⟨q,c,rfl⟩:=ZY a;cases QS g;obtain⟨vs,rfl,f⟩:=d;obtain⟨rv,z,A⟩:=Mn i f c
   simp_all[Sim.pure,Instr.index,asIntOf,run_underlying,QY]
def CL{s:Sem Next}{t:TypeId}{b:Array Field}{f:Field}{k:Nat}{n:Option Nat}{x:AV}{v:Value}{res:Zt}(m:M T X h w)(j:P.underlying t=some (.struct b))(l:b[k]?=some f)(g:Xv P f.type n=true)
 (d:R T X w x v) (i:∀rv,(Instr.field t v k).run P w=.ok rv w->s.run P w=.ok (.value rv) w)
 (a:(match(generalizing:=false) x with
 | .agg cs=>Zl<|takeC n<|cs.drop f.offset
 |_=>none)=some res):Sim P T X h w s res:=by
 cases x<;>(first|(simp[reduceCtorEq]at a)|dsimp only at a|skip)
 case agg cs=>
  obtain⟨q,c,rfl⟩:=ZY a;obtain⟨vs,rfl,e⟩:=d;obtain⟨rv,o,p⟩:=Mn g e c
  simp_all[Sim.pure,Instr.field,run_underlying,asAgg]
def CM{s:Sem Next}{x:AV}{i:Nat}{v:Value}{res:Zt}(m:M T X h w)(c:R T X w x v)(e:∀rv,(Instr.extract v i).run P w=.ok rv w->s.run P w=.ok (.value rv) w)
 (a:(match(generalizing:=false) x with
 | .tup vs=>Zl vs[i]?
 |_=>none)=some res):Sim P T X h w s res:=by
 cases x<;>(first|(simp[reduceCtorEq]at a)|dsimp only at a|skip)
 case tup cs=>
  obtain⟨q,b,rfl⟩:=ZY a;obtain⟨vs,rfl,d⟩:=c;obtain⟨u,f,g⟩:=Wp i d b
  simp_all[Sim.pure,Instr.extract]
def CN{s:Sem Next}{t:TypeId}{x:AV}{v:Value}{res:Zt}{ty:TypeId}(m:M T X h w)(Z:P.underlying t=some .string\/(∃e,P.underlying t=some (.slice e))\/(∃k e,P.underlying t=some (.map k e)))
 (a:match(generalizing:=false) x with| .str _=>P.underlying t=some .string| .nilsl| .isl .. | .sl ..=>(∃e,P.underlying t=some (.slice e))| .nilmap| .imap .. | .mp _=>(∃k e,P.underlying t=some (.map k e))|_=>True)
 (u:R T X w x v) (j:∀rv,(Builtin.len_ #[t] ty #[v]).run P w=.ok rv w->s.run P w=.ok (.value rv) w)
 (c:(match(generalizing:=false) x with
 | .str s=>Zl<|some<|.int .i64 s.size
 | .nilsl=>Zl<|some<|.int .i64 0
 | .nilmap=>Zl<|some<|.int .i64 0
 | .isl _ _ _ es=>Zl<|some<|.int .i64 es.length
 | .imap _ ks _=>Zl<|some<|.int .i64 ks.length
 | .sl b g _ f _=>
  match h[b]? with
  |some (.row _ es)=>bif es.length==g then some (.int .i64 f,[b],none)else none
  |_=>none
 | .mp b=>
  match h[b]? with
  |some (.map ks _)=>some (.int .i64 ks.length,[b],none)
  |_=>none
 |_=>none)=some res):Sim P T X h w s res:=by
 cases x<;>(first|(simp[reduceCtorEq]at c)|dsimp only at c a|skip)
 case str st=>
  obtain⟨q,i,rfl⟩:=ZY c;cases i;cases Yj u;exact Sim.pure m (j _<|by simp[Builtin.len_,run_underlying a,goInt]) rfl
 case nilsl=>
  obtain⟨e,a⟩:=a;obtain⟨q,i,rfl⟩:=ZY c;cases i;have J:v=.slice none 0 0:=u;subst J;exact Sim.pure m (j _<|by simp[Builtin.len_,run_underlying a,goInt]) rfl
 case nilmap=>
  obtain⟨k,e,a⟩:=a;obtain⟨q,i,rfl⟩:=ZY c;cases i;have J:v=.map none:=u;subst J;exact Sim.pure m (j _<|by simp[Builtin.len_,run_underlying a,goInt]) rfl
 case isl bw ex sz es=>
  obtain⟨e,a⟩:=a;obtain⟨q,i,rfl⟩:=ZY c;cases i;obtain⟨ad,f,cap,rfl,rfl,_⟩:=u;exact Sim.pure m (j _<|by simp[Builtin.len_,run_underlying a,goInt]) rfl
 case imap bw ks vs=>
  obtain⟨k,e,a⟩:=a;obtain⟨q,i,rfl⟩:=ZY c;cases i;obtain⟨r,es,n,l,rfl,h1,h2,h3,K,G,A,F,L⟩:=u;have E:=Qr F;have H:=A.length_eq;refine Sim.pure m (j (.int .i64 (ks.length:Int)) ?_) rfl;simp only[ZSs]at E;simp only[ZTb]at H;simp[Builtin.len_,run_underlying a,goInt,getObj,Sem.run,K.1];omega
 case sl b g off f ex=>
  obtain⟨e,a⟩:=a;cases y:h[b]? with
  |none=>grind
  |some o=>
   rw[y]at c;cases o<;>(first|(simp only[reduceCtorEq]at c;done)|dsimp only at c|skip)
   case row sz es=>
    cases S:(es.length==g)with
    |false=>grind
    |true=>
     rw[S]at c;simp only[cond_true,Option.some.injEq]at c;subst c;have D:es.length=g:=by grind
     obtain⟨r,C,B,z,Y,hC,hr⟩:=XV m y;obtain⟨_,N,W,U,C2,B2,d,q1,q2,Q⟩:=u;rw[z]at d;cases d;obtain⟨cap,q4,q5,q6,O⟩:=Q D.symm;rcases O with⟨r',V,rfl⟩|⟨rfl,p,rfl,q8⟩
     .exact Sim.pure m (j _<|by simp[Builtin.len_,run_underlying a,goInt]) rfl
     .have:f=0:=by omega
      subst this;exact Sim.pure m (j _<|by simp[Builtin.len_,run_underlying a,goInt]) rfl
 case mp b=>
  obtain⟨k,e,a⟩:=a;cases y:h[b]? with
  |none=>grind
  |some o=>
   rw[y]at c;cases o<;>(first|(simp only[reduceCtorEq]at c;done)|dsimp only at c|skip)
   case map ks vs=>
    simp only[Option.some.injEq]at c;subst c;obtain⟨r,es,n,l,z,K,G,A,F,L⟩:=JS m y;obtain⟨U,d,rfl⟩:=u;rw[z]at d;cases d;have E:=Qr F;have H:=A.length_eq;refine Sim.pure m (j (.int .i64 (ks.length:Int)) ?_) rfl;simp only[ZSs]at E;simp only[ZTb]at H;simp[Builtin.len_,run_underlying a,goInt,getObj,Sem.run,K.1];omega
end Go.AM
namespace Go.AM
open Go
variable [Dr]
variable {P:Program} {E:Env} {T:Ty} {X:Xt} {w:World} {h:Hp} {fr:Fr} {a:Act}
def Mo(n:Nat)(z:AV):flat (List.replicate n z)=(List.replicate n z.cells).flatten:=by
 induction n with
 |zero=>rfl
 |succ n a=>rw[ZU7,VH,a,ZU7,ZUf]
def Mp{cs:List AV}{vs:List Value}(n:Nat)(a:Rs T X w cs vs):Rs T X w (List.replicate n cs).flatten (List.replicate n vs).flatten:=by
 induction n with
 |zero=>rfl
 |succ n b=>rw[ZU7,ZU7,ZUf,ZUf];exact QR a b
def R6{d:Type}(l:List d):∀(n j:Nat),j<n*l.length->(List.replicate n l).flatten[j]?=l[j%l.length]?:=by
 intro n;induction n with
 |zero=>intro j a;simp at a
 |succ n c=>
  intro j a;rw[ZU7,ZUf];by_cases b:j<l.length
  .rw[ZT2 b,Nat.mod_eq_of_lt b]
  .rw[ZTd (by omega),c (j-l.length)<|by rw[ZTo]at a;omega]
   rw[<-Nat.mod_eq_sub_mod (by omega)]
def Mq(a:Array Value)(n:Nat):((Array.range<|n*a.size).map (λi=>a[i%a.size]!)).toList=(List.replicate n a.toList).flatten:=by
 apply ZTO;intro j;by_cases b:j<n*a.size
 .have d:0<a.size:=by
   rcases Nat.eq_zero_or_pos a.size with e|e
   .rw[e]at b;simp at b
   .exact e
  rw[R6 a.toList n j<|by simpa using b]
  simp only[Array.toList_map,ZT7,ZUU,List.getElem?_range b,ZT3,ZTb];have c:j%a.size<a.size:=ZTH _ d;rw[ZTV,ZTh c,getElem!_pos a _ c]
 .rw[ZTj (by simp;omega),ZTj<|by simp;omega]
def wrap_i64{n:Int}(a:0<=n)(b:n<=9223372036854775807):IntKind.i64.wrap n=n:=IntWalk.i64_in _<|by omega
def CO{s:Sem Next}{t e:TypeId}{sz aa aid:Nat}{z:AV}{d:Value}{i:TypeInfo}{x y:AV}{v u:Value}{res:Zt}(m:M T X h w)(hX:∀r,X r->r<w.heap.size)(H:aid<=h.length)(S:T aid=none)
 (ht:P.underlying t=some (.slice e)) (F:P.info? e=some i) (A:i.size=sz) (O:i.bytes=aa) (G:i.zero=some d) (V:Q3 d z=true)
 (hx:R T X w x v) (hy:R T X w y u) (hs:∀rv w',(Instr.makeSlice t v u).run P w=.ok rv w'->s.run P w=.ok (.value rv) w')
 (f:(match(generalizing:=false) x,y with
 | .int .i64 n,.int .i64 c=>
  if 0<=n/\n<=c/\c*aa<=70368744177664/\c<9223372036854775807/\fits sz z=true/\0<sz then
   some (AV.sl aid n.toNat 0 n.toNat<|n==c,[],some (aid,AObj.row sz<|List.replicate n.toNat z))
  else none
 |_,_=>none)=some res):Sim P T X h w s res:=by
 obtain⟨n,c,rfl,rfl⟩:∃n c,x=.int .i64 n/\y=.int .i64 c:=by
  cases x<;>(first|(simp only[reduceCtorEq]at f;done)|skip)
  case int k n=>
   cases y<;>(first|(cases k<;>simp only[reduceCtorEq]at f;done)|skip)
   case int k2 c=>
    cases k<;>(first|(simp only[reduceCtorEq]at f;done)|skip)
    cases k2<;>(first|(simp only[reduceCtorEq]at f;done)|skip)
    exact⟨n,c,rfl,rfl⟩
 .obtain⟨⟨h0,h1,h2,h3,h4,U⟩,f⟩:=Wv f;simp only[Option.some.injEq]at f;subst f;cases QS hx;cases QS hy;have N:R T X w z d:=Ws _ _ V;obtain⟨Z,E,f3,f4,f5⟩:=Kz h4 N;obtain⟨a,b⟩:∃a,a=(Array.range<|c.toNat*sz).map (λi=>d.cells[i%d.cells.size]!):=⟨_,rfl⟩
  have o:a.toList=(List.replicate c.toNat d.cells.toList).flatten:=by
   rw[b,<-E];exact Mq d.cells c.toNat
  have g:a.size=c.toNat*sz:=by rw[b];simp
  have B:(Instr.makeSlice t (.int .i64 n)<|.int .i64 c).run P w=.ok (.slice (some ⟨w.heap.size,0,none⟩) n.toNat c.toNat) (w.alloc<|.cells a e):=by
   have Y:=wrap_i64 h0<|by omega
   have w2:=wrap_i64 (n:=c) (by omega)<|by omega
   have t1:¬(c<0):=by omega
   have t2:¬((aa:Int)*c>281474976710656):=by rw[Int.mul_comm];omega
   have t3:¬(n<0):=by omega
   have t4:¬(n>c):=by omega
   have K:(zeroValue e).run P w=.ok d w:=Xu w<|by simp[YH,F,G]
   have p:(sizeOf e).run P w=.ok sz w:=QY w<|by simp[ZR,F,A]
   have L:(typeInfo e).run P w=.ok i w:=by simp[typeInfo,F]
   have W:P.cellsOf e=sz:=by simp[Program.cellsOf,F,A]
   simp only[Instr.makeSlice,Sem.run_bind,run_underlying ht,Result.andThen_ok,asInt,asIntOf,Sem.run_pure,L,O,Y,w2];have tl:(decide (c<0)||decide ((aa:Int)*c>2 ^ 48))=false:=by simp[t1];omega
   simp only[tl,ZT5,Sem.run_ite];rw[if_neg<|by simp;omega]
   simp only[Sem.run_bind,run_askRoom,Result.andThen_ok,p,Sem.run_ite,Sem.run_pure,K];by_cases l:c.toNat*sz=0
   .rw[if_pos l];have:a = #[]:=by
     apply ZUE;omega
    simp[newRow,l,this];rw[show Array.map (λ_:Nat=>(default:Value)) (Array.range 0) = #[]from ZUE<|by simp]
   .rw[if_neg l];rw[<-b];simp[newRow]
  refine HW (C:=c.toNat) (e:=e) (cs:=a) m hX H S U (by simp;omega) g ?_ ?_ (hs _ _ B) ?_
  .intro q D;rw[ZUF D];exact Z
  .refine⟨(List.replicate n.toNat d.cells.toList).flatten,by rw[Mo];exact Mp _ f3,λj q D=>?_⟩
   have hj:j<n.toNat*sz:=by
    have:=(ZSA.1 D).1;simpa[E]using this
   have Q:n.toNat*sz<=c.toNat*sz:=ZTz _<|by omega
   rw[<-ZTV,o,R6 _ _ _<|by simp[E];omega]
   rw[R6 _ _ _<|by simp[E];omega]at D
   exact D
  .refine⟨⟨_,_,_,rfl⟩,sz,_,_,_,0,upd_same _ _ _,by simp,by simp,λ_=>⟨c.toNat,by omega,by omega,?_,.inl ⟨w.heap.size,rfl,by simp⟩⟩⟩
   intro J;have:n=c:=by simpa using J
   omega
def CP(v:List Value):∀(off:Nat)(a:Array Value),off+v.length<=a.size->
 (v.zipIdx.foldl (λcs(c,j)=>cs.setIfInBounds (off+j) c) a).toList=a.toList.take off++v++a.toList.drop (off+v.length):=by
 have b:∀(v:List Value)(k off:Nat)(a:Array Value),off+k+v.length<=a.size->
  ((v.zipIdx k).foldl (λcs(c,j)=>cs.setIfInBounds (off+j) c) a).toList=a.toList.take (off+k)++v++a.toList.drop (off+k+v.length):=by
  intro v;induction v with
  |nil=>intro k off a _;simp
  |cons x v f=>
   intro k off a e;simp only[ZSG]at e;rw[List.zipIdx_cons,ZTe,f (k+1) off (a.setIfInBounds (off+k) x)<|by simp;omega]
   simp only[Array.toList_setIfInBounds];have d:off+k<a.toList.length:=by simp;omega
   rw[show off+(k+1)=off+k+1 by omega]
   rw[ZTA,ZUV d,List.take_set_of_le<|ZSr _];rw[List.drop_set_of_lt<|by omega]
   simp only[ZSG,Option.toList_some,ZSN,List.singleton_append,ZSv];rw[show off+k+1+v.length=off+k+(v.length+1)by omega]
   rfl
 intro off a e;have:=b v 0 off a<|by simpa using e
 simpa using this
def CQ{cs v:List AV}{vs u:List Value}(a:Rs T X w cs vs)(b:Rs T X w v u)(off n:Nat):Rs T X w (cs.take off++v++cs.drop (off+n)) (vs.take off++u++vs.drop (off+n)):=
 QR (QR (Kt off a) b) (VE (off+n) a)
inductive F2{α β:Type}(p:α->β->Prop):List α->List β->Prop where
 |nil:F2 p [] []
 |cons {a:α} {b:β} {as:List α} {bs:List β}:p a b->F2 p as bs->F2 p (a::as) (b::bs)
def R7{place:Nat->Option (Nat×Nat)}:∀{ps:List (Nat×Value)}{g:List (Nat×Nat×AV)}{a:Array Value}{cs d:List AV},
 F2 (λ(p:Nat×Value)(q:Nat×Nat×AV)=>place p.1=some (q.1,q.2.1)/\R T X w q.2.2 p.2) ps g->
 Rs T X w cs a.toList->fill cs g=some d->∃b,Instr.fill place a ps=some b/\Rs T X w d b.toList/\b.size=a.size:=by
 intro ps;induction ps with
 |nil=>
  intro g a cs d m k e;cases m;simp[fill]at e;subst e;exact⟨a,rfl,k,rfl⟩
 |cons p ps y=>
  intro g a cs d m k e;cases m with
  |cons D E=>
   rename_i q g;obtain⟨i,v⟩:=p;obtain⟨off,sz,x⟩:=q;obtain⟨o,n⟩:=D;simp only at o n;simp only[fill]at e;cases h:(fits sz x&&Nat.ble (off+sz) cs.length)with
   |false=>rw[h]at e;cases e
   |true=>
    rw[h]at e;simp only[cond_true]at e;simp only[ZSq,Nat.ble_eq]at h;obtain⟨A,l,u,B,C⟩:=Kz h.1 n;have s:=Qr k;simp only[ZTb]at s;simp only[Instr.fill,o];rw[if_neg<|by simp;omega]
    have f:(v.cells.zipIdx.foldl (λcs(c,j)=>cs.setIfInBounds (off+j) c) a).toList=a.toList.take off++v.cells.toList++a.toList.drop (off+sz):=by
     have:=CP v.cells.toList off a<|by simp[l];omega
     rw[<-Array.foldl_toList,Array.toList_zipIdx];simpa[l]using this
    obtain⟨b,t,z,r⟩:=y E (by rw[f];exact CQ k u off sz) e
    refine⟨b,t,z,?_⟩;rw[r];have:=congrArg List.length f;rw[ZTb]at this;rw[this];simp[l];omega
def CR{t:TypeId}{b:Array Field}{c:Value}(e:P.underlying t=some (.struct b))(d:YH P t=some c){places:Array (Nat×Nat)}(g:(b.mapM λf=>do pure (f.offset,<-sizeOf f.type):Sem<|Array<|Nat×Nat).run P w=.ok places w)
 {ps:Array (Nat×Value)} {a:Array Value} (h:Instr.fill (places[·]?) c.cells ps.toList=some a):(Instr.build t ps).run P w=.ok (.agg a) w:=by
 simp only[Instr.build,Sem.run_bind,Xu w d,Result.andThen_ok,run_underlying e,g,h,Sem.run_pure]
def run_places{a:List Field}{l:List Nat}(b:a.map (λf=>ZR P f.type)=l.map some):(a.mapM (λf=>do pure (f.offset,<-sizeOf f.type):Field->Sem (Nat×Nat))).run P w=.ok (a.zipWith (λf n=>(f.offset,n)) l) w:=by
 induction a generalizing l with
 |nil=>cases l<;>simp at b⊢
 |cons f a c=>
  cases l with
  |nil=>simp at b
  |cons n l=>
   simp only[ZSx,List.cons.injEq]at b;rw[List.mapM_cons];simp only[Sem.run_bind,QY w b.1,Result.andThen_ok,Sem.run_pure,c b.2];rfl
end Go.AM
namespace Go.AM
open Go
variable [Dr]
variable {P:Program} {E:Env} {T:Ty} {X:Xt} {w:World} {h:Hp} {fr:Fr} {a:Act}
def Xx(a:Nat->Option (Nat×Nat)):List (Nat×Operand)->List (Nat×Nat×Arg)->Bool
 |[],[]=>true
 |p::ps,q::qs=>decide (a p.1=some (q.1,q.2.1))&&Zr p.2 q.2.2&&Xx a ps qs
 |_,_=>false
def G5{d:Nat->Option (Nat×Nat)}(c:GlR E T X w)(e:FrR T X w fr a.tmps):∀{ps:List (Nat×Operand)}{b:List (Nat×Nat×Arg)},Xx d ps b=true->
 F2 (λ(p:Nat×Value)(q:Nat×Nat×AV)=>d p.1=some (q.1,q.2.1)/\R T X w q.2.2 p.2) (ps.map λp=>(p.1,a.eval p.2)) (b.map λq=>(q.1,q.2.1,ev E fr q.2.2))
 |[],[],_=>.nil
 |[],_::_,hh=>by simp[Xx]at hh
 |_::_,[],hh=>by simp[Xx]at hh
 |p::ps,q::b,hh=>by
  simp[Xx]at hh;exact .cons ⟨hh.1.1,evR c e hh.1.2⟩<|G5 c e hh.2
def KG(P:Program)(a:Array Field)(i:Nat):Option (Nat×Nat):=
 match a[i]? with
 |some f=>(ZR P f.type).map λn=>(f.offset,n)
 |none=>none
def KH(P:Program):List Field->Option (List Nat)
 |[]=>some []
 |f::fs=>
  match ZR P f.type,KH P fs with
  |some n,some l=>some<|n::l
  |_,_=>none
def Mr:∀{a:List Field}{l:List Nat},KH P a=some l->a.map (λf=>ZR P f.type)=l.map some
 |[],l,hh=>by simp[KH]at hh;subst hh;rfl
 |f::a,l,hh=>by
  unfold KH at hh;split at hh
  .next n b c d=>
   simp at hh;subst hh;simp[c,Mr d]
  .cases hh
def CS{a:List Field}{l:List Nat}(b:a.map (λf=>ZR P f.type)=l.map some)(i:Nat):((a.zipWith (λf n=>(f.offset,n)) l)[i]?:Option<|Nat×Nat)=KG P a.toArray i:=by
 induction a generalizing l i with
 |nil=>simp[KG]
 |cons f a c=>
  cases l with
  |nil=>simp at b
  |cons n l=>
   simp only[ZSx,List.cons.injEq]at b;cases i with
   |zero=>simp[KG,b.1]
   |succ i=>
    have:=c b.2 i;simpa[KG]using this
def CT{s:Sem Next}{t:TypeId}{r:Value}{z:List AV}{ps:Array (Nat×Operand)}{y:List (Nat×Nat×Arg)}{res:Zt}(m:M T X h w)(G:GlR E T X w)(F:FrR T X w fr a.tmps)
 (B:YH P t=some r) (q:Wr r.cells.toList z=true)
 (J:(∃o l,P.underlying t=some (.struct o)/\KH P o.toList=some l/\Xx (KG P o) ps.toList y=true)\/
  (∃n e sz,P.underlying t=some (.array n e)/\ZR P e=some sz/\Xx (λi=>some (i*sz,sz)) ps.toList y=true))
 (D:∀rv,(Instr.build t<|ps.map λ(i,x)=>(i,a.eval x)).run P w=.ok rv w->s.run P w=.ok (.value rv) w)
 (N:Zl ((fill z<|y.map λp=>(p.1,p.2.1,ev E fr p.2.2)).map .agg)=some res):Sim P T X h w s res:=by
 obtain⟨u,C,rfl⟩:=ZY N;simp only[ZSD]at C;obtain⟨L,c,rfl⟩:=C;have j:Rs T X w z r.cells.toList:=HU _ _ q;have d:(ps.map λ(i,x)=>(i,a.eval x)).toList=ps.toList.map λp=>(p.1,a.eval p.2):=by simp
 rcases J with⟨o,l,v,H,A⟩|⟨n,e,sz,v,hsz,A⟩
 .have g:=G5 (a:=a) G F A;obtain⟨b,O,Q,K⟩:=R7 g j c;have k:=Mr H;refine Sim.pure m (D (.agg b) ?_) ⟨b,rfl,Q⟩;refine CR (places:=(o.toList.zipWith (λf n=>(f.offset,n)) l).toArray) v B ?_ ?_
  .rw[Array.mapM_eq_mapM_toList];simp only[Sem.run_map,run_places k,Result.andThen_ok]
  .rw[d,<-O];congr 1
   funext i
   have:=CS k i;simpa using this
 .have g:=G5 (a:=a) G F A;obtain⟨b,O,Q,K⟩:=R7 (place:=λi=>some (i*sz,sz)) g j c
  refine Sim.pure m (D (.agg b) ?_) ⟨b,rfl,Q⟩;simp only[Instr.build,Sem.run_bind,Xu w B,Result.andThen_ok,run_underlying v,QY w hsz,d,O,Sem.run_pure]
def CU{sz:Nat}:∀{g:List (Nat×AV)}{es es':List AV},(∀e∈es,e.cells.length=sz)->YC sz es g=some es'->
 fill (flat es) (g.map λq=>(q.1*sz,sz,q.2))=some (flat es')/\es'.length=es.length/\∀e∈es',e.cells.length=sz:=by
 intro g;induction g with
 |nil=>intro es es' a b;simp[YC]at b;subst b;exact⟨rfl,rfl,a⟩
 |cons q g r=>
  intro es es' a b;obtain⟨i,v⟩:=q;simp only[YC]at b;cases d:(fits sz v&&Nat.blt i es.length)with
  |false=>rw[d]at b;cases b
  |true=>
   rw[d]at b;simp only[cond_true]at b;simp only[ZSq]at d;have c:i<es.length:=by simpa using d.2
   have s:v.cells.length=sz:=by
    have:=d.1;cases v<;>simp[fits]at this<;>simp[AV.cells,this]
   have j:∀e∈es.set i v,e.cells.length=sz:=by
    intro x n;rcases ZUD n with n|rfl
    .exact a x n
    .exact s
   obtain⟨t,u,p⟩:=r j b;have o:es[i]?=some es[i]:=ZSu c;have h:(flat<|es.take i).length=i*sz:=by
    rw[HX (sz:=sz)<|λe b=>a e<|ZTQ b];rw[ZTk,ZUB<|by omega]
   have l:flat es=flat (es.take i)++(es[i].cells++flat (es.drop<|i+1)):=by
    conv=>lhs;rw[Mk o]
    rw[KE,VH]
   have m:es[i].cells.length=sz:=a _<|ZUq c;have f:(flat es).take (i*sz)++v.cells++(flat es).drop (i*sz+sz)=flat (es.set i v):=by
    rw[Ml o,KE,VH,l,ZUr h,<-ZTF,ZUC h,ZUC m];simp
   refine⟨?_,by simpa using u,p⟩
   simp only[ZSx,fill];have k:i*sz+sz<=(flat es).length:=by
    rw[HX a,<-ZTo];exact ZTz _ c
   rw[d.1,show Nat.ble (i*sz+sz) (flat es).length=true from by simpa using k]
   simp only[ZTl,cond_true,f];exact t
def CV{s:Sem Next}{t e:TypeId}{n:Value}{z:AV}{fz ex:Bool}{sz b aid:Nat}{ps:Array (Nat×Operand)}{G:List (Nat×Arg)}{res:Zt}(m:M T X h w)(gl:GlR E T X w)(hf:FrR T X w fr a.tmps)
 (hX:∀r,X r->r<w.heap.size) (S:aid<=h.length) (hT:T aid=none) (h0:0<sz) (aa:b*sz<=16777216)
 (ht:P.underlying t=some (.slice e)) (Q:ZR P e=some sz) (hz:YH P e=some n) (N:Q3 n z=true)
 (hp:Xx (λi=>some (i*sz,sz)) ps.toList (G.map λq=>(q.1*sz,sz,q.2))=true)
 (hs:∀rv w',(Instr.buildSlice t b<|ps.map λ(i,x)=>(i,a.eval x)).run P w=.ok rv w'->s.run P w=.ok (.value rv) w')
 (d:(match(generalizing:=false) YC sz (List.replicate b z) (G.map λp=>(p.1,ev E fr p.2))with
 |some es=>
  bif fits sz z then
   bif fz then(bif Z4 es then Zl (some<|.isl false ex sz es)else none)
   else some (AV.sl aid b 0 b<|!ex,[],some (aid,AObj.row sz es))
  else none
 |none=>none)=some res):Sim P T X h w s res:=by
 cases v:YC sz (List.replicate b z) (G.map λp=>(p.1,ev E fr p.2))with
 |none=>rw[v]at d;cases d
 |some es=>
  rw[v]at d;dsimp only at d;cases f:fits sz z with
  |false=>rw[f]at d;cases d
  |true=>
   rw[f]at d;simp only[cond_true]at d;have V:R T X w z n:=Ws _ _ N;obtain⟨f1,f2,f3,f4,f5⟩:=Kz f V;have J:∀e∈List.replicate b z,e.cells.length=sz:=λx hx=>by rw[ZUF hx];exact f1
   obtain⟨g1,g2,g3⟩:=CU J v;have k:(ps.map λ(i,x)=>(i,a.eval x)).toList=ps.toList.map λp=>(p.1,a.eval p.2):=by simp
   have K:=G5 (a:=a) gl hf hp;obtain⟨B,g⟩:∃B,B=(Array.range<|b*sz).map (λi=>n.cells[i%n.cells.size]!):=⟨_,rfl⟩
   have A:B.toList=(List.replicate b n.cells.toList).flatten:=by rw[g,<-f2];exact Mq n.cells b
   have W:Rs T X w (flat<|List.replicate b z) B.toList:=by rw[A,Mo];exact Mp _ f3
   have hq:(List.map (λq:Nat×Nat×Arg=>(q.1,q.2.1,ev E fr q.2.2))<|G.map λq=>(q.1*sz,sz,q.2))=(G.map λp=>(p.1,ev E fr p.2)).map λq=>(q.1*sz,sz,q.2):=by simp
   rw[hq]at K;obtain⟨c,k1,k2,k3⟩:=R7 (place:=λi=>some (i*sz,sz)) K W g1
   have y:c.size=b*sz:=by rw[k3,g];simp
   have F:es.length=b:=by simpa using g2
   have l:(Instr.buildSlice t b<|ps.map λ(i,x)=>(i,a.eval x)).run P w=.ok (.slice (some ⟨w.heap.size,0,none⟩) b b) (w.alloc<|.cells c e):=by
    simp only[Instr.buildSlice,Sem.run_bind,run_underlying ht,Result.andThen_ok,QY w Q,Sem.run_ite];rw[if_neg<|by omega]
    by_cases hc:b*sz=0
    .rw[if_pos hc];have Y:B = #[]:=ZUE (by rw[g];simp;omega)
     have O:(Array.range<|b*sz).map (λi=>(#[]:Array Value)[i%(#[]:Array Value).size]!)=B:=by
      rw[Y,hc];exact ZUE<|by simp
     simp only[Sem.run_pure,Result.andThen_ok,O,k,k1];simp[newRow]
    .rw[if_neg hc];simp only[Xu w hz,Sem.run_bind,Result.andThen_ok,Sem.run_pure];rw[<-g];simp only[k,k1];simp[newRow]
   cases fz with
   |true=>
    simp only[cond_true]at d;cases o:Z4 es with
    |false=>rw[o]at d;cases d
    |true=>
     rw[o]at d;obtain⟨u,D,rfl⟩:=ZY d;cases D;have L:=UT T w<|.cells c e;refine⟨T,_,_,.inl<|hs _ _ l,L,Xr m L<|λr Z=>alloc_old w _<|m.lt r Z,?_⟩
     refine⟨_,_,_,rfl,F.symm,ZSr _,λ_=>rfl,o,?_⟩
     by_cases H:es=[]
     .exact .inl H
     .right;refine⟨w.heap.size,0,rfl,λZ=>by have:=m.lt _ Z;omega,λ_ U=>by have:=hX _ U;omega,by rw[World.size_alloc];omega,?_⟩
      exact Wq g3<|Xs (Yb L _ _ k2)<|λj u D=>by rw[KA,ZSE];simpa using D
   |false=>
    simp only[cond_false,Option.some.injEq]at d;subst d;refine HW (C:=b) (e:=e) (cs:=c) m hX S hT h0 (by omega) y g3 ⟨c.toList,k2,λj u D=>by simpa using D⟩ (hs _ _ l) ?_
    exact⟨⟨_,_,_,rfl⟩,sz,es.length,_,_,0,upd_same _ _ _,by omega,by omega,λ_=>⟨b,by omega,by omega,λ_=>rfl,.inl ⟨w.heap.size,rfl,by simp⟩⟩⟩
end Go.AM
namespace Go.AM
open Go
variable [Dr]
variable {P:Program} {E:Env} {T:Ty} {X:Xt} {w:World} {h:Hp} {fr:Fr} {a:Act}
def G6(m:M T X h w){x:AV}{v:Value}{ys:List AV}{sz:Nat}(n:R T X w x v)(a:Q2 h x=some ys)(i:Qq h sz x=true):
 ∃ad cap,v=.slice ad ys.length cap/\ys.length<=cap/\(ys=[]\/∃r o,ad=some ⟨r,o,none⟩/\ZA T X w sz r ys o):=by
 cases x<;>simp only[Q2,reduceCtorEq,Option.some.injEq]at a
 case nilsl=>
  subst a;have:v=.slice none 0 0:=n;exact⟨none,0,this,ZSr _,.inl rfl⟩
 case isl bw ex z es=>
  subst a;obtain⟨ad,c,cap,rfl,rfl,h2,O,Y,k⟩:=n;refine⟨ad,cap,rfl,h2,?_⟩;rcases k with k|⟨r,o,h6,h7,h8,h9,h10⟩
  .exact .inl k
  .by_cases d:es=[]
   .exact .inl d
   .right;simp only[Qq,ZTL,beq_iff_eq,ZTY]at i;have:z=sz:=i.resolve_right d;subst this;exact⟨r,o,h6,h10⟩
 case sl b g off c ex=>
  cases j:h[b]? with
  |none=>rw[j]at a;cases a
  |some o=>
   rw[j]at a;cases o<;>(first|(simp only[reduceCtorEq]at a;done)|dsimp only at a|skip)
   case row z es=>
    cases s:(es.length==g)with
    |false=>rw[s]at a;cases a
    |true=>
     rw[s]at a;simp only[cond_true,Option.some.injEq]at a;have l:es.length=g:=by simpa using s
     simp only[Qq,j,beq_iff_eq]at i;subst i;obtain⟨r,C,B,t,J,P,D⟩:=XV m j;obtain⟨_,u,G,W,U,L,f,V,N,A⟩:=n;rw[t]at f;cases f;obtain⟨cap,S,K,Q,y⟩:=A l.symm;have e:ys.length=c:=by subst a;simp;omega
     rcases y with⟨F,rfl,rfl⟩|⟨rfl,p,rfl,q8⟩
     .refine⟨_,cap,by rw[e],by omega,?_⟩
      right;obtain⟨cs,el,Z,H,E⟩:=D;refine⟨F,(B+off)*z,rfl,?_⟩;subst a;have:=UV c<|UU off E;rw[ZSY];exact this
     .have:c=0:=by omega
      subst this;have q:ys=[]:=ZUs.1 e;exact⟨p,0,by rw[e],by omega,.inl q⟩
def G7{ys:List AV}{sz cap:Nat}{ad:Option Addr}(e:ys=[]\/∃r o,ad=some ⟨r,o,none⟩/\ZA T X w sz r ys o):
 ∃us:List Value,(Builtin.firstCells sz ys.length<|.slice ad ys.length cap).run P w=.ok us.toArray w/\Rs T X w (flat ys) us/\us.length=ys.length*sz/\∀y∈ys,y.cells.length=sz:=by
 rcases e with rfl|⟨r,o,rfl,hrow⟩
 .refine⟨[],?_,rfl,by simp,by simp⟩
  cases ad with
  |none=>simp[Builtin.firstCells]
  |some p=>simp[Builtin.firstCells,loadCells,loadCellsFrom]
 .obtain⟨g,h,b⟩:=Kx hrow;obtain⟨us,d,a⟩:=Kv g;have f:=Qr a;refine⟨us,?_,a,by omega,b⟩
  simp only[Builtin.firstCells];rw[show ys.length*sz=us.length by omega]
  exact run_loadCells_list w ⟨r,o,none⟩ us<|λj u c=>by rw[addr_add];exact d j u c
def CW(a:Array Value)(n:Nat):(Builtin.zeroCells a n).size=n*a.size:=by simp[Builtin.zeroCells]
def Ms{es:List AV}{sz:Nat}(b:∀e∈es,e.cells.length=sz){ys:List AV}(c:∀e∈ys,e.cells.length=sz):∀e∈es++ys,e.cells.length=sz:=by
 intro e a;rcases ZSQ.1 a with a|a
 .exact b e a
 .exact c e a
def run_append_grow{t U e:TypeId}{sz aa:Nat}{i:TypeInfo}{D:Value}{ad bd:Option Addr}{es ys:List AV}{cap cap2:Nat}{ty:TypeId}
 (ht:P.underlying t=some (.slice e)) (m:∃d,P.underlying U=some d/\∀k,d≠.int k) (R:P.info? e=some i) (J:i.size=sz) (O:i.bytes=aa) (F:i.zero=some D) (H:D.cells.size=sz) (L:0<aa)
 (z:es=[]\/∃r o,ad=some ⟨r,o,none⟩/\ZA T X w sz r es o) (E:ys=[]\/∃r o,bd=some ⟨r,o,none⟩/\ZA T X w sz r ys o)
 (l:(es.length+ys.length)*aa<=140737488355328) (n:cap<es.length+ys.length):
 ∃(C:Nat)(a:Array Value)(us:List Value)(g:World),g={w with drawn:=w.drawn+1}/\es.length+ys.length<=C/\a.size=C*sz/\Rs T X w (flat<|es++ys) us/\(∀(j:Nat)(u:Value),us[j]?=some u->a[j]?=some u)/\(∀y∈es++ys,y.cells.length=sz)/\
  (Builtin.append_ #[t,U] ty #[.slice ad es.length cap,.slice bd ys.length cap2]).run P w=.ok (.slice (some ⟨w.heap.size,0,none⟩) (es.length+ys.length) C) (g.alloc<|.cells a e):=by
 obtain⟨Z,m,S⟩:=m;obtain⟨u1,a1,a2,a3,a4⟩:=G7 (P:=P) (cap:=cap) z;obtain⟨g,f⟩:∃g:World,g={w with drawn:=w.drawn+1}:=⟨_,rfl⟩
 have A:es=[]\/∃r o,ad=some ⟨r,o,none⟩/\ZA T X g sz r es o:=by
  rcases z with hh|⟨r,o,q1,q2⟩
  .exact .inl hh
  .exact .inr ⟨r,o,q1,HS (w:=w) (w':=g) (by subst f;exact(Step.refl T w).drew _ (λ_=>ZTu _)) sz r (by subst f;rfl) es o q2⟩
 have x:ys=[]\/∃r o,bd=some ⟨r,o,none⟩/\ZA T X g sz r ys o:=by
  rcases E with hh|⟨r,o,q1,q2⟩
  .exact .inl hh
  .exact .inr ⟨r,o,q1,HS (w:=w) (w':=g) (by subst f;exact(Step.refl T w).drew _ (λ_=>ZTu _)) sz r (by subst f;rfl) ys o q2⟩
 obtain⟨v1,b1,b2,b3,b4⟩:=G7 (P:=P) (cap:=cap) A;obtain⟨Y,c1,c2,c3,c4⟩:=G7 (P:=P) (cap:=cap2) x;have p:Stp T g T w:=by subst f;exact⟨ZSr _,λ_ c h=>⟨c,h,.refl c⟩,λ_ _ _ _=>rfl,λ_ _ _ _ _ h=>h,λ_ h=>.inl h⟩
 have N:es.length+ys.length<=140737488355328:=ZTa (Nat.le_mul_of_pos_right _ L) l;obtain⟨C,W⟩:∃C,C=(Question.appendCap (es.length+ys.length) cap e).cut (w.tape w.drawn<|Question.appendCap (es.length+ys.length) cap e):=⟨_,rfl⟩;have B:es.length+ys.length<=C:=by rw[W];simp only[Question.cut];omega
 obtain⟨a,b⟩:∃a,a=v1.toArray++Y.toArray++Builtin.zeroCells D.cells (C-(es.length+ys.length)):=⟨_,rfl⟩;refine⟨C,a,v1++Y,g,f,B,?_,?_,?_,Ms b4 c4,?_⟩
 .rw[b];simp only[Array.size_append,ZUW,CW,b3,c3,H];rw[<-ZSY,<-ZSY];congr 1;omega
 .rw[KE];exact QR (XT p _ _ b2)<|XT p _ _ c2
 .intro j u V;rw[b,ZUt (by
   have:=(ZSA.1 V).1;simpa using this)]
  simpa using V
 .have s:(sizeOf e).run P w=.ok sz w:=QY w (by simp[ZR,R,J])
  have v:∀w',(typeInfo e).run P w'=.ok i w':=λw'=>by simp[typeInfo,R]
  have K:∀w',(zeroValue e).run P w'=.ok D w':=λw'=>Xu w'<|by simp[YH,R,F]
  have Q:Builtin.nextslicecap (es.length+ys.length) cap*aa<=281474976710656:=by
   have:=Room.nextslicecap_le' n;have h2:Builtin.nextslicecap (es.length+ys.length) cap*aa<=2*(es.length+ys.length)*aa:=ZTz _ this;rw[Nat.mul_assoc]at h2;omega
  have hz:(match Z with| .int _=>true|_=>false)=false:=by
   cases Z<;>first|rfl|exact(S _ rfl).elim
  simp only[Builtin.append_,ZUg,ZT6,ZTp,Sem.run_bind,run_underlying ht,Result.andThen_ok,s,run_underlying m,Sem.run_pure];have M:¬(((es.length+ys.length:Nat):Int)>IntKind.i64.max/\(False\/i.bytes=0)):=by
   rintro⟨_,q|q⟩
   .exact q
   .omega
  have G:¬(Builtin.nextslicecap (es.length+ys.length) cap*i.bytes>2 ^ 48):=by
   rw[O];omega
  simp only[ZSH,if_false,Sem.run_bind,Builtin.lenOf,Sem.run_pure,Result.andThen_ok,Sem.run_ite];rw[if_neg (show ¬(es.length+ys.length<=cap)by omega)]
  simp only[Sem.run_bind,v,Result.andThen_ok,Sem.run_ite];rw[if_neg M];rw[if_neg G];simp only[run_choose,Question.forced,ZSH,if_false,Sem.run_bind,Result.andThen_ok,v,run_askRoom,<-W,<-f,b1,c1,ZSK,if_true,K];simp[newRow,b];rw[f]
def CX{t f e:TypeId}{sz:Nat}{ad bd:Option Addr}{n cap cap2:Nat}{ty:TypeId}
 (h:P.underlying t=some (.slice e)) (a:∃d,P.underlying f=some d/\∀k,d≠.int k) (b:ZR P e=some sz) (i:n<=cap):
 (Builtin.append_ #[t,f] ty #[.slice ad n cap,.slice bd 0 cap2]).run P w=.ok (.slice ad n cap) w:=by
 obtain⟨g,a,c⟩:=a;have l:(match g with| .int _=>true|_=>false)=false:=by
  cases g<;>first|rfl|exact(c _ rfl).elim
 have j:(Builtin.firstCells sz 0<|.slice bd 0 cap2).run P w=.ok #[] w:=by
  cases bd<;>simp[Builtin.firstCells,loadCells,loadCellsFrom]
 simp only[Builtin.append_,ZUg,ZT6,ZTp,Sem.run_bind,run_underlying h,Result.andThen_ok,QY w b,run_underlying a,Sem.run_pure];simp only[ZSH,if_false,Sem.run_bind,Builtin.lenOf,Sem.run_pure,Result.andThen_ok,Sem.run_ite];rw[if_pos (show n+0<=cap by omega)]
 simp only[ZSK,if_true,j,Sem.run_bind,Result.andThen_ok];cases ad with
 |none=>simp
 |some p=>simp[storeCells]
def run_append_room{t l e:TypeId}{sz:Nat}{bd:Option Addr}{ys:List AV}{r o n cap cap2:Nat}{cs:Array Value}{C:TypeId}{ty:TypeId}
 (x:P.underlying t=some (.slice e)) (b:∃d,P.underlying l=some d/\∀k,d≠.int k) (h:ZR P e=some sz)
 (g:ys=[]\/∃r o,bd=some ⟨r,o,none⟩/\ZA T X w sz r ys o) (f:∀(us:List Value),Rs T X w (flat ys) us->∀c∈us,c.oneCell'=true)
 (A:w.heap[r]?=some (.cells cs C (0,0))) (a:n+ys.length<=cap) (m:o+cap*sz<=cs.size):
 ∃us:List Value,Rs T X w (flat ys) us/\us.length=ys.length*sz/\(∀y∈ys,y.cells.length=sz)/\
  (Builtin.append_ #[t,l] ty #[.slice (some ⟨r,o,none⟩) n cap,.slice bd ys.length cap2]).run P w=.ok (.slice (some ⟨r,o,none⟩) (n+ys.length) cap) (w.setRow r (cs.toList.take (o+n*sz)++us++cs.toList.drop (o+n*sz+us.length)).toArray):=by
 obtain⟨p,b,j⟩:=b;have B:(match p with| .int _=>true|_=>false)=false:=by
  cases p<;>first|rfl|exact(j _ rfl).elim
 obtain⟨us,z,q,u,v⟩:=G7 (P:=P) (cap:=cap2) g;refine⟨us,q,u,v,?_⟩;have s:n*sz+us.length<=cap*sz:=by
  rw[u,<-ZSY];exact ZTz _ a
 have i:=run_storeCells_at (P:=P) r (o+n*sz) C us 0 cs w A (by omega)<|f us q
 simp only[Builtin.append_,ZUg,ZT6,ZTp,Sem.run_bind,run_underlying x,Result.andThen_ok,QY w h,run_underlying b,Sem.run_pure];simp only[ZSH,if_false,Sem.run_bind,Builtin.lenOf,Sem.run_pure,Result.andThen_ok,Sem.run_ite];rw[if_pos a];simp only[ZSK,if_true,z,Sem.run_bind,Result.andThen_ok];have:Addr.add ⟨r,o,none⟩ (n*sz)=⟨r,o+n*sz,none⟩:=by rw[addr_add]
 rw[this,i];simp
def R8{sz:Nat}:∀{ys:List AV},ys.all (fits sz)=true->∀(us:List Value),Rs T X w (flat ys) us->∀c∈us,c.oneCell'=true:=by
 intro ys e us f c m;obtain⟨j,h⟩:=ZTs.1 m;have o:=Qr f;have g:j<(flat ys).length:=by rw[o];exact(ZSA.1 h).1
 obtain⟨v,i,l⟩:=Wp j f<|ZSu g;rw[h]at i;cases i;have d:=ZUq g;simp only[flat,ZUi]at d;obtain⟨y,n,a⟩:=d;have b:=(ZSw.1 e) y n;have k:scalar (flat ys)[j]=true:=by
  cases y<;>simp[fits]at b<;>simp[AV.cells]at a
  case agg cs=>exact b.2 _ a
  case bot=>simp[scalar]at b
  case tup=>simp[scalar]at b
  all_goals (simp only[flat]at a⊢;rw[a];rfl)
 exact(HT k l).1
def CY{s:Sem Next}{t t2 e:TypeId}{sz aa aid:Nat}{i:TypeInfo}{Y:Value}{ad bd:Option Addr}{es ys:List AV}{cap cap2:Nat}{ty:TypeId}{fz:Bool}{rs:List Nat}{res:Zt}(m:M T X h w)(hX:∀r,X r->r<w.heap.size)
 (K:aid<=h.length) (V:T aid=none) (h0:0<sz)
 (ht:P.underlying t=some (.slice e)) (G:∃d,P.underlying t2=some d/\∀k,d≠.int k) (hi:P.info? e=some i) (J:i.size=sz) (R:i.bytes=aa) (E:i.zero=some Y) (H:Y.cells.size=sz) (Q:0<aa)
 (O:es=[]\/∃r o,ad=some ⟨r,o,none⟩/\ZA T X w sz r es o) (D:ys=[]\/∃r o,bd=some ⟨r,o,none⟩/\ZA T X w sz r ys o)
 (l:(es.length+ys.length)*aa<=140737488355328) (x:cap<es.length+ys.length)
 (Z:∀rv w',(Builtin.append_ #[t,t2] ty #[.slice ad es.length cap,.slice bd ys.length cap2]).run P w=.ok rv w'->s.run P w=.ok (.value rv) w')
 (p:Yp aid fz sz (es++ys) rs=some res):Sim P T X h w s res:=by
 obtain⟨C,a,us,b,g,k1,k2,k3,W,k5,n⟩:=run_append_grow (P:=P) (ty:=ty) ht G hi J R E H Q O D l x;have f:Step T w T b:=by subst g;exact(Step.refl T w).drew _ (λ_=>ZTu _)
 have N:M T X h b:=Xr m f<|λr _=>by subst g;rfl
 have B:∀r,X r->r<b.heap.size:=by subst g;exact hX
 have q:b.heap.size=w.heap.size:=by subst g;rfl
 have y:=Yb f _ _ k3;have c:(es++ys).length=es.length+ys.length:=by simp
 cases fz with
 |true=>
  simp only[Yp,cond_true]at p;cases v:Z4 (es++ys)with
  |false=>rw[v]at p;cases p
  |true=>
   rw[v]at p;simp only[cond_true,Option.some.injEq]at p;subst p;have A:=UT T b<|.cells a e;refine⟨T,_,_,.inl<|Z _ _ n,f.trans A,Xr N A<|λr S=>alloc_old b _<|N.lt r S,?_⟩
   refine⟨_,_,_,rfl,by rw[c],k1,λU=>by simp at U,v,.inr ⟨w.heap.size,0,rfl,λS=>by have:=m.lt _ S;omega,λ_ L=>by have:=hX _ L;omega,by rw[World.size_alloc];omega,?_⟩⟩
   refine Wq k5<|Xs (Yb A _ _ y)<|λj u F=>?_
   rw[<-q,KA,ZSE];exact W j u F
 |false=>
  simp only[Yp,cond_false,Option.some.injEq]at p;subst p;have z:Step T b (upd T aid<|.row sz (es++ys).length (some b.heap.size) C 0) (b.alloc<|.cells a e):=VD T b _ aid _ V<|by simp[TC.real]
  refine⟨upd T aid<|.row sz (es++ys).length (some b.heap.size) C 0,_,_,.inl<|Z _ _ n,f.trans z,?_,?_⟩
  .refine JQ N B aid _ _ _ K V (by simp[TC.real]) ⟨rfl,rfl,h0,by rw[c,ZSE];exact k1,a,e,Wo b _,k2,?_⟩
   rw[ZU8];exact Wq k5<|Xs (Yb z _ _ y)<|λj u F=>by rw[KA,ZSE];exact W j u F
  .refine⟨⟨_,_,_,rfl⟩,sz,_,_,C,0,upd_same _ _ _,ZSr _,by omega,λ_=>⟨C,by omega,by omega,λU=>by simp at U,.inl ⟨b.heap.size,rfl,?_⟩⟩⟩
   rw[c,q,ZU8]
def V2{p q:Option Addr}{n m c d:Nat}(a:Value.slice p n c=.slice q m d):p=q/\n=m/\c=d:=by
 simpa using a
set_option maxHeartbeats 400000 in
def CZ{s:Sem Next}{t t2 e:TypeId}{sz bb b:Nat}{i:TypeInfo}{zv:Value}{y:AV}{ty:TypeId}{es ys:List AV}{ad bd:Option Addr}{cap cap2:Nat}(m:M T X h w)(hX:∀r,X r->r<w.heap.size)
 (ht:P.underlying t=some (.slice e)) (V:∃d,P.underlying t2=some d/\∀k,d≠.int k) (hi:P.info? e=some i) (W:i.size=sz) (ag:i.bytes=bb) (ak:i.zero=some zv) (al:zv.cells.size=sz)
 (hb:h[b]?=some (.row sz es)) (aa:ys.all (fits sz)=true) (aw:0<ys.length) (ar:0<bb) (A:(es.length+ys.length)*bb<=140737488355328)
 (Y:R T X w (.sl b es.length 0 es.length false)<|.slice ad es.length cap) (aq:es=[]\/∃r o,ad=some ⟨r,o,none⟩/\ZA T X w sz r es o) (Q:ys=[]\/∃r o,bd=some ⟨r,o,none⟩/\ZA T X w sz r ys o)
 (hs:∀rv w',(Builtin.append_ #[t,t2] ty #[.slice ad es.length cap,.slice bd ys.length cap2]).run P w=.ok rv w'->s.run P w=.ok (.value rv) w'):
 Sim P T X h w s (.sl b (es.length+ys.length) 0 (es.length+ys.length) false,b::Zs y,some (b,.row sz<|es++ys)):=by
 have U:ZR P e=some sz:=by simp[ZR,hi,W]
 obtain⟨r,C,B,G,q0,hC,hr⟩:=XV m hb;obtain⟨_,az,g2,r2,C2,B2,S,q1,q2,q3⟩:=Y;rw[G]at S;cases S;obtain⟨ay,q4,q5,q6,q7⟩:=q3 rfl;have an:B+cap<=C:=by
  rcases q7 with⟨c,_,F⟩|⟨q8,p,F,_⟩
  .have:=(V2 F).2.2;omega
  .have:=(V2 F).2.2;omega
 have g:(es++ys).length=es.length+ys.length:=by simp
 by_cases H:es.length+ys.length<=cap
 .obtain⟨c,ap,rfl⟩:∃c,r=some c/\ad=some ⟨c,B*sz,none⟩:=by
   rcases q7 with⟨c,e1,F⟩|⟨q8,p,F,_⟩
   .exact⟨c,e1,by rw[(V2 F).1,ZTc]⟩
   .have:=(V2 F).2.2;omega
  subst ap;obtain⟨cs,el,L,N,k3⟩:=hr;obtain⟨us,c2,c3,c4,l⟩:=run_append_room (P:=P) (ty:=ty) (cap2:=cap2) ht V U Q (R8 aa) L H<|by rw[N,<-ZSY];exact ZTz _ an
  obtain⟨ab,os,ax,au,Z,af,am⟩:=HZ k3 L N hC;obtain⟨a,v⟩:∃a,a=(cs.toList.take (B*sz+es.length*sz)++us++cs.toList.drop (B*sz+es.length*sz+us.length)):=⟨_,rfl⟩;rw[<-v]at l;have K:a=ab++((os++us)++cs.toList.drop (B*sz+es.length*sz+us.length)):=by
   rw[v];have:cs.toList.take (B*sz+es.length*sz)=ab++os:=by
    rw[au,<-Z,ZUR,ZUr am]
   rw[this];simp[ZSN]
  have E:a.length=cs.size:=by
   rw[v];have ba:B*sz+es.length*sz+us.length<=cs.size:=by
    rw[c3,<-ZSY,<-ZSY,N];exact ZTz _<|by omega
   simp;omega
  have ah:(w.setRow c a.toArray).heap[c]?=some (.cells a.toArray el (0,0)):=setRow_heap w c cs a.toArray el (0,0) L;obtain⟨st,hm⟩:=JV (w':=w.setRow c a.toArray) (o:=.row sz<|es++ys) (c':=.row sz (es.length+ys.length) (some c) C B) m G rfl rfl ⟨rfl,.inr<|by omega⟩ (KD hb) rfl rfl rfl (setRow_size _ _ _)
   (λx Y=>setRow_other w c x _ Y)
   (λst=>⟨rfl,g,q0,by omega,a.toArray,el,ah,by simpa[E]using N,by
    refine Wq (Ms (Kx k3).2.2 c4) ?_;rw[KE];refine Xs (Yb st _ _<|QR af c2)<|λj u hj=>?_
    rw[Mm L];simp only[ZUg];rw[K,ZTd (by omega),Z,show B*sz+j-B*sz=j by omega,ZT2 (ZSA.1 hj).1]
    exact hj⟩)
  refine⟨_,_,_,.inl<|hs _ _ l,st,hm,⟨_,_,_,rfl⟩,sz,_,_,C,B,upd_same _ _ _,ZSr _,by omega,λ_=>⟨cap,by omega,by omega,λhh=>by simp at hh,.inl ⟨c,rfl,by simp⟩⟩⟩
 .obtain⟨C',q,us,n,z,L,N,k3,k4,k5,l⟩:=run_append_grow (P:=P) (ty:=ty) (cap:=cap) (cap2:=cap2) ht V hi W ag ak al ar aq Q A (by omega)
  have J:Step T w T n:=by subst z;exact(Step.refl T w).drew _ (λ_=>ZTu _)
  have m1:M T X h n:=Xr m J<|λr _=>by subst z;rfl
  have aj:∀r,X r->r<n.heap.size:=by subst z;exact hX
  have ae:n.heap.size=w.heap.size:=by subst z;rfl
  have av:=Yb J _ _ k3;have D:Step T n (upd T b<|.row sz (es++ys).length (some n.heap.size) C' 0) (n.alloc<|.cells q e):=by
   refine⟨rfl,rfl,rfl,by rw[World.size_alloc];omega,?_,λx Y _=>alloc_old n _ Y,?_,λ_=>ZSr _⟩
   .intro x cx f;by_cases ex:x=b
    .subst ex;rw[G]at f;cases f;exact⟨_,upd_same _ _ _,rfl,.inr<|by rw[g];omega⟩
    .exact⟨cx,by rw[upd_ne _ _ ex];exact f,.refl _⟩
   .intro x f;obtain⟨O,cx,h1,h2⟩:=f;by_cases ex:O=b
    .subst ex;rw[upd_same]at h1;cases h1;simp only[TC.real,Option.some.injEq]at h2;exact .inr<|by omega
    .rw[upd_ne _ _ ex]at h1;exact .inl ⟨O,cx,h1,h2⟩
  refine⟨_,_,_,.inl<|hs _ _ l,J.trans D,?_,?_⟩
  .refine WZ m1 b _ _ (KD hb) D (λO c' c _ h1 h2=>alloc_old n _<|m1.lt c ⟨O,c',h1,h2⟩) ?_ ⟨rfl,rfl,q0,by rw[g,ZSE];exact L,q,e,Wo n _,N,?_⟩
   .intro c ac;simp only[TC.real,Option.some.injEq]at ac;subst ac;exact⟨by rw[World.size_alloc];omega,λf=>by have:=aj _ f;omega,λO c' _ h1 h2=>by have:=m1.lt _ ⟨O,c',h1,h2⟩;omega⟩
   .rw[ZU8];exact Wq k5<|Xs (Yb D _ _ av)<|λj u hu=>by rw[KA,ZSE];exact k4 j u hu
  .refine⟨⟨_,_,_,rfl⟩,sz,_,_,C',0,upd_same _ _ _,by rw[g];omega,by omega,λ_=>⟨C',by omega,by omega,λhh=>by simp at hh,.inl ⟨n.heap.size,rfl,?_⟩⟩⟩
   rw[ae,ZU8]
def B0{s:Sem Next}{t t2 e:TypeId}{sz aj aid:Nat}{i:TypeInfo}{zv:Value}{x y:AV}{v u:Value}{ty:TypeId}{fz:Bool}{res:Zt}(m:M T X h w)(hX:∀r,X r->r<w.heap.size)
 (af:aid<=h.length) (hT:T aid=none)
 (ht:P.underlying t=some (.slice e)) (A:∃d,P.underlying t2=some d/\∀k,d≠.int k) (hi:P.info? e=some i) (D:i.size=sz) (aa:i.bytes=aj) (K:i.zero=some zv) (N:zv.cells.size=sz)
 (F:R T X w x v) (hy:R T X w y u)
 (hs:∀rv w',(Builtin.append_ #[t,t2] ty #[v,u]).run P w=.ok rv w'->s.run P w=.ok (.value rv) w')
 (c:Qt h aid fz sz aj x y=some res):Sim P T X h w s res:=by
 unfold Qt at c;cases f:Q2 h x with
 |none=>rw[f]at c;simp at c
 |some es=>
  cases E:Q2 h y with
  |none=>rw[f,E]at c;simp at c
  |some ys=>
   rw[f,E]at c;dsimp only at c;have ae:=Wv c;clear c;obtain⟨⟨z1,z2,h0,W,n⟩,c⟩:=ae;obtain⟨ad,cap,rfl,U,V⟩:=G6 m F f z1;obtain⟨bd,cap2,rfl,ac,J⟩:=G6 m hy E z2;have Y:ZR P e=some sz:=by simp[ZR,hi,D]
   cases q:ys.isEmpty with
   |true=>
    rw[q]at c;simp only[cond_true,Option.some.injEq]at c;subst c;have:ys=[]:=ZTY.1 q;subst this;exact Sim.pure m (hs _ _<|CX ht A Y U) F
   |false=>
    rw[q]at c;simp only[cond_false]at c;have S:0<ys.length:=by
     cases ys with
     |nil=>simp at q
     |cons _ _=>simp
    have j:∀(rs:List Nat){res:Zt},cap=es.length->Yp aid fz sz (es++ys) rs=some res->Sim P T X h w s res:=
     λrs res hc c=>CY (ty:=ty) m hX af hT h0 ht A hi D aa K N W V J n (by omega) hs c
    cases x<;>(first|(simp only[reduceCtorEq]at c;done)|dsimp only at c|skip)
    case nilsl=>
     simp only[Q2,Option.some.injEq]at f;subst f;have:Value.slice ad ([]:List AV).length cap=.slice none 0 0:=F;exact j _ (V2 this).2.2 c
    case isl bw ex z l=>
     cases ex with
     |false=>simp at c
     |true=>
      simp only[Q2,Option.some.injEq]at f;subst f;obtain⟨a2,Q,ab,G,q1,q2,q3,_⟩:=F;have G:=V2 G;have:=q3 rfl;exact j _ (by omega) c
    case sl b g off Q ex=>
     have a:=f;simp only[Q2]at a;cases H:h[b]? with
     |none=>rw[H]at a;cases a
     |some o=>
      rw[H]at a;cases o<;>(first|(simp only[reduceCtorEq]at a;done)|dsimp only at a|skip)
      case row z all=>
       cases hg:(all.length==g)with
       |false=>rw[hg]at a;cases a
       |true=>
        rw[hg]at a;simp only[cond_true,Option.some.injEq]at a;have L:all.length=g:=by simpa using hg
        cases ex with
        |true=>
         refine j _ ?_ c;obtain⟨_,ah,g2,r2,C2,B2,O,q1,q2,q3⟩:=F;obtain⟨r,C,B,ag,_,_,_⟩:=XV m H;rw[ag]at O;cases O;obtain⟨ab,q4,q5,q6,q7⟩:=q3 L.symm;have:=q6 rfl;rcases q7 with⟨r',_,G⟩|⟨q8,p,G,_⟩
         .have:=V2 G;omega
         .have:=V2 G;omega
        |false=>
         dsimp only at c;rw[H]at c;dsimp only at c;cases hk:(off==0&&Q==g&&ys.all (fits sz))with
         |false=>rw[hk]at c;cases c
         |true=>
          rw[hk]at c;simp only[cond_true,Option.some.injEq]at c;simp only[ZSq,beq_iff_eq]at hk;obtain⟨⟨e1,e2⟩,hfit⟩:=hk;have Z:es=all:=by rw[<-a,e1,ZTq,ZSR<|by omega]
          have hz:z=sz:=by simpa[Qq,H]using z1
          subst Z hz e1;subst L;subst e2;subst c;exact CZ (ty:=ty) m hX ht A hi D aa K N H hfit S W n F V J hs
end Go.AM
namespace Go.AM
open Go
variable [Dr]
variable {P:Program} {E:Env} {T:Ty} {X:Xt} {w:World} {h:Hp} {fr:Fr} {a:Act}
def B1{k:Nat}{x y:AV}(a:eq1 k x y=some true):x=y:=by
 rcases k with _|_|_|k
 .cases x<;>cases y<;>simp[eq1]at a
  rw[a]
 .cases x<;>cases y<;>simp[eq1]at a
  rw[a.1,a.2]
 .cases x<;>cases y<;>simp[eq1]at a
  rw[Ky]at a;rw[a]
 .simp[eq1]at a
def B2{k:Nat}{x:AV}{b:Bool}(a:eq1 k x x=some b):b=true:=by
 rcases k with _|_|_|k
 .cases x<;>simp[eq1]at a
  exact a
 .cases x<;>simp[eq1]at a
  exact a
 .cases x<;>simp[eq1]at a
  rw[<-a,(Ky _ _).2 rfl]
 .simp[eq1]at a
def R9:∀{c:List Nat}{a b:List AV},ZE c a b=some true->a=b
 |[],[],[],_=>rfl
 |[],[],_::_,h=>by simp[ZE]at h
 |[],_::_,_,h=>by simp[ZE]at h
 |_::_,[],_,h=>by simp[ZE]at h
 |_::_,_::_,[],h=>by simp[ZE]at h
 |k::c,x::a,y::b,h=>by
  simp only[ZE]at h;cases f:eq1 k x y with
  |none=>rw[f]at h;cases h
  |some e=>
   cases g:ZE c a b with
   |none=>simp[f,g]at h
   |some d=>
    simp only[f,g,Option.some.injEq,ZSq]at h;obtain⟨rfl,rfl⟩:=h;rw[B1 f,R9 g]
def Ra:∀{c:List Nat}{a:List AV}{b:Bool},ZE c a a=some b->b=true
 |[],[],_,h=>by simp[ZE]at h;exact h
 |[],_::_,_,h=>by simp[ZE]at h
 |_::_,[],_,h=>by simp[ZE]at h
 |k::c,x::a,b,h=>by
  simp only[ZE]at h;cases f:eq1 k x x with
  |none=>rw[f]at h;cases h
  |some d=>
   cases g:ZE c a a with
   |none=>simp[f,g]at h
   |some e=>
    simp only[f,g,Option.some.injEq]at h;rw[<-h,B2 f,Ra g];rfl
def Mt{c:Bool}{b:List Nat}{x y:AV}(a:Zz c b x y=some true):x=y:=by
 cases c with
 |true=>
  cases x<;>cases y<;>simp[Zz]at a
  rw[R9 a]
 |false=>
  simp only[Zz]at a;have:=R9 a;simpa using this
theorem B3{d:Bool}{c:List Nat}{x:AV}{b:Bool}(a:Zz d c x x=some b):b=true:=by
 cases d with
 |true=>
  cases x<;>simp[Zz]at a
  exact Ra a
 |false=>
  simp only[Zz]at a;exact Ra a
def Mu{g:Bool}{f:List Nat}{k:AV}:∀{c:List AV}{i:Nat}{r:Option Nat},ZW g f k c i=some r->∀x∈c,∃b,Zz g f k x=some b
 |[],_,_,_=>by simp
 |a::c,i,r,h=>by
  simp only[ZW]at h;cases j:Zz g f k a with
  |none=>rw[j]at h;cases h
  |some b=>
   rw[j]at h;cases l:ZW g f k c (i+1)with
   |none=>simp[l]at h
   |some e=>
    intro x d;rcases ZST.1 d with rfl|d
    .exact⟨b,j⟩
    .exact Mu l x d
def Mw{g:Bool}{f:List Nat}{k:AV}:∀{c:List AV}{i:Nat},ZW g f k c i=some none->∀x∈c,Zz g f k x=some false
 |[],_,_=>by simp
 |a::c,i,h=>by
  simp only[ZW]at h;cases j:Zz g f k a with
  |none=>rw[j]at h;cases h
  |some b=>
   rw[j]at h;cases l:ZW g f k c (i+1)with
   |none=>simp[l]at h
   |some e=>
    rw[l]at h;simp only[Option.some.injEq]at h;cases b with
    |true=>simp at h
    |false=>
     simp only[cond_false]at h;subst h;intro x d;rcases ZST.1 d with rfl|d
     .exact j
     .exact Mw l x d
def Mx{m:Bool}{l:List Nat}{k:AV}:∀{c:List AV}{i j:Nat},ZW m l k c i=some (some j)->i<=j/\∃x,c[j-i]?=some x/\Zz m l k x=some true
 |[],_,_,h=>by simp[ZW]at h
 |a::c,i,j,h=>by
  simp only[ZW]at h;cases n:Zz m l k a with
  |none=>rw[n]at h;cases h
  |some b=>
   rw[n]at h;cases o:ZW m l k c (i+1)with
   |none=>simp[o]at h
   |some g=>
    rw[o]at h;simp only[Option.some.injEq]at h;cases b with
    |true=>
     simp only[cond_true,Option.some.injEq]at h;subst h;exact⟨ZSr _,a,by simp,n⟩
    |false=>
     simp only[cond_false]at h;subst h;obtain⟨f,x,e,d⟩:=Mx o;refine⟨by omega,x,?_,d⟩
     rw[show j-i=(j-(i+1))+1 by omega]
     simpa using e
def fm(p:MapEntry->Bool):List MapEntry->Nat->Option (Nat×Value)
 |[],_=>none
 |e::es,i=>if p e then some (i,e.val)else fm p es<|i+1
def Rb{p:MapEntry->Bool}:∀{es:List MapEntry}{i:Nat}{r:Nat×Value},fm p es i=some r->i<=r.1/\∃e,es[r.1-i]?=some e/\p e=true/\e.val=r.2
 |[],_,_,h=>by simp[fm]at h
 |e::es,i,r,h=>by
  simp only[fm]at h;by_cases a:p e=true
  .rw[if_pos a]at h;cases h;exact⟨ZSr _,e,by simp,a,rfl⟩
  .rw[if_neg a]at h;obtain⟨f,c,d,b⟩:=Rb h;refine⟨by omega,c,?_,b⟩
   rw[show r.1-i=(r.1-(i+1))+1 by omega]
   simpa using d
theorem My{p:MapEntry->Bool}:∀{es:List MapEntry}{i:Nat},fm p es i=none->∀e∈es,p e=false
 |[],_,_=>by simp
 |e::es,i,h=>by
  simp only[fm]at h;by_cases b:p e=true
  .rw[if_pos b]at h;cases h
  .rw[if_neg b]at h;intro x a;rcases ZST.1 a with rfl|a
   .simpa using b
   .exact My h x a
def B4{t:TypeId}{d:TypeDesc}{x y:Value}{b c:Bool}(g:P.underlying t=some d)(a:(Op.equal t x y).run P w=.ok b w)(e:Instr.sameNow d x y=some c):c=b:=by
 have f:Op.equal t x y=Op.equalIn (9999+1) t x y:=rfl;rw[f]at a;cases d<;>cases x<;>cases y<;>simp[Instr.sameNow]at e
 .rw[run_equalIn_bool w 9999 t _ _ g]at a;simp only[Result.ok.injEq,and_true]at a;rw[<-e,<-a]
 .obtain⟨rfl,e⟩:=e;rw[run_equalIn_int w 9999 t _ _ _ _ g]at a;simp only[Result.ok.injEq,and_true]at a;rw[<-e,<-a]
 .rw[run_equalIn_string w 9999 t _ _ g]at a;simp only[Result.ok.injEq,and_true]at a;rw[<-e,<-a,<-beq_toListBytes]
def Mz{t:TypeId}{d:TypeDesc}{k:Value}{p:MapEntry->Bool}(a:P.underlying t=some d):∀{es:List MapEntry}{i:Nat}{r:Option (Nat×Value)},(∀e∈es,(Op.equal t k e.key).run P w=.ok (p e) w)->
 Instr.findNow d k es i=some r->r=fm p es i
 |[],_,r,_,h=>by simp[Instr.findNow]at h;rw[<-h];rfl
 |e::es,i,r,he,h=>by
  simp only[Instr.findNow]at h;cases g:Instr.sameNow d k e.key with
  |none=>rw[g]at h;cases h
  |some c=>
   rw[g]at h;have b:=B4 a (he e<|by simp) g
   cases c with
   |true=>
    simp only[Option.some.injEq]at h;rw[<-h];simp[fm,<-b]
   |false=>
    have:=Mz a (λx f=>he x<|by simp[f]) h
    rw[this];simp[fm,<-b]
def MA{t:TypeId}{k:Value}{p:MapEntry->Bool}:∀{es:List MapEntry}{i:Nat},(∀e∈es,(Op.equal t k e.key).run P w=.ok (p e) w)->
 (Instr.findAsking t k es i).run P w=.ok (fm p es i) w
 |[],_,_=>rfl
 |e::es,i,he=>by
  simp only[Instr.findAsking,Sem.run_bind,he e (by simp),Result.andThen_ok,Sem.run_ite,Sem.run_pure,fm]
  by_cases a:p e=true
  .rw[if_pos a,if_pos a]
  .rw[if_neg a,if_neg a];exact MA<|λx b=>he x<|by simp[b]
def run_findKey{t:TypeId}{d:TypeDesc}{k:Value}{p:MapEntry->Bool}(a:P.underlying t=some d){es:List MapEntry}(b:∀e∈es,(Op.equal t k e.key).run P w=.ok (p e) w):
 (Instr.findKey t k es).run P w=.ok (fm p es 0) w:=by
 simp only[Instr.findKey,Sem.run_bind,run_underlying a,Result.andThen_ok];cases c:Instr.findNow d k es 0 with
 |none=>exact MA b
 |some r=>rw[Mz a b c];rfl
def MB(d:Nat):∀(n:Nat)(t:TypeId)(c:List Nat),d<=n->tk P d t=some c->∀(g:Bool)(vs:List Value),vs.length=c.length->∀w:World,(Instr.checkKey g n t<|mkV P t vs).run P w=.ok () w:=by
 have H:(∀(n:Nat)(t:TypeId)(c:List Nat),d<=n->tk P d t=some c->∀(g:Bool)(vs:List Value),vs.length=c.length->∀w:World,(Instr.checkKey g n t<|mkV P t vs).run P w=.ok () w)/\
  (∀(n:Nat)(u:List Field)(off:Nat)(c:List Nat),d<=n+1->tkf P d u off=some c->∀(g:Bool)(xs:Array Value),off+c.length<=xs.size->∀w:World,
   (forIn u PUnit.unit (λf _=>do
    if f.name≠"_" then
     let a <-part f.type xs f.offset
     Instr.checkKey g n f.type a
     pure (ForInStep.yield PUnit.unit)
    else pure<|ForInStep.yield PUnit.unit):Sem PUnit).run P w=.ok PUnit.unit w):=by
  induction d with
  |zero=>exact⟨λn t c _ h=>by simp[tk]at h,λn u off c _ h=>by simp[tkf]at h⟩
  |succ d B=>
   constructor
   .intro n t c O b g vs A w;obtain⟨n,rfl⟩:∃k,n=k+1:=⟨n-1,by omega⟩
    have S:=b;unfold tk at b;obtain⟨p,v⟩:=VG S;rw[v]at b;cases p with
    |struct u=>
     simp only[ZU6,ZTX]at b;obtain⟨_,b⟩:=b;have G:ZF P t=true:=by simp[ZF,v]
     simp only[mkV,G,if_true,Instr.checkKey,Sem.run_bind,run_underlying v,Result.andThen_ok];rw[<-Array.forIn_toList];have:=B.2 n u.toList 0 c (by omega) b g vs.toArray (by simp[A]) w
     simp at this⊢;rw[this];rfl
    |array m e=>
     simp only at b;cases r:tk P d e with
     |none=>rw[r]at b;cases b
     |some l=>
      rw[r]at b;simp only[ZUe,Option.some.injEq]at b;obtain⟨s,rfl⟩:=b;have G:ZF P t=true:=by simp[ZF,v]
      obtain⟨p,o⟩:=VG r;have U:=λM=>UX r M
      simp only[mkV,G,if_true,Instr.checkKey,Sem.run_bind,run_underlying v,Result.andThen_ok];simp only[Std.Legacy.Range.forIn_eq_forIn_range',Std.Legacy.Range.size,Nat.sub_zero,Nat.add_one_sub_one,Nat.div_one];have z:vs.length=m*l.length:=by simpa using A
      have L:∀(y:List Nat),(∀i∈y,i<m)->(forIn y PUnit.unit (λi _=>do
       let a <-sizeOf e
       let a <-part e vs.toArray (i*a)
       Instr.checkKey g n e a
       pure (ForInStep.yield PUnit.unit)):Sem PUnit).run P w=.ok PUnit.unit w:=by
       intro y;induction y with
       |nil=>intro _;rfl
       |cons i y E=>
        intro C;have J:=C i<|by simp
        have x:i*l.length+l.length<=vs.toArray.size:=by
         simp only[ZUW,z,<-ZTo];exact ZTz _ J
        have F:=JT w o s vs.toArray U x;have K:=B.1 n e l (by omega) r g ((vs.toArray.toList.drop<|i*l.length).take l.length) (by simp at x⊢;omega) w
        simp only[List.forIn_cons,Sem.run_bind,QY w s,Result.andThen_ok,F,K,Sem.run_pure];exact E<|λj R=>C j<|by simp[R]
      have:=L (List.range' 0 m)<|λi C=>by simp at C;omega
      simp at this⊢;rw[this];rfl
    |bool=>simp[Instr.checkKey,run_underlying v]
    |int q=>simp[Instr.checkKey,run_underlying v]
    |string=>simp[Instr.checkKey,run_underlying v]
    |_=>simp at b
   .intro n u off c O b g xs A w;cases u with
    |nil=>rfl
    |cons f u=>
     unfold tkf at b;simp only[ZU6,not_or,Decidable.not_not]at b;obtain⟨⟨T,Q⟩,b⟩:=b;cases r:tk P d f.type with
     |none=>rw[r]at b;cases b
     |some l=>
      rw[r]at b;simp only[ZUe,ZSD]at b;obtain⟨s,D,h',rfl⟩:=b;obtain⟨p,o⟩:=VG r;have U:=λM=>UX r M
      simp only[ZSJ]at A;have F:=JT w o s xs U (off:=off)<|by omega
      have K:=B.1 n f.type l (by omega) r g ((xs.toList.drop off).take l.length) (by simp;omega) w
      have N:=B.2 n u (off+l.length) D (by omega) h' g xs (by omega) w
      subst Q;simp only[List.forIn_cons,Sem.run_bind,Sem.run_ite,ne_eq,T,not_false_eq_true,if_true,F,K,Result.andThen_ok,Sem.run_pure];exact N
 exact H.1
end Go.AM
namespace Go.AM
open Go
variable [Dr]
variable {P:Program} {E:Env} {T:Ty} {X:Xt} {w:World} {h:Hp} {fr:Fr} {a:Act}
def MC{j:TypeId}{l:List Nat}{k:AV}{e:Value}{b:Bool}(g:tk P 20 j=some l)(a:Zz (ZF P j) l k k=some b)(f:R T X w k e)(d:Bool)(w':World):(Instr.checkKey d 10000 j e).run P w'=.ok () w':=by
 cases h:ZF P j with
 |true=>
  rw[h]at a;cases k<;>simp[Zz]at a
  obtain⟨vs,rfl,f⟩:=f;have i:=Qr f;have c:=(X5 a).1;have:=MB (P:=P) 20 10000 j l (by decide) g d vs.toList (by omega) w'
  simp_all[mkV]
 |false=>
  rw[h]at a;have c:=(X5 a).1;have:=MB (P:=P) 20 10000 j l (by decide) g d [e] (by omega) w'
  grind [mkV]
def MD{kt:TypeId}{kk:List Nat}{k:AV}{o:Value}{f:List AV}{es:Array MapEntry}{l:List MapEntry}{r:Option Nat}(B:tk P 20 kt=some kk)(D:ZW (ZF P kt) kk k f 0=some r)(K:R T X w k o)
 (W:f.Nodup) (Y:List.Perm l es.toList) (c:Rs T X w f (l.map (·.key))):
 match r with
 |none=>(Instr.findKey kt o es.toList).run P w=.ok none w/\k ∉ f\/(Instr.findKey kt o es.toList).run P w=.ok none w/\∀b,Zz (ZF P kt) kk k k≠some b
 |some i=>∃(j:Nat)(e:MapEntry),(Instr.findKey kt o es.toList).run P w=.ok (some (j,e.val)) w/\es[j]?=some e/\l[i]?=some e/\f[i]?=some k:=by
 obtain⟨d,L⟩:=VG B;have s:=Mu D;have h:∀e∈es.toList,∃(j:Nat)(x:AV)(b:Bool),l[j]?=some e/\f[j]?=some x/\Zz (ZF P kt) kk k x=some b/\(Op.equal kt o e.key).run P w=.ok b w:=by
  intro e t;have E:=Y.mem_iff.2 t;obtain⟨j,V⟩:=ZTs.1 E;have u:=Qr c;have n:j<f.length:=by grind
  obtain⟨v,hv,Q⟩:=Wp j c<|ZSu n;obtain⟨b,J⟩:=s _<|ZUq n;exact⟨j,f[j],b,V,ZSu n,J,HV B J K<|by grind⟩
 obtain⟨p,m⟩:∃p:MapEntry->Bool,∀e,p e=(match(Op.equal kt o e.key).run P w with| .ok b _=>b|_=>false):=⟨_,λ_=>rfl⟩
 have H:∀e∈es.toList,(Op.equal kt o e.key).run P w=.ok (p e) w:=by
  intro e t;obtain⟨j,x,b,_,_,_,h4⟩:=h e t;rw[m,h4]
 have g:=run_findKey (P:=P) L H;cases r with
 |none=>
  have aa:=Mw D;have a:fm p es.toList 0=none:=by
   cases a:fm p es.toList 0 with
   |none=>rfl
   |some q=>
    obtain⟨_,e,h1,h2,h3⟩:=Rb a
    grind
  grind [B3]
 |some i=>
  obtain⟨_,x,h1,h2⟩:=Mx D;have G:=Mt h2;subst G;have u:=Qr c;have z:i<l.length:=by
   grind
  have Z:l[i]?=some l[i]:=ZSu z;have U:p l[i]=true:=by
   obtain⟨v,hv,Q⟩:=Wp i c h1;rw[m,HV B h2 K<|by grind]
  cases a:fm p es.toList 0 with
  |none=>grind [My]
  |some q=>
   rw[a]at g;obtain⟨_,e,q1,C,M⟩:=Rb a;have t:e∈es.toList:=ZSy q1;obtain⟨j,y,b,S,r2,O,N⟩:=h e t;rw[m,N]at C;simp only at C;subst C;have F:=Mt O;subst F;have A:i=j:=by
    grind [List.getElem?_inj]
   subst A;refine⟨q.1,e,?_,by grind,S,h1⟩
   rw[g,M]
def Rd{L G:TypeId}{M:List Nat}{k z:AV}{h c:Value}{n vs:List AV}{es:Array MapEntry}{l:List MapEntry}{f:Bool}{rs:List Nat}{res:Zt}(A:tk P 20 L=some M)(K:YH P G=some c)(o:Q3 c z=true)
 (d:QW (ZF P L) M f z rs n vs k=some res) (E:R T X w k h) (y:n.Nodup) (H:List.Perm l es.toList) (t:Rs T X w n (l.map (·.key))) (s:Rs T X w vs (l.map (·.val))) (D:Bool):
 ∃rv v,res=(v,rs,none)/\R T X w v rv/\(Instr.checkKey D 10000 L h).run P w=.ok () w/\
  (((Instr.findKey L h es.toList).run P w=.ok none w/\rv=if f=true then Value.tuple #[c,.bool false]else c)\/
   (∃j u,(Instr.findKey L h es.toList).run P w=.ok (some (j,u)) w/\rv=if f=true then Value.tuple #[u,.bool true]else u)):=by
 unfold QW at d;cases B:Zz (ZF P L) M k k with
 |none=>grind
 |some b=>
  cases C:ZW (ZF P L) M k n 0 with
  |none=>grind
  |some r=>
   rw[B,C]at d;have m:=MD (P:=P) A C E y H t;have g:=MC (P:=P) A B E D w;have x:R T X w z c:=Ws _ _ o;cases r with
   |none=>
    simp[Option.some.injEq]at d;have a:(Instr.findKey L h es.toList).run P w=.ok none w:=by
     rcases m with h1|h1<;>exact h1.1
    subst d;cases f with
    |true=>
     refine⟨_,_,rfl,⟨#[c,.bool false],rfl,⟨c,[.bool false],rfl,x,⟨_,[],rfl,rfl,rfl⟩⟩⟩,g,.inl ⟨a,rfl⟩⟩
    |false=>
     grind
   |some i=>
    simp[ZSD]at d;obtain⟨v,J,rfl⟩:=d;obtain⟨j,e,a,_,p,_⟩:=m;obtain⟨u,q,F⟩:=Wp i s J;rw[ZT7,p]at q;simp at q;subst q;cases f with
    |true=>
     refine⟨_,_,rfl,⟨#[e.val,.bool true],rfl,⟨e.val,[.bool true],rfl,F,⟨_,[],rfl,rfl,rfl⟩⟩⟩,g,.inr ⟨_,_,a,rfl⟩⟩
    |false=>
     grind
def B5{s:Sem Next}{J W L:TypeId}{Y:List Nat}{x k z:AV}{v N K:Value}{y:Bool}{res:Zt}(m:M T X h w)(A:P.underlying J=some (.map W L))(D:tk P 20 W=some Y)(n:YH P L=some K)(e:Q3 K z=true)
 (F:R T X w x v) (H:R T X w k N) (E:∀rv,(Instr.lookup J v N y).run P w=.ok rv w->s.run P w=.ok (.value rv) w)
 (d:(match(generalizing:=false) x with
 | .nilmap=>QW (ZF P W) Y y z [] [] [] k
 | .imap _ ks vs=>QW (ZF P W) Y y z [] ks vs k
 | .mp b=>
  match h[b]? with
  |some (.map ks vs)=>QW (ZF P W) Y y z [b] ks vs k
  |_=>none
 |_=>none)=some res):Sim P T X h w s res:=by
 cases x<;>(first|(simp[reduceCtorEq]at d)|dsimp only at d|skip)
 case nilmap=>
  have U:v=.map none:=F;obtain⟨rv,u,rfl,p,c,a⟩:=Rd (P:=P) (es:=#[]) (l:=[]) D n e d H ZUa .nil rfl rfl true;refine Sim.pure m (E rv ?_) p;rcases a with⟨Z,rfl⟩|⟨j,u,Z,rfl⟩
  all_goals simp_all[Instr.lookup,run_underlying,Xu]
 case imap bw ks vs=>
  obtain⟨r,es,f,l,rfl,Z,h2,S,t,g,B,G,C⟩:=F;obtain⟨rv,u,rfl,p,c,a⟩:=Rd (P:=P) D n e d H g B G C es.isEmpty;refine Sim.pure m (E rv ?_) p;rcases a with⟨i,rfl⟩|⟨j,u,i,rfl⟩
  .simp[Instr.lookup,run_underlying A,getObj,Sem.run,t.1,c,i,Xu w n]
  .simp only[Instr.lookup,Sem.run_bind,run_underlying A,Result.andThen_ok,Sem.run_pure,getObj,Sem.run,t.1,c,i]
 case mp b=>
  cases O:h[b]? with
  |none=>grind
  |some o=>
   rw[O]at d;cases o<;>(first|(simp only[reduceCtorEq]at d;done)|dsimp only at d|skip)
   case map ks vs=>
    obtain⟨r,es,f,l,Q,t,g,B,G,C⟩:=JS m O;obtain⟨V,q,rfl⟩:=F;rw[Q]at q;cases q;obtain⟨rv,u,rfl,p,c,a⟩:=Rd (P:=P) D n e d H g B G C es.isEmpty;refine Sim.pure m (E rv ?_) p;rcases a with⟨i,rfl⟩|⟨j,u,i,rfl⟩
    .simp only[Instr.lookup,Sem.run_bind,run_underlying A,Result.andThen_ok,Sem.run_pure,getObj,Sem.run,t.1,c,i,Xu w n]
    .simp only[Instr.lookup,Sem.run_bind,run_underlying A,Result.andThen_ok,Sem.run_pure,getObj,Sem.run,t.1,c,i]
def B6{k:Nat}{x:AV}{b:Bool}{v u:Value}(c:eq1 k x x=some b)(a:R T X w x v)(d:R T X w x u):v=u/\∀n,Instr.sameBits n v v=true:=by
 rcases k with _|_|_|k
 .cases x<;>simp[eq1]at c
  rw[Wu a,Wu d];simp_all[Instr.sameBits]
 .cases x<;>simp[eq1]at c
  rw[QS a,QS d];simp_all[Instr.sameBits]
 .cases x<;>simp[eq1]at c
  rw[Yj a,Yj d];refine⟨rfl,λn=>?_⟩
  have:∀s:ByteArray,(s==s)=true:=λs=>by grind [beq_toListBytes]
  cases n<;>simp[Instr.sameBits,this]
 simp_all[eq1]
def Rf:∀{c:List Nat}{a:List AV}{b:Bool}{vs us:List Value},ZE c a a=some b->Rs T X w a vs->Rs T X w a us->vs=us/\∀n,((vs.zip vs).all λ(x,y)=>Instr.sameBits n x y)=true
 |[],[],_,vs,us,_,hv,hu=>by rw[show vs=[]from hv,show us=[]from hu];simp
 |[],_::_,_,_,_,h,_,_=>by grind [ZE]
 |_::_,[],_,_,_,h,_,_=>by grind [ZE]
 |k::c,x::a,b,vs,us,h,hv,hu=>by
  simp[ZE]at h;cases s:eq1 k x x with
  |none=>grind
  |some p=>
   cases t:ZE c a a with
   |none=>grind
   |some l=>
    obtain⟨v,q,rfl,e,d⟩:=hv;obtain⟨u,j,rfl,g,f⟩:=hu;obtain⟨i,o⟩:=B6 s e g;obtain⟨m,r⟩:=Rf t d f
    simp_all
def B7{h:Bool}{i:List Nat}{k:AV}{b:Bool}{v u:Value}(a:Zz h i k k=some b)(d:R T X w k v)(c:R T X w k u)(w':World):(Instr.keyThatStays v u).run P w'=.ok u w'/\v=u:=by
 have g:v=u/\Instr.sameBits 10000 u u=true:=by
  cases h with
  |true=>
   cases k<;>simp[Zz]at a
   obtain⟨vs,rfl,j⟩:=d;obtain⟨us,rfl,l⟩:=c;obtain⟨e,f⟩:=Rf a j l
   simp_all[Instr.sameBits]
  |false=>
   obtain⟨e,f⟩:=Rf (vs:=[v]) (us:=[u]) a ⟨v,[],rfl,d,rfl⟩ ⟨u,[],rfl,c,rfl⟩
   simp_all
 simp_all[Instr.keyThatStays]
theorem B8{l:List MapEntry}{es:Array MapEntry}{i j:Nat}{e:MapEntry}{f:MapEntry->MapEntry}(n:List.Perm l es.toList)(p:es[j]?=some e)(h:l[i]?=some e):List.Perm (l.set i<|f e) (es.modify j f).toList:=by
 have k:j<es.toList.length:=by
  grind
 have d:i<l.length:=(ZSA.1 h).1;have o:l=l.take i++e::l.drop (i+1):=by
  have g:l[i]=e:=(ZSA.1 h).2;rw[<-g,ZUQ,ZTt]
 have c:es.toList[j]?=some e:=by grind
 have m:es.toList=es.toList.take j++e::es.toList.drop (j+1):=by
  have g:es.toList[j]=e:=(ZSA.1 c).2;rw[<-g,ZUQ,ZTt]
 have b:(es.modify j f).toList=es.toList.take j++f e::es.toList.drop (j+1):=by
  grind [List.modify_eq_take_cons_drop]
 have a:l.set i (f e)=l.take i++f e::l.drop (i+1):=by
  rw[ZVe,if_pos d]
 rw[b,a];have q:List.Perm (e::(l.take i++l.drop (i+1))) (e::(es.toList.take j++es.toList.drop (j+1))):=by
  refine(ZUu.symm).trans ?_;rw[<-o];refine n.trans ?_
  grind [List.perm_middle]
 have r:=q.cons_inv;exact ZUu.trans<|(List.Perm.cons _ r).trans ZUu.symm
def G8(w:World)(r:Nat)(o:Obj)(a:r<w.heap.size)(x:Nat):({w with heap:=w.heap.setIfInBounds r o}:World).heap[x]?=if x=r then some o else w.heap[x]?:=by
 grind
def ME{s:Sem Next}{mt kt vt:TypeId}{kk:List Nat}{x k y:AV}{v rk ry:Value}{res:Zt}(m:M T X h w)(ht:P.underlying mt=some (.map kt vt))(hk:tk P 20 kt=some kk)
 (hx:R T X w x v) (hr:R T X w k rk) (hy:R T X w y ry) (hs:∀w',(Instr.mapUpdate mt v rk ry).run P w=.ok () w'->s.run P w=.ok .skip w')
 (he:(match(generalizing:=false) x with
 | .mp b=>
  match h[b]? with
  |some (.map ks vs)=>Yo (ZF P kt) kk b ks vs k y
  |_=>none
 |_=>none)=some res):Sim P T X h w s res:=by
 cases x<;>(first|(simp[reduceCtorEq]at he)|dsimp only at he|skip)
 case mp b=>
  cases hb:h[b]? with
  |none=>grind
  |some o=>
   rw[hb]at he;cases o<;>(first|(simp[reduceCtorEq]at he)|dsimp only at he|skip)
   case map ks vs=>
    obtain⟨r,es,clock,l,hT,h4,hnd,h5,h6,h7⟩:=JS m hb;obtain⟨r2,hT2,rfl⟩:=hx;rw[hT]at hT2;cases hT2;have hrl:r<w.heap.size:=m.lt r ⟨b,_,hT,rfl⟩;unfold Yo at he;cases hd:Zz (ZF P kt) kk k k with
    |none=>grind
    |some bb=>
     cases hf:ZW (ZF P kt) kk k ks 0 with
     |none=>grind
     |some q=>
      rw[hd,hf]at he;have hkf:=MD (P:=P) hk hf hr hnd h5 h6;have hck:=MC (P:=P) hk hd hr false w;have fin:∀(o':Obj)(ks' vs':List AV)(es':Array MapEntry)(clock':Nat)(l':List MapEntry),o'=.map es' clock'->ZoV es' clock'->ks'.Nodup->List.Perm l' es'.toList->Rs T X w ks' (l'.map (·.key))->Rs T X w vs' (l'.map (·.val))->
       (Instr.mapUpdate mt (.map<|some r) rk ry).run P w=.ok () {w with heap:=w.heap.setIfInBounds r o'}->res=(.bot,[b],some (b,.map ks' vs'))->Sim P T X h w s res:=by
       intro o' ks' vs' es' clock' l' ho' hbo' hnd' hp' hks' hvs' hrun hres;subst hres;obtain⟨st,hm⟩:=JV (w':={w with heap:=w.heap.setIfInBounds r o'}) (o:=.map ks' vs') (c':=.map r) m hT rfl rfl (.refl _) (KD hb) rfl rfl rfl (by simp)
        (λx hx=>by rw[G8 w r o' hrl,if_neg hx])
        (λst=>by
         exact⟨es',clock',l',⟨by rw[G8 w r o' hrl,if_pos rfl,ho'],hbo'⟩,hnd',hp',Yb st _ _ hks',Yb st _ _ hvs'⟩)
       rw[KC hT]at st hm;exact⟨T,_,undef,.inr ⟨hs _ hrun,rfl⟩,st,hm,trivial⟩
      cases q with
      |none=>
       simp[Option.some.injEq]at he;have hrun:(Instr.findKey kt rk es.toList).run P w=.ok none w/\k ∉ ks:=by
        grind
       refine fin (.map (es.push {key:=rk,val:=ry,born:=clock})<|clock+1) (ks++[k]) (vs++[y]) _ _ (l++[{key:=rk,val:=ry,born:=clock}]) rfl (Zq3 h4.2 _ _) ?_ ?_ ?_ ?_ ?_ he.symm
       .grind
       .simpa using h5.append_right _
       .simpa using QR h6 (show Rs T X w [k] [rk]from⟨rk,[],rfl,hr,rfl⟩)
       .simpa using QR h7 (show Rs T X w [y] [ry]from⟨ry,[],rfl,hy,rfl⟩)
       .simp[Instr.mapUpdate,run_underlying ht,getObj,Sem.run,h4.1,hck,hrun.1,setObj]
      |some i=>
       simp only[Option.some.injEq]at he;obtain⟨j,e,hrun,hej,hli,hki⟩:=hkf;obtain⟨u,hu,hR⟩:=Wp i h6 hki;rw[ZT7,hli]at hu;simp at hu;subst hu;obtain⟨hst,hkey⟩:=B7 (P:=P) hd hR hr w;refine fin (.map (es.modify j λe=>{e with key:=rk,val:=ry}) clock) ks (vs.set i y) _ _ (l.set i {e with key:=rk,val:=ry}) rfl (Zq4 h4.2 _ _<|λ_=>rfl) hnd ?_ ?_ ?_ ?_ he.symm
       .grind [B8]
       .rw[ZSX];have:(l.map (·.key)).set i rk=l.map (·.key):=by
         have hg:(l.map (·.key))[i]?=some rk:=by grind
         apply ZTO
         grind
        grind
       .grind [List.map_set,Cg]
       .simp only[Instr.mapUpdate,Sem.run_bind,run_underlying ht,Result.andThen_ok,getObj,Sem.run,h4.1,hck,hrun,hej,ZT3,ZUv,hst,setObj]
def B9{s:Sem Next}{t:TypeId}{aid:Nat}{rs:List Nat}(m:M T X h w)(d:∀r,X r->r<w.heap.size)(a:aid<=h.length)(b:T aid=none)
 (c:∀rv w',(Instr.makeMap t none).run P w=.ok rv w'->s.run P w=.ok (.value rv) w'):Sim P T X h w s (.mp aid,rs,some (aid,.map [] [])):=by
 refine⟨upd T aid<|.map w.heap.size,_,_,.inl<|c (.map<|some w.heap.size) (w.alloc<|.map #[] 0)<|by rfl,VD T w _ aid _ b (by simp[TC.real]),?_,⟨_,upd_same _ _ _,rfl⟩⟩
 exact JQ m d aid _ _ _ a b (by simp[TC.real]) ⟨#[],0,[],⟨Wo w _,Zq2 0⟩,ZUa,.nil,rfl,rfl⟩
def Ba{s:Sem Next}{t:TypeId}{x:AV}{v:Value}{aid:Nat}{res:Zt}(m:M T X h w)(f:∀r,X r->r<w.heap.size)(b:aid<=h.length)(c:T aid=none)(e:P.underlying t=some .string)(g:R T X w x v)
 (d:∀rv w',(Instr.range t v).run P w=.ok rv w'->s.run P w=.ok (.value rv) w')
 (a:(match(generalizing:=false) x with
 | .str s=>some (AV.it aid,[],some (aid,AObj.iter s 0))
 |_=>none)=some res):Sim P T X h w s res:=by
 cases x<;>(first|(simp only[reduceCtorEq]at a)|dsimp only at a|skip)
 case str st=>
  simp[Option.some.injEq]at a;subst a;cases Yj g;refine⟨upd T aid<|.iter w.heap.size,_,_,.inl<|d (.pointer<|some ⟨w.heap.size,0,none⟩) (w.alloc<|.stringIter st 0)<|by simp[Instr.range,run_underlying e],VD T w _ aid _ c (by simp[TC.real]),?_,⟨_,upd_same _ _ _,rfl⟩⟩
  exact JQ m f aid _ _ _ b c (by simp[TC.real])<|Wo w _
def Bb{s:Sem Next}{t:TypeId}{x:AV}{v:Value}{res:Zt}(m:M T X h w)(n:R T X w x v)
 (p:∀rv w',(Instr.next v true t).run P w=.ok rv w'->s.run P w=.ok (.value rv) w')
 (c:(match(generalizing:=false) x with
 | .it b=>
  match h[b]? with
  |some (.iter s pos)=>
   bif Nat.blt pos s.size then
    some (AV.tup [.bool true,.int .i64 pos,.int .i32 (Utf8.decode s pos).1],[b],some (b,AObj.iter s<|pos+(Utf8.decode s pos).2))
   else some (AV.tup [.bool false],[b],none)
  |_=>none
 |_=>none)=some res):Sim P T X h w s res:=by
 cases x<;>(first|(simp[reduceCtorEq]at c)|dsimp only at c|skip)
 case it b=>
  cases k:h[b]? with
  |none=>grind
  |some o=>
   rw[k]at c;cases o<;>(first|(simp[reduceCtorEq]at c)|dsimp only at c|skip)
   case iter st pos=>
    obtain⟨r,i,l⟩:=Ce m k;obtain⟨y,e,rfl⟩:=n;rw[i]at e;cases e;have g:r<w.heap.size:=m.lt r ⟨b,_,i,rfl⟩;cases d:Nat.blt pos st.size with
    |false=>
     rw[d]at c;simp[Option.some.injEq]at c;subst c;have j:¬pos<st.size:=by
      intro u;rw[show Nat.blt pos st.size=true from by simpa using u]at d
      grind
     refine Sim.pure m (p (.tuple #[.bool false]) w ?_) ⟨_,rfl,⟨_,[],rfl,rfl,rfl⟩⟩;simp only[Instr.next,Sem.run_bind,getObj,Sem.run,l,Result.andThen_ok]
     rw[if_neg j];rfl
    |true=>
     rw[d]at c;simp[Option.some.injEq]at c;subst c;have j:pos<st.size:=by simp_all
     obtain⟨w',a⟩:∃w':World,w'={w with heap:=w.heap.setIfInBounds r (.stringIter st<|pos+(Utf8.decode st pos).2)}:=⟨_,rfl⟩
     obtain⟨f,q⟩:=JV (w':=w') (o:=.iter st<|pos+(Utf8.decode st pos).2) (c':=.iter r) m i rfl rfl (.refl _) (KD k) (by rw[a]) (by rw[a]) (by rw[a]) (by grind)
      (λx n=>by rw[a,G8 w r _ g,if_neg n])
      (λ_=>by
       show w'.heap[r]?=_
       rw[a,G8 w r _ g,if_pos rfl]) (hdr:=λ_=>by grind)
     rw[KC i]at f q;refine⟨T,w',_,.inl<|p (.tuple #[.bool true,.int .i64 pos,.int .i32 (Utf8.decode st pos).1]) w' ?_,f,q,⟨_,rfl,⟨_,_,rfl,rfl,⟨_,_,rfl,rfl,⟨_,_,rfl,rfl,rfl⟩⟩⟩⟩⟩;simp[Instr.next,getObj,Sem.run,l]
     rw[if_pos j];simp only[setObj,Sem.run,l];rw[a];rfl
end Go.AM
