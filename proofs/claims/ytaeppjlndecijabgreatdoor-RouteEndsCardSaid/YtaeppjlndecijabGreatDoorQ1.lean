/- The abstract machine and its soundness, part 1: what it computes, the program computes. No condition. -/
import Derived.WalkKit
import Derived.RangeFuncLeaves
import Derived.Below
import Derived.Laws.CopyRow
import Derived.ChangeKeysEq
import Derived.Room.Entries
set_option linter.unusedVariables false
set_option linter.unusedSimpArgs false
set_option linter.unusedSectionVars false
set_option linter.defProp false
namespace Go.AM
def ZXf:=@Bool.and_eq_true
def ZXg:=@List.length_map
def ZXh:=@Nat.le_refl
def ZXi:=@Nat.zero_le
def ZXj:=@List.getElem?_eq_getElem
def ZXk:=@Bool.true_and
def ZXl:=@List.cons_append
def ZXm:=@Bool.false_and
def ZXn:=@List.map_cons
def ZXo:=@List.nil_append
def ZXp:=@List.mem_of_getElem?
def ZXq:=@Bool.not_true
def ZXr:=@List.append_nil
def ZXs:=@List.all_eq_true
def ZXt:=@Option.map_eq_some_iff
def ZXu:=@List.getElem?_eq_some_iff
def ZXv:=@Bool.not_false
def ZXw:=@List.length_cons
def ZXx:=@List.map_append
def ZXy:=@List.length_append
def ZXz:=@List.take_of_length_le
def ZXA:=@Nat.zero_add
def ZXB:=@Bool.false_eq_true
def ZXC:=@Bool.and_true
def ZXD:=@List.map_nil
def ZXE:=@Bool.true_or
def ZXF:=@List.mem_cons
def ZXG:=@List.take_length
def ZXH:=@Nat.ble_eq_true_of_le
def ZXI:=@List.mem_map
def ZXJ:=@List.map_set
def ZXK:=@List.length_nil
def ZXL:=@Nat.le_of_ble_eq_true
def ZXM:=@Bool.not_eq_true'
def ZXN:=@Nat.mul_one
def ZXO:=@List.mem_singleton
def ZXP:=@List.drop_eq_getElem_cons
def ZXQ:=@Nat.add_mul
def ZXR:=@Option.map_some
def ZXS:=@List.drop_zero
def ZXT:=@Bool.and_false
def ZXU:=@Bool.false_or
def ZXV:=@List.mem_cons_self
def ZXW:=@Nat.le_trans
def ZXX:=@List.length_take
def ZXY:=@Bool.or_true
def ZXZ:=@Array.length_toList
def ZY0:=@List.append_assoc
def ZY1:=@List.not_mem_nil
def ZY2:=@List.mem_cons_of_mem
def ZY3:=@Bool.and_self
def ZY4:=@Int.toNat_natCast
def ZY5:=@List.foldl_cons
def ZY6:=@List.pairwise_cons
def ZY7:=@List.length_singleton
def ZY8:=@List.getElem?_map
def ZY9:=@List.mem_append
def ZYa:=@Nat.le_succ
def ZYb:=@Nat.add_zero
def ZYc:=@List.map_map
def ZYd:=@Array.getElem?_eq_some_iff
def ZYe:=@List.take_append_drop
def ZYf:=@List.getElem?_cons_zero
def ZYg:=@Nat.le_of_lt
def ZYh:=@Nat.lt_of_lt_of_le
def ZYi:=@List.all_cons
def ZYj:=@Nat.lt_or_ge
def ZYk:=@Nat.mul_le_mul_right
def ZYl:=@List.getElem?_append_right
def ZYm:=@List.take_add_one
def ZYn:=@List.getElem?_cons_succ
def ZYo:=@List.nodup_cons
def ZYp:=@List.getElem?_of_mem
def ZYq:=@Bool.or_false
def ZYr:=@Nat.mod_lt
def ZYs:=@Nat.blt_eq
def ZYt:=@List.length_filter_le
def ZYu:=@List.drop_drop
def ZYv:=@List.mem_iff_getElem?
def ZYw:=@List.getElem?_append_left
def ZYx:=@Nat.add_assoc
def ZYy:=@List.ext_getElem?
def ZYz:=@Nat.succ_mul
def ZYA:=@List.getElem_mem
def ZYB:=@Array.ext'
def ZYC:=@Array.getD_eq_getD_getElem?
def ZYD:=@List.drop_eq_nil_of_le
def ZYE:=@List.all_map
def ZYF:=@List.mem_filter
def ZYG:=@List.length_set
def ZYH:=@Bool.eq_false_iff
def ZYI:=@List.mem_of_mem_take
def ZYJ:=@List.nodup_append
def ZYK:=@List.getElem?_take_of_lt
def ZYL:=@List.map_congr_left
def ZYM:=@List.mem_append_left
def ZYN:=@Int.le_refl
def ZYO:=@Option.ite_none_left_eq_some
def ZYP:=@List.getElem?_eq_none
def ZYQ:=@Nat.eq_of_beq_eq_true
def ZYR:=@List.take_succ_eq_append_getElem
def ZYS:=@Bool.or_self
def ZYT:=@Nat.not_lt_zero
def ZYU:=@Nat.min_eq_left
def ZYV:=@List.getElem?_toArray
def ZYW:=@Array.getElem?_eq_getElem
def ZYX:=@Array.getElem?_append_left
def ZYY:=@Nat.zero_mul
def ZYZ:=@Option.isSome_iff_exists
def ZZ0:=@Option.bind_eq_some_iff
def ZZ1:=@Nat.add_one_ne_zero
def ZZ2:=@List.mem_map_of_mem
def ZZ3:=@List.pairwise_map
def ZZ4:=@List.filter_append
def ZZ5:=@Option.ite_none_right_eq_some
def ZZ6:=@Bool.not_eq_true
def ZZ7:=@List.set_eq_take_append_cons_drop
def ZZ8:=@List.mem_of_mem_drop
def ZZ9:=@Bool.or_eq_true
def ZZa:=@List.isEmpty_iff
def ZZb:=@List.nodup_nil
def ZZc:=@List.range_succ
def ZZd:=@Int.toNat_of_nonneg
def ZZe:=@List.find?_cons
def ZZf:=@List.set_append_right
def ZZg:=@List.take_left'
def ZZh:=@List.replicate_succ
def ZZi:=@Array.getElem?_toList
def ZZj:=@List.mem_flatMap
def ZZk:=@List.perm_middle
def ZZl:=@List.mem_of_find?_eq_some
def ZZm:=@Bool.eq_iff_iff
def ZZn:=@List.mem_append_right
def ZZo:=@Nat.mul_le_mul
def ZZp:=@List.flatMap_cons
def ZZq:=@List.pairwise_iff_getElem
def ZZr:=@List.any_cons
def ZZs:=@List.foldl_append
def ZZt:=@List.getElem?_take
def ZZu:=@List.isEmpty_cons
def ZZv:=@List.any_eq_false
def ZZw:=@List.find?_eq_none
def ZZx:=@Bool.false_ne_true
def ZZy:=@List.getElem_cons_drop
def ZZz:=@List.take_length_add_append
def ZZA:=@List.drop_append_of_le_length
def ZZB:=@Array.toList_range
def ZZC:=@List.size_toArray
def ZZD:=@List.getElem?_replicate
def ZZE:=@List.length_replicate
def ZZF:=@Array.toArray_toList
def ZZG:=@Array.getElem?_modify
def ZZH:=@List.getElem?_drop
def ZZI:=@List.eq_of_mem_replicate
def ZZJ:=@Option.isSome_none
def ZZK:=@Option.isSome_some
def ZZL:=@List.set_cons_zero
def ZZM:=@List.take_succ_cons
def ZZN:=@List.findIdx?_eq_some_iff_getElem
def ZZO:=@List.filter_sublist
def ZZP:=@Array.getElem?_setIfInBounds_ne
end Go.AM
namespace Go.AM
open Go
inductive AV where
 |bot
 |bool (b:Bool)
 |int (k:IntKind) (n:Int)
 |str (s:ByteArray)
 |nilp|nilsl|nilmap|nilfn|nilif
 |agg (cs:List AV)
 |tup (vs:List AV)
 |iptr (bw:Bool) (cs:List AV)
 |isl (bw ex:Bool) (sz:Nat) (es:List AV)
 |imap (bw:Bool) (ks vs:List AV)
 |ifc (t:TypeId) (v:AV)
 |clo (fn:Fn) (first cap:List AV)
 |ptr (b i off g:Nat)
 |sl (b g off len:Nat) (ex:Bool)
 |mp (b:Nat)
 |it (b:Nat)
 |yld (b:Nat)
 deriving Inhabited
def AV.cells:AV->List AV
 | .agg cs=>cs
 |v=>[v]
inductive Arg where
 |t (n:Nat)
 |c (v:AV)
 |f (fid:Nat)
 |g (gid:Nat)
 deriving Inhabited
inductive AOp where
 |mv (x:Arg)
 |own (sz:Nat)
 |pick (c a b:Arg)
 |box (sz:Nat) (x:Arg)
 |ibox (sz:Nat) (x:Arg)
 |build (z:List AV) (ps:List<|Nat×Nat×Arg)
 |bsl (fz ex:Bool) (sz:Nat) (z:AV) (len:Nat) (ps:List<|Nat×Arg)
 |load (n:Option Nat) (x:Arg)
 |ldr (n c:Nat) (x:Arg)
 |apr (sz bytes:Nat) (s x:Arg)
 |apa (sz bytes:Nat) (s x:Arg)
 |store (n:Nat) (a x:Arg)
 |nilck (x:Arg)
 |isn (neg:Bool) (x:Arg)
 |bin (op:BinOp) (x y:Arg)
 |eqv (neg ag:Bool) (ks:List Nat) (x y:Arg)
 |un (op:UnOp) (x:Arg)
 |conv (k:Option IntKind) (x:Arg)
 |fld (n:Option Nat) (off:Nat) (x:Arg)
 |fadr (off:Nat) (x:Arg)
 |iadr (sz:Nat) (x i:Arg)
 |aadr (sz len:Nat) (x i:Arg)
 |sidx (x i:Arg)
 |aidx (n:Option Nat) (sz len:Nat) (x i:Arg)
 |ext (x:Arg) (i:Nat)
 |mkf (fn:Fn) (first cap:List Arg)
 |mkm
 |ins (ag:Bool) (ks:List Nat) (m k v:Arg)
 |mupd (ag:Bool) (ks:List Nat) (m k v:Arg)
 |lkp (ag:Bool) (ks:List Nat) (ok:Bool) (z:AV) (m k:Arg)
 |mks (sz:Nat) (z:AV) (bytes:Nat) (len cap:Arg)
 |slc (sz:Nat) (x:Arg) (lo hi mx:Option Arg)
 |ssl (x:Arg) (lo hi:Option Arg)
 |len (k:Nat) (x:Arg)
 |app (fz:Bool) (sz bytes:Nat) (s x:Arg)
 |rng (x:Arg)
 |nxt (x:Arg)
 |mkif (t:TypeId) (x:Arg)
 |mm (mx:Bool) (x y:Arg)
 |asl (n:Nat) (x y:Arg)
 |rel (x:Arg)
 |call (pure:Bool) (f:Nat) (args:List Arg)
 |callv (pure:Bool) (f:Arg) (args:List Arg)
 |bad
 deriving Inhabited
structure AOper where
 dst:Option Nat
 op:AOp
 guard:Option<|Nat×Bool
 deriving Inhabited
inductive ACode where
 |skip
 |region (ops:List AOper)
 |draw (un:List<|List Nat) (p1 p2:List AOper)
 |seq (a b:ACode)
 |cond (c:Arg) (thn els:ACode)
 |block (id:Nat) (body:ACode)
 |loop (live:List Nat) (body:ACode)
 |rangeFunc (f:Arg) (params:List Nat) (assign body:ACode)
 |keep (live:List Nat) (body:ACode)
 |zbox (d sz:Nat) (z:AV) (ps:List<|Nat×Nat)
 |nils (s d off:Nat) (p:Arg)
 |ghost (d off s:Nat) (body:ACode)
 |exit (id:Nat)
 |ret
 |bad
 deriving Inhabited
inductive AExit where
 |normal
 |exit (id:Nat)
 |ret
 deriving DecidableEq
abbrev Fr:=List<|Nat×AV
inductive AObj where
 |dead
 |gone
 |row (sz:Nat) (es:List AV)
 |map (ks vs:List AV)
 |iter (s:ByteArray) (pos:Nat)
 |loop (st:LoopState) (pend:AExit) (fr:Fr) (ps:List Nat) (assign body:ACode)
 deriving Inhabited
inductive TC where
 |row (sz g:Nat) (r:Option Nat) (C B:Nat)
 |map (r:Nat)
 |iter (r:Nat)
 |loop (r:Nat)
abbrev Ty:=Nat->Option TC
def TC.real:TC->Option Nat
 | .row _ _ r _ _=>r
 | .map r=>some r
 | .iter r=>some r
 | .loop r=>some r
structure Xt where
 p:Nat->Prop
 cr:Nat->Code->ACode->Prop
instance:CoeFun Xt (λ_=>Nat->Prop):=⟨Xt.p⟩
def Ty.rng(T:Ty)(r:Nat):Prop:=∃b c,T b=some c/\c.real=some r
mutual
def clean:AV->Bool
 | .agg cs=>Z4 cs
 | .tup cs=>Z4 cs
 | .iptr bw _=>!bw
 | .isl bw _ _ _=>!bw
 | .imap bw _ _=>!bw
 | .ifc _ v=>clean v
 | .clo _ first cap=>Z4 first&&Z4 cap
 | .ptr .. | .sl .. | .mp _| .it _| .yld _=>false
 |_=>true
def Z4:List AV->Bool
 |[]=>true
 |v::r=>clean v&&Z4 r
end
mutual
def Zy:AV->Bool
 | .agg cs=>Zi cs
 | .tup cs=>Zi cs
 | .ifc _ v=>Zy v
 | .clo _ first cap=>Zi first&&Zi cap
 | .ptr .. | .sl .. | .mp _| .it _| .yld _=>false
 |_=>true
def Zi:List AV->Bool
 |[]=>true
 |v::r=>Zy v&&Zi r
end
def okc:Bool->List AV->Bool
 |false,cs=>Z4 cs
 |true,cs=>Zi cs
def World.at(w:World)(r o:Nat):Option Value:=w.cell? ⟨r,o,none⟩
def ZoV(es:Array MapEntry)(a:Nat):Prop:=(∀x∈es.toList,x.born<a)/\(es.toList.map (·.born)).Nodup
def Zpj(w:World)(r:Nat)(es:Array MapEntry)(a:Nat):Prop:=w.heap[r]?=some (.map es a)/\ZoV es a
def Zq2(a:Nat):ZoV #[] a:=⟨by simp,by simp⟩
def Zq3{es:Array MapEntry}{clock:Nat}(h:ZoV es clock)(key val:Value):ZoV (es.push {key,val,born:=clock}) (clock+1):=by
 have⟨h1,h2⟩:=h;refine⟨?_,?_⟩
 all_goals grind
def Zq4{es:Array MapEntry}{a:Nat}(h:ZoV es a)(i:Nat)(f:MapEntry->MapEntry)(g:∀e,(f e).born=e.born):ZoV (es.modify i f) a:=by
 have b:(es.modify i f).toList.map (·.born)=es.toList.map (·.born):=by
  apply ZYy
  grind
 refine⟨λx d=>?_,by rw[b];exact h.2⟩
 have:x.born∈(es.modify i f).toList.map (·.born):=ZXI.2 ⟨x,d,rfl⟩;rw[b]at this;have⟨y,c,e⟩:=ZXI.1 this;rw[<-e];exact h.1 y c
mutual
def R(T:Ty)(X:Xt)(w:World):AV->Value->Prop
 | .bot,_=>True
 | .bool b,v=>v=.bool b
 | .int k n,v=>v=.int k n
 | .str s,v=>v=.string s
 | .nilp,v=>v=.pointer none
 | .nilsl,v=>v=.slice none 0 0
 | .nilmap,v=>v=.map none
 | .nilfn,v=>v=.nilFunc
 | .nilif,v=>v=.nilIface
 | .agg cs,v=>∃vs:Array Value,v=.agg vs/\Rs T X w cs vs.toList
 | .tup cs,v=>∃vs:Array Value,v=.tuple vs/\Rs T X w cs vs.toList
 | .iptr bw cs,v=>∃r o,v=.pointer (some ⟨r,o,none⟩)/\¬T.rng r/\(bw=false->¬X r)/\okc bw cs=true/\r<w.heap.size/\ZV T X w r cs o
 | .isl bw ex sz es,v=>∃a d cap,v=.slice a d cap/\d=es.length/\d<=cap/\(ex=true->cap=d)/\okc bw es=true/\
  (es=[]\/∃r o,a=some ⟨r,o,none⟩/\¬T.rng r/\(bw=false->¬X r)/\r<w.heap.size/\ZA T X w sz r es o)
 | .imap bw ks vs,v=>∃r es h l,v=.map (some r)/\¬T.rng r/\(bw=false->¬X r)/\(okc bw ks=true/\okc bw vs=true)/\Zpj w r es h/\ks.Nodup/\List.Perm l es.toList/\
  Rs T X w ks (l.map (·.key))/\Rs T X w vs (l.map (·.val))
 | .ifc t x,v=>∃u,v=.iface t u/\R T X w x u
 | .clo fn first cap,v=>∃f c:Array Value,v=.func fn f c/\Rs T X w first f.toList/\Rs T X w cap c.toList
 | .ptr b i off g,v=>(∃p,v=.pointer p)/\∃sz e r C B,T b=some (.row sz e r C B)/\g<=e/\(g=e->∃j,r=some j/\i<g/\v=.pointer (some ⟨j,(B+i)*sz+off,none⟩))
 | .sl b g off d ex,v=>(∃p l c,v=.slice p l c)/\∃sz e r C B,T b=some (.row sz e r C B)/\g<=e/\off+d<=g/\
  (g=e->∃cap,d<=cap/\B+off+cap<=C/\(ex=true->cap=d)/\((∃j,r=some j/\v=.slice (some ⟨j,(B+off)*sz,none⟩) d cap)\/(cap=0/\∃p,v=.slice p 0 0/\(r=none->p=none))))
 | .mp b,v=>∃r,T b=some (.map r)/\v=.map (some r)
 | .it b,v=>∃r,T b=some (.iter r)/\v=.pointer (some ⟨r,0,none⟩)
 | .yld b,v=>∃r,T b=some (.loop r)/\v=.func (.yield r) #[] #[]
def Rs(T:Ty)(X:Xt)(w:World):List AV->List Value->Prop
 |[],vs=>vs=[]
 |a::as,vs=>∃v b,vs=v::b/\R T X w a v/\Rs T X w as b
def ZV(T:Ty)(X:Xt)(w:World)(r:Nat):List AV->Nat->Prop
 |[],_=>True
 |a::as,o=>(∃v,World.at w r o=some v/\R T X w a v)/\ZV T X w r as (o+1)
def ZA(T:Ty)(X:Xt)(w:World)(sz r:Nat):List AV->Nat->Prop
 |[],_=>True
 | .agg cs::es,o=>cs.length=sz/\ZV T X w r cs o/\ZA T X w sz r es (o+sz)
 |a::es,o=>sz=1/\(∃v,World.at w r o=some v/\R T X w a v)/\ZA T X w sz r es (o+sz)
end
def get:Fr->Nat->AV
 |[],_=>.bot
 |(k,v)::r,t=>bif k==t then v else get r t
def put(fr:Fr)(t:Nat)(v:AV):Fr:=(t,v)::fr
def ZB(fr:Fr)(d:Option Nat)(v:AV):Fr:=
 match d with
 |some t=>put fr t v
 |none=>fr
def Z2(live:List Nat)(fr:Fr):Fr:=live.map λt=>(t,get fr t)
inductive ResVar where
 |tmp (t:Nat)
 |cell (t:Nat) (n:Option Nat)
structure AFun where
 res:List ResVar
 body:ACode
abbrev Hp:=List AObj
structure Env where
 fn:Nat->Option AFun
 gl:Nat->AV
 sum:Nat->Option (List AV->Hp->Option (AV×Hp))
 rs:Nat->Option (List AV->Nat->List AV->Option (List AV)):=λ_=>none
def ev(E:Env)(fr:Fr):Arg->AV
 | .t n=>get fr n
 | .c v=>v
 | .f f=>.clo (.func f) [] []
 | .g g=>E.gl g
def takeC:Option Nat->List AV->Option AV
 |none,c::_=>some c
 |none,[]=>none
 |some n,cs=>bif Nat.ble n cs.length then some (.agg<|cs.take n)else none
def Q2(h:Hp):AV->Option (List AV)
 | .nilsl=>some []
 | .isl _ _ _ es=>some es
 | .sl b g off len _=>
  match h[b]? with
  |some (.row _ es)=>bif es.length==g then some ((es.drop off).take len)else none
  |_=>none
 |_=>none
def Zs:AV->List Nat
 | .sl b _ _ _ _=>[b]
 | .ptr b _ _ _=>[b]
 | .mp b=>[b]
 | .it b=>[b]
 |_=>[]
def Z3(a b:ByteArray):Bool:=a.data.toList==b.data.toList
def WW(a b:ByteArray):Bool:=Op.bytesLess a.data.toList b.data.toList
def eq1:Nat->AV->AV->Option Bool
 |0,.bool a,.bool b=>some<|a==b
 |1,.int k a,.int j b=>if k=j then some (a==b)else none
 |2,.str a,.str b=>some<|Z3 a b
 |_,_,_=>none
def ZE:List Nat->List AV->List AV->Option Bool
 |[],[],[]=>some true
 |k::ks,x::xs,y::ys=>
  match eq1 k x y with
  |none=>none
  |some a=>
   match ZE ks xs ys with
   |none=>none
   |some b=>some<|a&&b
 |_,_,_=>none
def Zz(ag:Bool)(c:List Nat)(x y:AV):Option Bool:=
 match ag with
 |true=>
  match x,y with
  | .agg a,.agg b=>ZE c a b
  |_,_=>none
 |false=>ZE c [x] [y]
def JO(c:BinOp)(k:IntKind)(a b:Int):Option AV:=
 match c with
 | .add=>some<|.int k<|k.wrap<|a+b
 | .sub=>some<|.int k<|k.wrap<|a-b
 | .mul=>some<|.int k<|k.wrap<|a*b
 | .quo=>if b=0 then none else some<|.int k<|k.wrap<|a.tdiv b
 | .rem=>if b=0 then none else some<|.int k<|a.tmod b
 | .and=>some<|.int k<|k.wrap (BitVec.ofInt k.bits a &&& BitVec.ofInt k.bits b).toNat
 | .or=>some<|.int k<|k.wrap (BitVec.ofInt k.bits a ||| BitVec.ofInt k.bits b).toNat
 | .xor=>some<|.int k<|k.wrap (BitVec.ofInt k.bits a ^^^ BitVec.ofInt k.bits b).toNat
 | .eql=>some<|.bool<|a==b
 | .neq=>some<|.bool<|a != b
 | .lss=>some<|.bool<|decide (a<b)
 | .leq=>some<|.bool<|decide (a<=b)
 | .gtr=>some<|.bool<|decide (a>b)
 | .geq=>some<|.bool<|decide (a>=b)
 |_=>none
def UR(c:BinOp)(a b:ByteArray):Option AV:=
 match c with
 | .add=>if a.size+b.size<=4611686018427387904 then some (.str<|a++b)else none
 | .eql=>some<|.bool<|Z3 a b
 | .neq=>some<|.bool<|!Z3 a b
 | .lss=>some<|.bool<|WW a b
 | .leq=>some<|.bool<|WW a b||Z3 a b
 | .gtr=>some<|.bool<|!(WW a b||Z3 a b)
 | .geq=>some<|.bool<|!WW a b
 |_=>none
def YZ(c:BinOp):AV->AV->Option AV
 | .int k a,.int j b=>
  match c with
  | .shl=>if b<0 then none else some<|.int k<|k.wrap<|a*2 ^ (min b.toNat k.bits)
  | .shr=>if b<0 then none else some<|.int k<|a.fdiv<|2 ^ (min b.toNat k.bits)
  |_=>if k=j then JO c k a b else none
 | .str a,.str b=>UR c a b
 |_,_=>none
def Vy(a:UnOp):AV->Option AV
 | .bool b=>match a with| .not=>some (.bool !b)|_=>none
 | .int k n=>match a with| .neg=>some (.int k<|k.wrap<|0-n)|_=>none
 |_=>none
def scalar:AV->Bool
 | .bot| .agg _| .tup _=>false
 |_=>true
def fits(sz:Nat):AV->Bool
 | .agg cs=>cs.length==sz&&cs.all scalar
 |v=>scalar v&&sz==1
def fill(a:List AV):List (Nat×Nat×AV)->Option (List AV)
 |[]=>some a
 |(off,sz,v)::r=>
  let cs:=v.cells
  bif fits sz v&&Nat.ble (off+sz) a.length then fill (a.take off++cs++a.drop (off+sz)) r else none
def YC(sz:Nat)(es:List AV):List (Nat×AV)->Option (List AV)
 |[]=>some es
 |(i,v)::r=>bif fits sz v&&Nat.blt i es.length then YC sz (es.set i v) r else none
def ZW(ag:Bool)(c:List Nat)(k:AV):List AV->Nat->Option (Option Nat)
 |[],_=>some none
 |a::r,i=>
  match Zz ag c k a with
  |none=>none
  |some b=>
   match ZW ag c k r (i+1)with
   |none=>none
   |some x=>some<|bif b then some i else x
def numOf:AV->Option Nat
 | .int _ n=>if 0<=n then some n.toNat else none
 |_=>none
def Vz:Option AV->Option (Option Nat)
 |none=>some none
 |some v=>(numOf v).map some
def Wl(a:Nat)(mx:Option AV):Option AV->Option Nat
 |none=>bif mx.isNone then some a else none
 |some v=>numOf v
def VA:Option AV->Option Nat
 |none=>some 0
 |some v=>numOf v
def VB(h a:Nat):Option Nat->Bool
 |none=>true
 |some m=>Nat.ble h m&&Nat.ble m a
def bounds(c b mx:Option AV)(a:Nat):Option (Nat×Nat×Option Nat):=
 match Vz mx,Wl a mx b,VA c with
 |some m,some h,some l=>bif Nat.ble l h&&Nat.ble h a&&VB h a m then some (l,h,m)else none
 |_,_,_=>none
def ZPi:List AV->Bool
 |[]=>true
 | .int _ _::r=>ZPi r
 |_=>false
abbrev Zt:=AV×List Nat×Option (Nat×AObj)
def ZP5(b n i off g sz:Nat)(y:AV):List AV->Option Zt
 |[.agg cs]=>
  match bounds none (some y) none n with
  |some (_,k,_)=>bif (i==0&&(off==0&&g==1))&&(ZPi cs&&(cs.length==sz&&sz==n))then some (.isl false false 1<|cs.take k,[b],some (b,.gone))else none
  |none=>none
 |_=>none
def Zl(v:Option AV):Option Zt:=v.map λv=>(v,[],none)
def QW(ag:Bool)(kk:List Nat)(a:Bool)(z:AV)(rs:List Nat)(b vs:List AV)(k:AV):Option Zt:=
 match Zz ag kk k k,ZW ag kk k b 0 with
 |some _,some none=>some (bif a then .tup [z,.bool false]else z,rs,none)
 |some _,some (some i)=>(vs[i]?).map λv=>(bif a then .tup [v,.bool true]else v,rs,none)
 |_,_=>none
def Yo(ag:Bool)(kk:List Nat)(b:Nat)(a vs:List AV)(k v:AV):Option Zt:=
 match Zz ag kk k k,ZW ag kk k a 0 with
 |some _,some none=>some (.bot,[b],some (b,.map (a++[k])<|vs++[v]))
 |some _,some (some i)=>some (.bot,[b],some (b,.map a<|vs.set i v))
 |_,_=>none
def VC:Nat->AV->Bool
 |0,.str _=>true
 |1,.nilsl=>true
 |1,.isl _ _ _ _=>true
 |1,.sl _ _ _ _ _=>true
 |2,.nilmap=>true
 |2,.imap _ _ _=>true
 |2,.mp _=>true
 |_,_=>false
def X1(h:Hp)(x:AV):Option Zt:=
 match x with
 | .str s=>Zl<|some<|.int .i64 s.size
 | .nilsl=>Zl<|some<|.int .i64 0
 | .nilmap=>Zl<|some<|.int .i64 0
 | .isl _ _ _ es=>Zl<|some<|.int .i64 es.length
 | .imap _ ks _=>Zl<|some<|.int .i64 ks.length
 | .sl b g _ len _=>
  match h[b]? with
  |some (.row _ es)=>bif es.length==g then some (.int .i64 len,[b],none)else none
  |_=>none
 | .mp b=>
  match h[b]? with
  |some (.map ks _)=>some (.int .i64 ks.length,[b],none)
  |_=>none
 |_=>none
def Qq(h:Hp)(sz:Nat):AV->Bool
 | .isl _ _ z es=>z==sz||es.isEmpty
 | .sl b _ _ _ _=>
  match h[b]? with
  |some (.row z _)=>z==sz
  |_=>false
 |_=>true
def Yp(aid:Nat)(fz:Bool)(sz:Nat)(a:List AV)(rs:List Nat):Option Zt:=
 bif fz then(bif Z4 a then some (.isl false false sz a,rs,none)else none)
 else some (.sl aid a.length 0 a.length false,rs,some (aid,.row sz a))
def Qt(h:Hp)(aid:Nat)(fz:Bool)(sz bytes:Nat)(s x:AV):Option Zt:=
 match Q2 h s,Q2 h x with
 |some es,some ys=>
  if Qq h sz s=true/\Qq h sz x=true/\0<sz/\0<bytes/\(es.length+ys.length)*bytes<=140737488355328 then
   bif ys.isEmpty then some (s,Zs s++Zs x,none)
   else
    match s with
    | .nilsl=>Yp aid fz sz (es++ys)<|Zs s++Zs x
    | .isl _ true _ _=>Yp aid fz sz (es++ys)<|Zs s++Zs x
    | .sl _ _ _ _ true=>Yp aid fz sz (es++ys)<|Zs s++Zs x
    | .sl b g off len false=>
     match h[b]? with
     |some (.row sz' all)=>bif off==0&&len==g&&ys.all (fits sz)then some (.sl b (g+ys.length) 0 (g+ys.length) false,b::Zs x,some (b,.row sz'<|all++ys))else none
     |_=>none
    |_=>none
  else none
 |_,_=>none
def ZvE(h:Hp):Zt->Option Zt
 |(.sl b g off len ex,rs,some (b',.row sz es))=>bif b'==b&&(es.length==g&&Z4 es)then some (.isl false ex sz<|(es.drop off).take len,rs,some (b,.gone))else none
 |(.sl b g off len ex,rs,none)=>
  match h[b]? with
  |some (.row sz es)=>bif es.length==g&&Z4 es then some (.isl false ex sz<|(es.drop off).take len,rs,some (b,.gone))else none
  |_=>none
 |(.isl bw ex sz es,rs,none)=>some (.isl bw ex sz es,rs,none)
 |_=>none
def ZvH(h:Hp)(b:Nat)(c:Nat):AV->Option Zt
 | .agg cs=>
  match cs[c]? with
  |some (.sl b2 g off len ex)=>
   bif b2==b+1 then
    match h[b+1]? with
    |some (.row sz es)=>bif es.length==g&&Z4 es then some (.agg<|cs.set c<|.isl false ex sz<|(es.drop off).take len,[b,b+1],some (b+1,.gone))else none
    |_=>none
   else none
  |_=>none
 |_=>none
def Z8(E:Env)(fr:Fr)(h:Hp)(aid:Nat):AOp->Option Zt
 | .mv x=>Zl<|some<|ev E fr x
 | .own sz=>some (.sl aid 0 0 0 false,[],some (aid,.row sz []))
 | .pick c a b=>
  match ev E fr c with
  | .bool true=>Zl<|some<|ev E fr a
  | .bool false=>Zl<|some<|ev E fr b
  |_=>none
 | .box sz x=>bif fits sz (ev E fr x)then some (.ptr aid 0 0 1,[],some (aid,.row sz [ev E fr x]))else none
 | .ibox sz x=>bif fits sz (ev E fr x)then(bif Z4 (ev E fr x).cells then Zl (some<|.iptr false (ev E fr x).cells)else bif Zi (ev E fr x).cells then Zl (some<|.iptr true (ev E fr x).cells)else some (.ptr aid 0 0 1,[],some (aid,.row sz [ev E fr x])))else none
 | .build z ps=>Zl<|(fill z<|ps.map λp=>(p.1,p.2.1,ev E fr p.2.2)).map .agg
 | .bsl fz ex sz z d ps=>
  match YC sz (List.replicate d z) (ps.map λp=>(p.1,ev E fr p.2))with
  |some es=>
   bif fits sz z then
    bif fz then(bif Z4 es then Zl (some<|.isl false ex sz es)else none)
    else some (.sl aid d 0 d<|!ex,[],some (aid,.row sz es))
   else none
  |none=>none
 | .load n x=>
  match ev E fr x with
  | .iptr _ cs=>Zl<|takeC n cs
  | .ptr b i off g=>
   match h[b]? with
   |some (.row _ es)=>
    bif es.length==g then
     match es[i]? with
     |some e=>(takeC n<|e.cells.drop off).map λv=>(v,[b],none)
     |none=>none
    else none
   |_=>none
  |_=>none
 | .ldr n c x=>
  match ev E fr x with
  | .ptr b i off g=>
   match h[b]? with
   |some (.row _ es)=>
    bif es.length==g then
     match es[i]? with
     |some e=>
      match takeC (some n) (e.cells.drop off)with
      |some u=>ZvH h b c u
      |none=>none
     |none=>none
    else none
   |_=>none
  |_=>none
 | .store n a x=>
  match ev E fr a with
  | .ptr b i off g=>
   match h[b]? with
   |some (.row sz es)=>
    let cs:=(ev E fr x).cells
    bif es.length==g&&fits n (ev E fr x)then
     match es[i]? with
     |some (.agg old)=>
      bif Nat.ble (off+n) old.length then some (.bot,[b],some (b,.row sz<|es.set i<|.agg<|old.take off++cs++old.drop (off+n)))else none
     |some _=>
      match cs with
      |[c]=>bif off==0 then some (.bot,[b],some (b,.row sz<|es.set i c))else none
      |_=>none
     |none=>none
    else none
   |_=>none
  |_=>none
 | .nilck x=>
  match ev E fr x with
  | .iptr bw cs=>Zl<|some<|.iptr bw cs
  | .ptr b i off g=>
   match h[b]? with
   |some (.row _ es)=>bif es.length==g then some (.ptr b i off g,[b],none)else none
   |_=>none
  | .clo (.func f) first cap=>Zl<|some<|.clo (.func f) first cap
  |_=>none
 | .isn neg x=>
  match ev E fr x with
  | .nilp=>Zl<|some<|.bool !neg
  | .iptr _ _=>Zl<|some<|.bool neg
  | .ptr b _ _ g=>
   match h[b]? with
   |some (.row _ es)=>bif es.length==g then some (.bool neg,[b],none)else none
   |_=>none
  |_=>none
 | .bin op x y=>Zl<|YZ op (ev E fr x)<|ev E fr y
 | .eqv neg ag ks x y=>Zl<|(Zz ag ks (ev E fr x)<|ev E fr y).map λb=>.bool (if neg then !b else b)
 | .un op x=>Zl<|Vy op<|ev E fr x
 | .conv k x=>
  match k,ev E fr x with
  |some k,.int _ n=>Zl<|some<|.int k<|k.wrap n
  |none,.str s=>Zl<|some<|.str s
  |_,_=>none
 | .fld n off x=>
  match ev E fr x with
  | .agg cs=>Zl<|takeC n<|cs.drop off
  |_=>none
 | .fadr o x=>
  match ev E fr x with
  | .iptr bw cs=>Zl<|some<|.iptr bw<|cs.drop o
  | .ptr b i off g=>
   match h[b]? with
   |some (.row _ es)=>bif es.length==g then some (.ptr b i (off+o) g,[b],none)else none
   |_=>none
  |_=>none
 | .iadr sz x i=>
  match ev E fr x,ev E fr i with
  | .isl bw _ sz' es,.int _ n=>
   if 0<=n then
    match es[n.toNat]? with
    |some e=>bif sz'==sz then Zl (some<|.iptr bw e.cells)else none
    |none=>none
   else none
  | .sl b g off d _,.int _ n=>
   if 0<=n/\n<(d:Int)then
    match h[b]? with
    |some (.row sz' es)=>bif sz'==sz&&es.length==g then some (.ptr b (off+n.toNat) 0 g,[b],none)else none
    |_=>none
   else none
  |_,_=>none
 | .aadr sz d x i=>
  match ev E fr x,ev E fr i with
  | .iptr bw cs,.int _ n=>if 0<=n/\n<(d:Int)then Zl (some<|.iptr bw<|cs.drop<|n.toNat*sz)else none
  | .ptr b j off g,.int _ n=>
   match h[b]? with
   |some (.row _ es)=>bif es.length==g then(if 0<=n/\n<(d:Int)then some (.ptr b j (off+n.toNat*sz) g,[b],none)else none)else none
   |_=>none
  |_,_=>none
 | .sidx x i=>
  match ev E fr x,ev E fr i with
  | .str s,.int _ n=>if 0<=n then Zl ((s.data[n.toNat]?).map λb=>.int .u8 b.toNat)else none
  |_,_=>none
 | .aidx n sz d x i=>
  match ev E fr x,ev E fr i with
  | .agg cs,.int _ k=>if 0<=k/\k<(d:Int)then Zl (takeC n<|cs.drop<|k.toNat*sz)else none
  |_,_=>none
 | .ext x i=>
  match ev E fr x with
  | .tup vs=>Zl vs[i]?
  |_=>none
 | .mkf fn first cap=>Zl<|some<|.clo fn (first.map<|ev E fr)<|cap.map<|ev E fr
 | .mkm=>some (.mp aid,[],some (aid,.map [] []))
 | .ins ag kk m k v| .mupd ag kk m k v=>
  match ev E fr m with
  | .mp b=>
   match h[b]? with
   |some (.map ks vs)=>
    Yo ag kk b ks vs (ev E fr k) (ev E fr v)
   |_=>none
  |_=>none
 | .lkp ag kk ok z m k=>
  match ev E fr m with
  | .nilmap=>QW ag kk ok z [] [] []<|ev E fr k
  | .imap _ ks vs=>QW ag kk ok z [] ks vs<|ev E fr k
  | .mp b=>
   match h[b]? with
   |some (.map ks vs)=>QW ag kk ok z [b] ks vs<|ev E fr k
   |_=>none
  |_=>none
 | .mks sz z bytes d cap=>
  match ev E fr d,ev E fr cap with
  | .int .i64 n,.int .i64 c=>
   if 0<=n/\n<=c/\c*bytes<=70368744177664/\c<9223372036854775807/\fits sz z=true/\0<sz then
    some (.sl aid n.toNat 0 n.toNat<|n==c,[],some (aid,.row sz<|List.replicate n.toNat z))
   else none
  |_,_=>none
 | .slc sz x lo hi mx=>
  match ev E fr x with
  | .nilsl=>
   match bounds (lo.map<|ev E fr) (hi.map<|ev E fr) (mx.map<|ev E fr) 0 with
   |some _=>Zl<|some .nilsl
   |none=>none
  | .isl bw ex sz' es=>
   match bounds (lo.map<|ev E fr) (hi.map<|ev E fr) (mx.map<|ev E fr) es.length with
   |some (l,hh,m)=>bif sz'==sz then Zl (some<|.isl bw (match m with|none=>ex&&hh==es.length|some m=>m==hh) sz<|(es.drop l).take (hh-l))else none
   |none=>none
  | .sl b g off d ex=>
   match bounds (lo.map<|ev E fr) (hi.map<|ev E fr) (mx.map<|ev E fr) d with
   |some (l,hh,m)=>
    match h[b]? with
    |some (.row sz' es)=>bif sz'==sz&&es.length==g then some (.sl b g (off+l) (hh-l) (match m with|none=>ex&&hh==d|some m=>m==hh),[b],none)else none
    |_=>none
   |none=>none
  |_=>none
 | .ssl x lo hi=>
  match ev E fr x with
  | .str s=>
   match bounds (lo.map<|ev E fr) (hi.map<|ev E fr) none s.size with
   |some (l,hh,_)=>Zl<|some<|.str<|s.extract l hh
   |none=>none
  |_=>none
 | .len k x=>bif VC k (ev E fr x)then X1 h (ev E fr x)else none
 | .app fz sz bytes s x=>Qt h aid fz sz bytes (ev E fr s)<|ev E fr x
 | .apr sz bytes s x=>
  match Qt h aid false sz bytes (ev E fr s) (ev E fr x)with
  |some r=>ZvE h r
  |none=>none
 | .rng x=>
  match ev E fr x with
  | .str s=>some (.it aid,[],some (aid,.iter s 0))
  |_=>none
 | .nxt x=>
  match ev E fr x with
  | .it b=>
   match h[b]? with
   |some (.iter s pos)=>
    bif Nat.blt pos s.size then
     some (.tup [.bool true,.int .i64 pos,.int .i32 (Utf8.decode s pos).1],[b],some (b,.iter s<|pos+(Utf8.decode s pos).2))
    else some (.tup [.bool false],[b],none)
   |_=>none
  |_=>none
 | .mkif t x=>Zl<|some<|.ifc t<|ev E fr x
 | .rel x=>
  match ev E fr x with
  | .sl b g off d ex=>
   match h[b]? with
   |some (.row sz es)=>bif es.length==g&&Z4 es then some (.isl false ex sz<|(es.drop off).take d,[b],some (b,.gone))else none
   |_=>none
  |v=>bif Zs v |>.isEmpty then Zl (some v)else none
 | .asl n x y=>
  match ev E fr x with
  | .ptr b i off g=>
   match h[b]? with
   |some (.row sz es)=>ZP5 b n i off g sz (ev E fr y) es
   |_=>none
  |_=>none
 | .mm mx x y=>
  match ev E fr x,ev E fr y with
  | .int k a,.int _ b=>Zl<|some<|.int k<|bif mx then(if b>a then b else a)else(if b<a then b else a)
  |_,_=>none
 |_=>none
def setH(h:Hp)(b:Nat)(o:AObj):Hp:=bif Nat.blt b h.length then h.set b o else h++[o]
def ZH(h:Hp):Option (Nat×AObj)->Hp
 |none=>h
 |some (b,o)=>setH h b o
mutual
def freeze(bw:Bool)(h:Hp):Nat->AV->Option AV
 |0,_=>none
 |n+1,v=>
  bif clean v then some v else
  match v with
  | .agg cs=>(ZC bw h n cs).map .agg
  | .tup cs=>(ZC bw h n cs).map .tup
  | .ifc t x=>(freeze bw h n x).map (.ifc t)
  | .clo fn first cap=>
   match ZC bw h n first,ZC bw h n cap with
   |some f,some c=>some<|.clo fn f c
   |_,_=>none
  | .iptr true cs=>bif bw then some (.iptr true cs)else none
  | .isl true ex sz es=>bif bw then some (.isl true ex sz es)else none
  | .imap true ks vs=>bif bw then some (.imap true ks vs)else none
  | .ptr b i off g=>
   match h[b]? with
   |some (.row _ es)=>
    bif es.length==g then
     match es[i]? with
     |some e=>(ZC bw h n<|e.cells.drop off).map (.iptr bw)
     |none=>none
    else none
   |_=>none
  | .sl b g off len ex=>
   match h[b]? with
   |some (.row sz es)=>bif es.length==g then(ZC bw h n<|(es.drop off).take len).map (.isl bw (bw&&ex) sz)else none
   |_=>none
  | .mp b=>
   match h[b]? with
   |some (.map ks vs)=>
    bif Z4 ks then(ZC bw h n vs).map (.imap bw ks)else none
   |_=>none
  |_=>none
def ZC(bw:Bool)(h:Hp):Nat->List AV->Option (List AV)
 |0,_=>none
 |n+1,l=>
  bif Z4 l then some l else
  match l with
  |[]=>some []
  |v::r=>
   match freeze bw h n v,ZC bw h n r with
   |some a,some b=>some<|a::b
   |_,_=>none
end
def WX(fr:Fr)(h:Hp):ResVar->Option AV
 | .tmp t=>some<|get fr t
 | .cell t n=>
  match get fr t with
  | .ptr b i off g=>
   match h[b]? with
   |some (.row _ es)=>
    bif es.length==g then
     match es[i]? with
     |some e=>takeC n<|e.cells.drop off
     |none=>none
    else none
   |_=>none
  | .iptr _ cs=>takeC n cs
  |_=>none
def YD(fr:Fr)(h:Hp):List ResVar->Option (List AV)
 |[]=>some []
 |r::rs=>
  match WX fr h r,YD fr h rs with
  |some v,some vs=>some<|v::vs
  |_,_=>none
def QO(fr:Fr)(h:Hp)(rs:List ResVar):Option AV:=
 match YD fr h rs with
 |some [v]=>some v
 |some vs=>some<|.tup vs
 |none=>none
def ZJ(fr:Fr)(g:Option<|Nat×Bool):Option Bool:=
 match g with
 |none=>some true
 |some (t,b)=>
  match get fr t with
  | .bool c=>some<|c==b
  | .tup []=>some false
  |_=>none
def QP:Nat->List AV->Fr
 |_,[]=>[]
 |i,v::r=>(i,v)::QP (i+1) r
def Ql(h:Hp)(args:List AV):Option (List AV):=
 bif Z4 args then some args else ZC true h 40 args
def YE(h:Hp)(v:AV):Option AV:=bif clean v then some v else freeze false h 40 v
def AOp.isCall:AOp->Bool
 | .call .. | .callv .. | .apa ..=>true
 |_=>false
def Arg.slots:Arg->List Nat
 | .t n=>[n]
 |_=>[]
def Ko:Option Arg->List Nat
 |some x=>x.slots
 |none=>[]
def Xp:List Arg->List Nat
 |[]=>[]
 |x::r=>x.slots++Xp r
def AOp.slots:AOp->List Nat
 | .mv x| .box _ x| .ibox _ x| .load _ x| .ldr _ _ x| .nilck x| .isn _ x| .un _ x| .conv _ x| .fld _ _ x| .fadr _ x| .ext x _| .rel x| .len _ x| .rng x| .nxt x| .mkif _ x=>x.slots
 | .own _| .mkm| .bad=>[]
 | .pick c a b=>c.slots++a.slots++b.slots
 | .build _ ps=>Xp (ps.map (·.2.2))
 | .bsl _ _ _ _ _ ps=>Xp (ps.map (·.2))
 | .asl _ a x| .store _ a x| .mm _ a x| .bin _ a x| .eqv _ _ _ a x| .iadr _ a x| .aadr _ _ a x| .sidx a x| .aidx _ _ _ a x| .mks _ _ _ a x| .app _ _ _ a x| .apr _ _ a x| .apa _ _ a x=>a.slots++x.slots
 | .mkf _ f c=>Xp f++Xp c
 | .ins _ _ m k v| .mupd _ _ m k v=>m.slots++k.slots++v.slots
 | .lkp _ _ _ _ m k=>m.slots++k.slots
 | .slc _ x lo hi mx=>x.slots++Ko lo++Ko hi++Ko mx
 | .ssl x lo hi=>x.slots++Ko lo++Ko hi
 | .call _ _ args=>Xp args
 | .callv _ f args=>f.slots++Xp args
structure DRec where
 all:Bool
 rs:List Nat
 wr:Option Nat
 ik:Option<|AV×AV
def sh1:AV->List Nat
 | .sl b _ _ _ _=>[b]
 |_=>[]
def ZQ1:List AV->List Nat
 |[]=>[]
 |v::r=>sh1 v++ZQ1 r
def sh2:AV->List Nat
 | .agg cs=>ZQ1 cs
 |v=>sh1 v
def ZOO:List AV->List Nat
 |[]=>[]
 |v::r=>sh2 v++ZOO r
def shr(h:Hp)(b:Nat):Bool:=match h[b]? with|some (.row _ es)=>Z4 es|_=>false
def so1(h:Hp):AV->Bool
 | .sl b _ _ _ _=>shr h b
 |v=>Zy v
def ZQ2(h:Hp):List AV->Bool
 |[]=>true
 |v::r=>so1 h v&&ZQ2 h r
def so2(h:Hp):AV->Bool
 | .agg cs=>ZQ2 h cs
 |v=>so1 h v
def ZOH(h:Hp):List AV->Bool
 |[]=>true
 |v::r=>so2 h v&&ZOH h r
def cRc(h:Hp)(args:List AV):Bool->DRec
 |true=>⟨false,[],none,none⟩
 |false=>bif ZOH h args then⟨false,ZOO args,none,none⟩else⟨true,[],none,none⟩
def ZOy(h:Hp)(args:List AV):DRec:=cRc h args<|Zi args
def YF:AV->AV->Bool
 | .int k a,.int j b=>decide (k=j)&&a != b
 | .str a,.str b=>!Z3 a b
 |_,_=>false
def Kp(x y:DRec):Bool:=
 match x.ik,y.ik with
 |some (k,_),some (j,_)=>YF k j
 |_,_=>false
def Qy(x y:DRec):Bool:=
 (match x.wr with
  |none=>true
  |some b=>!y.all&&!y.rs.contains b&&(!(y.wr==some b)||Kp x y))&&
 (match y.wr with
  |none=>true
  |some b=>!x.all&&!x.rs.contains b)
def Zv(x:DRec)(a:List DRec):List Nat->Bool
 |[]=>true
 |j::r=>(match a[j]? with|some y=>Qy x y|none=>false)&&Zv x a r
def opT(E:Env)(fr:Fr):AOp->List Nat
 | .load _ x| .nilck x| .isn _ x| .fadr _ x| .len _ x| .nxt x| .rel x=>Zs<|ev E fr x
 | .ldr _ _ x=>match ev E fr x with| .ptr b _ _ _=>[b,b+1]|_=>[]
 | .asl _ x _| .store _ x _| .iadr _ x _| .aadr _ _ x _| .slc _ x _ _ _| .ins _ _ x _ _| .mupd _ _ x _ _| .lkp _ _ _ _ x _=>Zs<|ev E fr x
 | .app _ _ _ s x| .apr _ _ s x=>Zs (ev E fr s)++Zs (ev E fr x)
 |_=>[]
def Wm(E:Env)(fr:Fr)(h:Hp):AOp->Option (AV×AV)
 | .ins ag kk m k v=>
  match ev E fr m with
  | .mp b=>
   match h[b]? with
   |some (.map ks _)=>
    match ZW ag kk (ev E fr k) ks 0 with
    |some none=>bif YF (ev E fr k) (ev E fr k)then none else some (ev E fr k,ev E fr v)
    |_=>none
   |_=>none
  |_=>none
 |_=>none
def QG(E:Env)(fr:Fr)(h:Hp)(a:AOp)(b:Option<|Nat×AObj):DRec:=
 match Wm E fr h a with
 |some p=>⟨false,[],b.map (·.1),some p⟩
 |none=>⟨false,opT E fr a,b.map (·.1),none⟩
def X3:AOp->Bool
 | .mv _| .pick .. | .load .. | .nilck _| .isn .. | .bin .. | .eqv .. | .un .. | .conv .. | .fld .. | .fadr .. | .iadr .. | .aadr .. | .sidx .. | .aidx .. | .ext .. | .mkf .. | .build .. | .lkp .. | .slc .. | .ssl .. | .len .. | .mkif .. | .mm ..=>true
 | .bsl fz _ _ _ _ _=>fz
 | .call p _ _=>p
 | .callv p _ _=>p
 |_=>false
def Ya(h:Hp):Option (Nat×AObj)->Bool
 |none=>true
 |some (b,_)=>Nat.ble b h.length
def QH(ex:AOper->Fr->Hp->Option (AV×DRec×Option (Nat×AObj))):List AOper->List (List Nat)->Fr->Hp->List DRec->Option (Fr×Hp)
 |[],_,fr,h,_=>some (fr,h)
 |_::_,[],_,_,_=>none
 |o::r,u::us,fr,h,recs=>
  match ex o fr h with
  |some (v,d,wr)=>bif Zv d recs u&&Ya h wr then QH ex r us (ZB fr o.dst v) (ZH h wr) (recs++[d])else none
  |none=>none
mutual
def bel(n:Nat):AV->Bool
 | .agg cs=>Zd n cs
 | .tup cs=>Zd n cs
 | .ifc _ v=>bel n v
 | .clo _ first cap=>Zd n first&&Zd n cap
 | .ptr b _ _ _=>Nat.blt b n
 | .sl b _ _ _ _=>Nat.blt b n
 | .mp b=>Nat.blt b n
 | .it b=>Nat.blt b n
 | .yld b=>Nat.blt b n
 |_=>true
def Zd(n:Nat):List AV->Bool
 |[]=>true
 |v::r=>bel n v&&Zd n r
end
def Zj(n:Nat):AObj->Bool
 | .row _ es=>Zd n es
 | .map ks vs=>Zd n ks&&Zd n vs
 | .loop _ _ fr _ _ _=>Zd n (fr.map (·.2))
 |_=>true
def noP:List AV->Bool
 | .ptr ..::_=>false
 |_=>true
def ZE8(s:List AV->Nat->List AV->Option (List AV))(h:Hp):List AV->Option (AV×Option (Nat×AObj))
 | .sl b g off len ex::r=>
  match h[b]? with
  |some (.row sz es)=>bif es.length==g&&(off==0&&(len==g&&noP r))then(s r sz es).map λes'=>(.sl b g off len ex,some (b,.row sz es'))else none
  |_=>none
 | .isl bw ex sz []::r=>
  bif noP r then
   match s r sz []with
   |some []=>some (.isl bw ex sz [],none)
   |_=>none
  else none
 | .ptr b 0 0 1::r=>
  match h[b]?,h[b+1]?,h[b-1]? with
  |some (.row sz [e]),some<|.row sz2 es,some (.map ks vs)=>
   bif Z4 ks&&Z4 vs then
    match s (.ptr b 0 0 sz2::r) sz (e::es)with
    |some [e',v]=>some (v,some (b,.row sz [e']))
    |_=>none
   else none
  |_,_,_=>none
 |_=>none
def ZEZ:List AV->List Nat
 | .sl b _ _ _ _::_=>[b]
 | .ptr b _ _ _::_=>[b,b+1,b-1]
 |_=>[]
def ZEn(s:List AV->Nat->List AV->Option (List AV))(h:Hp)(args:List AV):Option (AV×DRec×Option (Nat×AObj)):=
 (ZE8 s h args).map λr=>(r.1,⟨false,ZEZ args,r.2.map (·.1),none⟩,r.2)
def X4(n:Nat):List AObj->Bool
 |[]=>true
 |o::r=>Zj n o&&X4 n r
def Xq(n:Nat)(fr:Fr)(h:Hp):Hp:=bif Zd n (fr.map (·.2))&&X4 n (h.take n)then h.take n else h
def Zw7:Nat->List AV->List (Nat×Nat)->List AV
 |_,cs,[]=>cs
 |b,cs,(o,_)::r=>Zw7 (b+1) (cs.set o<|.sl b 0 0 0 false) r
def Zvr(b:Nat)(ps:List<|Nat×Nat):AV->AV
 | .agg cs=>.agg<|Zw7 b cs ps
 |_=>.sl b 0 0 0 false
def ZE9(h:Hp)(sz bytes:Nat)(s x:AV):Option (AV×Hp):=
 match s with
 | .sl b g off len false=>
  match h[b]?,Q2 h x with
  |some (.row sz' es),some ys=>
   bif (es.length==g&&sz'==sz)&&((off+len==g)&&(Qq h sz x&&(ys.all (fits sz)&&(Nat.blt 0 ys.length&&(Nat.blt 0 sz&&(Nat.blt 0 bytes&&Nat.ble ((len+ys.length)*bytes) 140737488355328))))))
   then some (.sl h.length (len+ys.length) 0 (len+ys.length) false,setH h b .gone++[.row sz<|es.drop off++ys])else none
  |_,_=>none
 |_=>(Qt h h.length false sz bytes s x).map λr=>(r.1,ZH h r.2.2)
def Zvo(ps:List<|Nat×Nat):List AObj:=ps.map λp=>.row p.2 []
def ghW(d off s:Nat)(fr:Fr)(h:Hp):Option Hp:=
 match get fr d with
 | .ptr b 0 0 1=>
  match h[b]? with
  |some (.row sz [.agg cs])=>
   match cs[off]? with
   |some .nilsl=>bif Nat.blt 0 s then some (setH h b (.row sz [.agg<|cs.set off<|.sl h.length 0 0 0 false])++[.row s []])else none
   |_=>none
  |_=>none
 |_=>none
def ZvU(E:Env)(s d off:Nat)(p:Arg)(fr:Fr)(h:Hp):Option (AExit×Fr×Hp):=
 match Z8 E fr h h.length (.fadr off p)with
 |some (v,_,none)=>
  match Z8 E (put fr d v) (h++[.row s []]) (h.length+1) (.store 1 (.t d)<|.c<|.sl h.length 0 0 0 false)with
  |some r=>some (.normal,put fr d v,ZH (h++[.row s []]) r.2.2)
  |none=>none
 |_=>none
def WY:List Nat->List AV->Fr->Option Fr
 |[],[],fr=>some fr
 |p::ps,v::vs,fr=>WY ps vs<|put fr p v
 |_,_,_=>none
mutual
def Qz(E:Env):Nat->Nat->List AV->Hp->Option (AV×Hp)
 |0,_,_,_=>none
 |n+1,f,args,h=>
  match E.sum f with
  |some s=>s args h
  |none=>QX E n f args h
termination_by structural n=>n
def QX(E:Env):Nat->Nat->List AV->Hp->Option (AV×Hp)
 |0,_,_,_=>none
 |n+1,f,args,h=>
  match E.fn f with
  |none=>none
  |some fn=>
   match Ze E n fn.body (QP 0 args) h with
   |some (.normal,fr,h')=>(QO fr h' fn.res).map λv=>(v,h')
   |some (.ret,fr,h')=>(QO fr h' fn.res).map λv=>(v,h')
   |_=>none
termination_by structural n=>n
def Qm(E:Env):Nat->Bool->Nat->List AV->Hp->Option (AV×Hp)
 |0,_,_,_,_=>none
 |n+1,true,f,args,h=>
  match Ql h args with
  |some as=>
   match Qz E n f as []with
   |some (v,h')=>(YE h' v).map λv=>(v,h)
   |none=>none
  |none=>none
 |n+1,false,f,args,h=>Qz E n f args h
termination_by structural n=>n
def YG(E:Env):Nat->Nat->List AV->Hp->Option (AV×Hp)
 |0,_,_,_=>none
 |n+1,b,args,h=>
  match h[b]? with
  |some (.loop .ready .normal fr ps assign body)=>
   match WY ps args fr with
   |some fr0=>
    match Ze E n assign fr0 h with
    |some (.normal,fr1,h1)=>
     match h1[b]? with
     |some (.loop .ready .normal fr2 ps2 assign2 body2)=>
      match Ze E n body fr1 (setH h1 b<|.loop .busy .normal fr2 ps2 assign2 body2)with
      |some (e,_,h2)=>
       match h2[b]? with
       |some (.loop _ _ fr3 ps3 assign3 body3)=>
        match e with
        | .normal=>some (.bool true,setH h2 b<|.loop .ready .normal fr3 ps3 assign3 body3)
        |e=>some (.bool false,setH h2 b<|.loop .done e fr3 ps3 assign3 body3)
       |_=>none
      |none=>none
     |_=>none
    |_=>none
   |none=>none
  |_=>none
termination_by structural n=>n
def QQ(E:Env):Nat->Bool->AV->List AV->Hp->Option (AV×Hp)
 |0,_,_,_,_=>none
 |n+1,p,f,args,h=>
  match f with
  | .clo (.func g) first cap=>Qm E n p g (first++args++cap) h
  | .yld b=>bif p then none else YG E n b args h
  |_=>none
termination_by structural n=>n
def Q5(E:Env):Nat->AOper->Fr->Hp->Option (Fr×Hp)
 |0,_,_,_=>none
 |n+1,o,fr,h=>
  match ZJ fr o.guard with
  |none=>none
  |some false=>some (ZB fr o.dst<|.tup [],h)
  |some true=>
   match o.op with
   | .call p f args=>(Qm E n p f (args.map<|ev E fr) h).map λr=>(ZB fr o.dst r.1,r.2)
   | .callv p x args=>(QQ E n p (ev E fr x) (args.map<|ev E fr) h).map λr=>(ZB fr o.dst r.1,r.2)
   | .apa sz bytes s x=>(ZE9 h sz bytes (ev E fr s)<|ev E fr x).map λr=>(ZB fr o.dst r.1,r.2)
   |op=>(Z8 E fr h h.length op).map λr=>(ZB fr o.dst r.1,ZH h r.2.2)
termination_by structural n=>n
def ZS(E:Env):Nat->List AOper->Fr->Hp->Option (Fr×Hp)
 |0,_,_,_=>none
 |_+1,[],fr,h=>some (fr,h)
 |n+1,o::r,fr,h=>
  match Q5 E n o fr h with
  |some (fr,h)=>ZS E n r fr h
  |none=>none
termination_by structural n=>n
def Zk(E:Env):Nat->AOper->Fr->Hp->Option (AV×DRec×Option (Nat×AObj))
 |0,_,_,_=>none
 |n+1,o,fr,h=>
  match ZJ fr o.guard with
  |none=>none
  |some false=>some (.tup [],⟨false,[],none,none⟩,none)
  |some true=>
   match o.op with
   | .call p f args=>
    bif p then
     match Qm E n true f (args.map<|ev E fr) h with
     |some (v,_)=>some (v,ZOy h<|args.map<|ev E fr,none)
     |none=>none
    else
     match E.rs f with
     |some s=>ZEn s h<|args.map<|ev E fr
     |none=>none
   | .callv p x args=>
    bif p then
     match ev E fr x with
     | .clo (.func g) first cap=>
      match Qm E n true g (first++args.map (ev E fr)++cap) h with
      |some (v,_)=>some (v,⟨!Zi (first++args.map (ev E fr)++cap),[],none,none⟩,none)
      |none=>none
     |_=>none
    else none
   |op=>(Z8 E (Z2 op.slots fr) h h.length op).map λr=>(r.1,QG E (Z2 op.slots fr) h op r.2.2,r.2.2)
termination_by structural n=>n
def Ze(E:Env):Nat->ACode->Fr->Hp->Option (AExit×Fr×Hp)
 |0,_,_,_=>none
 |n+1,c,fr,h=>
  match c with
  | .skip=>some (.normal,fr,h)
  | .region ops=>(ZS E n ops fr h).map λr=>(.normal,r.1,r.2)
  | .draw un p1 p2=>
   match QH (λo fr h=>Zk E n o fr h) p1 un fr h []with
   |some (fr,h)=>(ZS E n p2 fr h).map λr=>(.normal,r.1,r.2)
   |none=>none
  | .seq a b=>
   match Ze E n a fr h with
   |some (.normal,fr,h)=>Ze E n b fr h
   |r=>r
  | .cond x a b=>
   match ev E fr x with
   | .bool true=>Ze E n a fr h
   | .bool false=>Ze E n b fr h
   |_=>none
  | .block id b=>
   match Ze E n b fr h with
   |some (.exit i,fr,h)=>bif i==id then some (.normal,fr,h)else some (.exit i,fr,h)
   |r=>r
  | .loop live b=>
   match Ze E n b (Z2 live fr) h with
   |some (.normal,fr,h)=>Ze E n (.loop live b) fr h
   |r=>r
  | .rangeFunc f ps assign body=>
   match ev E fr f with
   | .clo (.func g) first cap=>
    match QX E n g (first++[.yld h.length]++cap) (h++[.loop .ready .normal fr ps assign body])with
    |some (_,h')=>
     match h'[h.length]? with
     |some (.loop .busy _ _ _ _ _)=>none
     |some (.loop _ pend fr' ps assign body)=>some (pend,fr,setH h' h.length<|.loop .exhausted pend fr' ps assign body)
     |_=>none
    |none=>none
   |_=>none
  | .keep live b=>
   match Ze E n b fr h with
   |some (e,fr',h')=>some (e,Z2 live fr',Xq h.length (Z2 live fr') h')
   |none=>none
  | .zbox d sz z ps=>bif fits sz (Zvr h.length ps z)then some (.normal,put fr d<|.ptr (h.length+ps.length) 0 0 1,h++Zvo ps++[.row sz [Zvr h.length ps z]])else none
  | .nils s d off p=>ZvU E s d off p fr h
  | .ghost d off s b=>
   match Ze E n b fr h with
   |some (.normal,fr',h')=>(ghW d off s fr' h').map λh2=>(.normal,fr',h2)
   |_=>none
  | .exit id=>some (.exit id,fr,h)
  | .ret=>some (.ret,fr,h)
  | .bad=>none
termination_by structural n=>n
end
def Zzb{h:Hp}{b:Nat}(o a:AObj)(f:b<=h.length):setH (setH h b o) b a=setH h b a/\(setH h b o)[b]?=some o:=by
 unfold setH;rcases Nat.lt_or_eq_of_le f with c|c
 .have e:Nat.blt b h.length=true:=by simpa using c
  rw[e,cond_true,cond_true,ZYG,e,cond_true];exact⟨by rw[List.set_set],by simp[c]⟩
 .subst c;have e:Nat.blt h.length h.length=false:=by rw[ZYH];intro d;simp at d
  have g:Nat.blt h.length (h++[o]).length=true:=by simp
  rw[e,cond_false,cond_false,g,cond_true];exact⟨by rw[ZZf _ _<|ZXh _];simp,by simp⟩
def ZwA{aid sz:Nat}{fz:Bool}{c:List AV}{rs:List Nat}{r:Zt}(a:Yp aid fz sz c rs=some r):∀b o,r.2.2=some (b,o)->b=aid:=by
 unfold Yp at a;cases fz with
 |true=>
  cases e:Z4 c with
  |true=>rw[e]at a;cases a;intro b o d;cases d
  |false=>rw[e]at a;cases a
 |false=>cases a;intro b o d;cases d;rfl
def ZxP{aid sz bytes:Nat}{fz:Bool}{s x:AV}{r:Zt}{h:Hp}(c:aid<=h.length)(a:Qt h aid fz sz bytes s x=some r):∀b o,r.2.2=some (b,o)->b<=h.length:=by
 intro b o d;unfold Qt at a;split at a
 .split at a
  .rename_i es ys _ _ _;cases e:ys.isEmpty with
   |true=>rw[e]at a;cases a;cases d
   |false=>
    rw[e,cond_false]at a;split at a
    .rw[ZwA a b o d];exact c
    .rw[ZwA a b o d];exact c
    .rw[ZwA a b o d];exact c
    .split at a
     .rename_i f;simp only[cond]at a;split at a
      .cases a;cases d;exact ZYg (ZXu.1 f).1
      .cases a
     .cases a
    .cases a
  .cases a
 .cases a
def Zzc{h:Hp}{aid sz bytes:Nat}{s x v:AV}{rs:List Nat}(a:Qt h aid false sz bytes s x=some (v,rs,none)):v=s:=by
 unfold Qt at a;split at a
 .split at a
  .rename_i es ys _ _ _;cases b:ys.isEmpty with
   |true=>rw[b]at a;cases a;rfl
   |false=>
    rw[b,cond_false]at a;split at a
    .cases a
    .cases a
    .cases a
    .split at a
     .simp only[cond]at a;split at a
      .cases a
      .cases a
     .cases a
    .cases a
  .cases a
 .cases a
def Zzd{h:Hp}{r res:Zt}(i:∀b o,r.2.2=some (b,o)->b<=h.length)(a:ZvE h r=some res):∀b o,res.2.2=some (b,o)->b<=h.length:=by
 intro b o c;unfold ZvE at a;split at a
 .next j g off e ex d l sz es=>
  simp only[cond]at a;split at a
  .rename_i f;cases a;cases c;simp only[ZXf,beq_iff_eq]at f;exact i b (.row sz es)<|by rw[f.1]
  .cases a
 .next j g off e ex d=>
  split at a
  .next sz es k=>
   simp only[cond]at a;split at a
   .cases a;cases c;exact ZYg (ZXu.1 k).1
   .cases a
  .cases a
 .cases a;cases c
 .cases a
def XS:TC->TC->Prop
 | .row sz g r C B,.row sz' g' r' C' B'=>sz=sz'/\((g'=g/\r'=r/\C'=C/\B'=B)\/g<g')
 | .map r,.map r'=>r=r'
 | .iter r,.iter r'=>r=r'
 | .loop r,.loop r'=>r=r'
 |_,_=>False
def XS.refl(c:TC):XS c c:=by cases c<;>simp[XS]
def XS.trans{a b c:TC}(h:XS a b)(k:XS b c):XS a c:=by
 cases a with
 |map r=>
  cases b with
  |map d=>cases h;grind
  |_=>exact h.elim
 |iter r=>
  cases b with
  |iter d=>cases h;grind
  |_=>exact h.elim
 |loop r=>
  cases b with
  |loop d=>cases h;grind
  |_=>exact h.elim
 |row sz g r C B=>
  cases b with
  |map _=>exact h.elim
  |iter _=>exact h.elim
  |loop _=>exact h.elim
  |row j q d l o=>
   cases c with
   |map _=>exact k.elim
   |iter _=>exact k.elim
   |loop _=>exact k.elim
   |row e p s m n=>
    have⟨f,h⟩:=h;have⟨i,k⟩:=k;refine⟨f.trans i,?_⟩
    grind
class Dr where
 d:Prop
abbrev dT:Dr:=⟨True⟩
variable [Dr]
structure Step(T:Ty)(w:World)(T':Ty)(w':World):Prop where
 os:w'.os=w.os
 tape:w'.tape=w.tape
 output:w'.output=w.output
 size:w.heap.size<=w'.heap.size
 le:∀b c,T b=some c->∃c',T' b=some c'/\XS c c'
 keep:∀b,b<w.heap.size->¬T.rng b->w'.heap[b]?=w.heap[b]?
 rng:∀b,T'.rng b->T.rng b\/w.heap.size<=b
 drawn:Dr.d->w.drawn<=w'.drawn
def Step.refl(T:Ty)(w:World):Step T w T w:=
 ⟨rfl,rfl,rfl,ZXh _,λ_ c h=>⟨c,h,.refl c⟩,λ_ _ _=>rfl,λ_ h=>.inl h,λ_=>ZXh _⟩
def Step.trans{T i a:Ty}{w w' e:World}(h:Step T w i w')(k:Step i w' a e):Step T w a e where
 os:=k.os.trans h.os
 tape:=k.tape.trans h.tape
 output:=k.output.trans h.output
 size:=ZXW h.size k.size
 le b c hb:=by
  have⟨c',h1,h2⟩:=h.le b c hb;have⟨g,l,j⟩:=k.le b c' h1;exact⟨g,l,h2.trans j⟩
 keep b hb hr:=by
  rw[k.keep b (ZYh hb h.size)<|λf=>(h.rng b f).elim hr (by omega),h.keep b hb hr]
 rng b hb:=by
  rcases k.rng b hb with h1|h1
  .rcases h.rng b h1 with h2|h2
   all_goals grind
  .exact .inr<|ZXW h.size h1
 drawn d:=ZXW (h.drawn d)<|k.drawn d
def Step.drew{T a:Ty}{w w':World}(h:Step T w a w')(k:Nat)(b:Dr.d->w.drawn<=k):Step T w a {w' with drawn:=k}:=
 ⟨h.os,h.tape,h.output,h.size,h.le,h.keep,h.rng,b⟩
theorem at_eq{w w':World}{r o:Nat}(h:w'.heap[r]?=w.heap[r]?):World.at w' r o=World.at w r o:=by
 grind [World.at,World.cell?]
structure Stp(T:Ty)(w:World)(T':Ty)(w':World):Prop where
 size:w.heap.size<=w'.heap.size
 le:∀b c,T b=some c->∃c',T' b=some c'/\XS c c'
 cell:∀b,b<w.heap.size->¬T.rng b->∀o,World.at w' b o=World.at w b o
 map:∀b es c,b<w.heap.size->¬T.rng b->w.heap[b]?=some (.map es c)->w'.heap[b]?=some (.map es c)
 rng:∀b,T'.rng b->T.rng b\/w.heap.size<=b
def Step.stp{T e:Ty}{w w':World}(a:Step T w e w'):Stp T w e w':=
 ⟨a.size,a.le,λb c d o=>at_eq<|a.keep b c d,λb _ _ c d h=>(a.keep b c d).trans h,a.rng⟩
mutual
theorem Kq{T M:Ty}{X:Xt}{w w':World}(k:Stp T w M w'):(a:AV)->(v:Value)->R T X w a v->R M X w' a v
 | .bot,_,_=>trivial
 | .bool _,_,h=>h
 | .int _ _,_,h=>h
 | .str _,_,h=>h
 | .nilp,_,h=>h
 | .nilsl,_,h=>h
 | .nilmap,_,h=>h
 | .nilfn,_,h=>h
 | .nilif,_,h=>h
 | .agg cs,v,h=>by
  obtain⟨vs,rfl,h⟩:=h;exact⟨vs,rfl,XT k cs _ h⟩
 | .tup cs,v,h=>by
  obtain⟨vs,rfl,h⟩:=h;exact⟨vs,rfl,XT k cs _ h⟩
 | .iptr bw cs,v,h=>by
  obtain⟨r,o,rfl,h1,h2,A,n,p⟩:=h;exact⟨r,o,rfl,λz=>(k.rng r z).elim h1 (by omega),h2,A,ZYh n k.size,US k r (k.cell r n h1) cs o p⟩
 | .isl bw ex sz es,v,h=>by
  obtain⟨a,y,cap,rfl,h1,h2,A,n,p⟩:=h;refine⟨a,y,cap,rfl,h1,h2,A,n,?_⟩;rcases p with p|⟨r,o,J,E,h8,h9,h10⟩
  .exact .inl p
  .exact .inr ⟨r,o,J,λz=>(k.rng r z).elim E (by omega),h8,ZYh h9 k.size,JP k sz r (k.cell r h9 E) es o h10⟩
 | .imap bw ks vs,v,h=>by
  obtain⟨r,es,s,l,rfl,h1,h2,A,n,G,p,J,E⟩:=h;have K:r<w.heap.size:=(ZYd.1 n.1).1;exact⟨r,es,s,l,rfl,λz=>(k.rng r z).elim h1 (by omega),h2,A,⟨k.map r _ _ K h1 n.1,n.2⟩,G,p,XT k ks _ J,XT k vs _ E⟩
 | .ifc t x,v,h=>by
  obtain⟨u,rfl,h⟩:=h;exact⟨u,rfl,Kq k x u h⟩
 | .clo fn first cap,v,h=>by
  obtain⟨f,c,rfl,h1,h2⟩:=h;exact⟨f,c,rfl,XT k first _ h1,XT k cap _ h2⟩
 | .ptr b i off g,v,h=>by
  have⟨D,sz,O,r,C,B,m,H,L⟩:=h;have⟨c',j,d⟩:=k.le b _ m;cases c' with
  |map _=>exact d.elim
  |iter _=>exact d.elim
  |loop _=>exact d.elim
  |row F U Q P S=>
   obtain⟨rfl,d⟩:=d;rcases d with⟨rfl,rfl,rfl,rfl⟩|d
   .exact⟨D,_,_,_,_,_,j,H,L⟩
   .exact⟨D,_,_,_,_,_,j,by omega,λe=>by omega⟩
 | .sl b g off y ex,v,h=>by
  have⟨D,sz,O,r,C,B,m,H,N,L⟩:=h;have⟨c',j,d⟩:=k.le b _ m;cases c' with
  |map _=>exact d.elim
  |iter _=>exact d.elim
  |loop _=>exact d.elim
  |row F U Q P S=>
   obtain⟨rfl,d⟩:=d;rcases d with⟨rfl,rfl,rfl,rfl⟩|d
   .exact⟨D,_,_,_,_,_,j,H,N,L⟩
   .exact⟨D,_,_,_,_,_,j,by omega,N,λe=>by omega⟩
 | .mp b,v,h=>by
  obtain⟨r,m,rfl⟩:=h;have⟨c',j,d⟩:=k.le b _ m;cases c' with
  |map q=>exact⟨r,by rw[j,show r=q from d],rfl⟩
  |iter _=>exact d.elim
  |loop _=>exact d.elim
  |row _ _ _ _ _=>exact d.elim
 | .it b,v,h=>by
  obtain⟨r,m,rfl⟩:=h;have⟨c',j,d⟩:=k.le b _ m;cases c' with
  |map q=>exact d.elim
  |iter q=>exact⟨r,by rw[j,show r=q from d],rfl⟩
  |loop _=>exact d.elim
  |row _ _ _ _ _=>exact d.elim
 | .yld b,v,h=>by
  obtain⟨r,m,rfl⟩:=h;have⟨c',j,d⟩:=k.le b _ m;cases c' with
  |map q=>exact d.elim
  |iter _=>exact d.elim
  |loop q=>exact⟨r,by rw[j,show r=q from d],rfl⟩
  |row _ _ _ _ _=>exact d.elim
theorem XT{T b:Ty}{X:Xt}{w w':World}(c:Stp T w b w'):(as:List AV)->(vs:List Value)->Rs T X w as vs->Rs b X w' as vs
 |[],_,h=>h
 |a::as,vs,h=>by
  obtain⟨v,d,rfl,h1,h2⟩:=h;exact⟨v,d,rfl,Kq c a v h1,XT c as d h2⟩
theorem US{T b:Ty}{X:Xt}{w w':World}(c:Stp T w b w')(r:Nat)(d:∀o,World.at w' r o=World.at w r o):(as:List AV)->(o:Nat)->ZV T X w r as o->ZV b X w' r as o
 |[],_,_=>trivial
 |a::as,o,h=>by
  have⟨⟨v,h1,h2⟩,h3⟩:=h;exact⟨⟨v,(d _).trans h1,Kq c a v h2⟩,US c r d as (o+1) h3⟩
theorem JP{T e:Ty}{X:Xt}{w w':World}(b:Stp T w e w')(sz r:Nat)(c:∀o,World.at w' r o=World.at w r o):(as:List AV)->(o:Nat)->ZA T X w sz r as o->ZA e X w' sz r as o
 |[],_,_=>trivial
 |a::as,o,h=>by
  cases a with
  |agg cs=>
   have⟨h1,h2,d⟩:=h;exact⟨h1,US b r c cs o h2,JP b sz r c as (o+sz) d⟩
  |_=>
   have⟨h1,⟨v,h2,d⟩,h4⟩:=h;exact⟨h1,⟨v,(c _).trans h2,Kq b _ v d⟩,JP b sz r c as (o+sz) h4⟩
end
def HR{T b:Ty}{X:Xt}{w w':World}(c:Step T w b w')(a:AV)(v:Value)(h:R T X w a v):R b X w' a v:=Kq c.stp a v h
theorem Yb{T a:Ty}{X:Xt}{w w':World}(b:Step T w a w')(as:List AV)(vs:List Value)(h:Rs T X w as vs):Rs a X w' as vs:=XT b.stp as vs h
def HS{T a:Ty}{X:Xt}{w w':World}(b:Step T w a w')(sz r:Nat)(c:w'.heap[r]?=w.heap[r]?)(as:List AV)(o:Nat)(h:ZA T X w sz r as o):ZA a X w' sz r as o:=JP b.stp sz r (λ_=>at_eq c) as o h
end Go.AM
namespace Go.AM
open Go
variable [Dr]
def FrR(T:Ty)(X:Xt)(w:World)(fr:Fr)(a:Array Value):Prop:=∀t,R T X w (get fr t)<|a.getD t undef
def XU:AExit->Option Code
 | .normal=>none
 | .exit id=>some<|.exit id
 | .ret=>some .ret
def Wn(T:Ty)(w:World)(D:Nat):Prop:=D<w.heap.size/\¬T.rng D/\w.heap[D]?=some (.deferred<|some [])
def Md{T c:Ty}{w w':World}(b:Step T w c w'){D:Nat}(a:Wn T w D):Wn c w' D:=
 ⟨ZYh a.1 b.size,λd=>(b.rng D d).elim a.2.1 (λe=>by have:=a.1;omega),(b.keep D a.1 a.2.1).trans a.2.2⟩
def Me{T b:Ty}{X:Xt}{w w':World}(d:Stp T w b w'){fr:Fr}{a:Array Value}(c:FrR T X w fr a):FrR b X w' fr a:=λt=>Kq d _ _<|c t
theorem Kr{T b:Ty}{X:Xt}{w w':World}(d:Step T w b w'){fr:Fr}{a:Array Value}(c:FrR T X w fr a):FrR b X w' fr a:=λt=>HR d _ _<|c t
def YR(T:Ty)(X:Xt)(w:World):Option AObj->Option TC->Prop
 |none,none=>True
 |some .dead,none=>True
 |some .gone,some (.row _ _ none _ _)=>True
 |some (.row sz es),some (.row sz' g r C B)=>sz=sz'/\es.length=g/\0<sz/\B+g<=C/\
  (match r with
   |none=>C=0
   |some r=>∃cs el,w.heap[r]?=some (.cells cs el (0,0))/\cs.size=C*sz/\ZA T X w sz r es (B*sz))
 |some (.map ks vs),some (.map r)=>∃es a l,Zpj w r es a/\ks.Nodup/\List.Perm l es.toList/\Rs T X w ks (l.map (·.key))/\Rs T X w vs (l.map (·.val))
 |some (.iter s pos),some (.iter r)=>w.heap[r]?=some (.stringIter s pos)
 |some (.loop st pend fr ps as bd),some (.loop r)=>∃L:Loop,w.heap[r]?=some (.loop L)/\L.state=st/\L.pending=XU pend/\L.params.toList=ps/\FrR T X w fr L.tmps/\
  X.cr L.tmps.size L.assign as/\X.cr L.tmps.size L.body bd/\∀p∈ps,p<L.tmps.size
 |_,_=>False
structure M(T:Ty)(X:Xt)(h:Hp)(w:World):Prop where
 inj:∀b c b' c' r,T b=some c->T b'=some c'->c.real=some r->c'.real=some r->b=b'
 lt:∀r,T.rng r->r<w.heap.size
 notX:∀r,T.rng r->¬X r
 obj:∀b,YR T X w h[b]?<|T b
def Mf{T k:Ty}{X:Xt}{w w':World}(f:Stp T w k w')(o:Option AObj)(c:Option TC)
 (e:∀t r,c=some t->t.real=some r->w'.heap[r]?=w.heap[r]?) (h:YR T X w o c):YR k X w' o c:=by
 cases o with
 |none=>cases c<;>exact h
 |some o=>
  cases o with
  |dead=>cases c<;>exact h
  |gone=>
   cases c with
   |none=>exact h
   |some c=>
    cases c with
    |row _ _ r _ _=>cases r<;>exact h
    |map _=>exact h
    |iter _=>exact h
    |loop _=>exact h
  |row sz es=>
   cases c with
   |none=>exact h
   |some c=>
    cases c with
    |map _=>exact h
    |iter _=>exact h
    |loop _=>exact h
    |row x g r C B=>
     obtain⟨rfl,h1,h2,b,d⟩:=h;refine⟨rfl,h1,h2,b,?_⟩;cases r with
     |none=>grind
     |some r=>
      have z:=e _ r rfl rfl
      grind [JP,at_eq]
  |map y vs=>
   cases c with
   |none=>exact h
   |some c=>
    cases c with
    |row _ _ _ _ _=>exact h
    |iter _=>exact h
    |loop _=>exact h
    |map r=>
     have⟨es,a,l,h1,i,h2,b,d⟩:=h;exact⟨es,a,l,⟨(e _ r rfl rfl).trans h1.1,h1.2⟩,i,h2,XT f y _ b,XT f vs _ d⟩
  |iter s v=>
   cases c with
   |none=>exact h
   |some c=>
    cases c with
    |row _ _ _ _ _=>exact h
    |map _=>exact h
    |loop _=>exact h
    |iter r=>exact(e _ r rfl rfl).trans h
  |loop q j fr ps as bd=>
   cases c with
   |none=>exact h
   |some c=>
    cases c with
    |row _ _ _ _ _=>exact h
    |map _=>exact h
    |iter _=>exact h
    |loop r=>
     have⟨L,h1,h2,b,d,m,n,u,p⟩:=h;exact⟨L,(e _ r rfl rfl).trans h1,h2,b,d,Me f m,n,u,p⟩
def Mg{T a:Ty}{X:Xt}{w w':World}(b:Step T w a w')(o:Option AObj)(c:Option TC)
 (d:∀t r,c=some t->t.real=some r->w'.heap[r]?=w.heap[r]?) (h:YR T X w o c):YR a X w' o c:=Mf b.stp o c d h
def Xr{T:Ty}{X:Xt}{h:Hp}{w w':World}(m:M T X h w)(c:Step T w T w')(e:∀r,T.rng r->w'.heap[r]?=w.heap[r]?):M T X h w' where
 inj:=m.inj
 lt r a:=ZYh (m.lt r a) c.size
 notX:=m.notX
 obj b:=Mg c _ _ (λt r d a=>e r ⟨b,t,d,a⟩)<|m.obj b
def upd(T:Ty)(b:Nat)(c:TC):Ty:=λx=>if x=b then some c else T x
theorem upd_same(T:Ty)(b:Nat)(c:TC):upd T b c b=some c:=by simp[upd]
theorem upd_ne(T:Ty){b x:Nat}(c:TC)(h:x≠b):upd T b c x=T x:=by grind [upd]
def Ks(h:Hp)(b:Nat)(o:AObj)(c:b<=h.length)(x:Nat):(setH h b o)[x]?=if x=b then some o else h[x]?:=by
 unfold setH;by_cases a:b<h.length
 .have:Nat.blt b h.length=true:=by simp_all
  grind
 .have e:b=h.length:=by omega
  have:Nat.blt h.length h.length=false:=by simp_all[ZYH]
  grind
def WZ{T:Ty}{X:Xt}{h:Hp}{w w':World}(m:M T X h w)(b:Nat)(o:AObj)(c:TC)(q:b<=h.length)
 (k:Step T w (upd T b c) w')
 (f:∀a c' j,a≠b->T a=some c'->c'.real=some j->w'.heap[j]?=w.heap[j]?)
 (i:∀r,c.real=some r->r<w'.heap.size/\¬X r/\∀a c',a≠b->T a=some c'->c'.real≠some r)
 (l:YR (upd T b c) X w' (some o)<|some c):M (upd T b c) X (setH h b o) w' where
 inj b1 c1 b2 c2 r h1 h2 h3 h4:=by
  by_cases p:b1=b<;>by_cases s:b2=b
  .omega
  .grind [upd_same,upd_ne]
  .grind [upd_same,upd_ne]
  .rw[upd_ne _ _ p]at h1;rw[upd_ne _ _ s]at h2;exact m.inj b1 c1 b2 c2 r h1 h2 h3 h4
 lt r d:=by
  have⟨a,c',g,d⟩:=d;by_cases e:a=b
  .grind [upd_same]
  .rw[upd_ne _ _ e]at g;exact ZYh (m.lt r ⟨a,c',g,d⟩) k.size
 notX r d:=by
  have⟨a,c',g,d⟩:=d;by_cases e:a=b
  .grind [upd_same]
  .rw[upd_ne _ _ e]at g;exact m.notX r ⟨a,c',g,d⟩
 obj x:=by
  rw[Ks h b o q x];by_cases e:x=b
  .simp_all[upd_same]
  .rw[if_neg e,upd_ne _ _ e];exact Mg k _ _ (λt r n d=>f x t r e n d)<|m.obj x
def alloc_old(w:World)(o:Obj){k:Nat}(h:k<w.heap.size):(w.alloc o).heap[k]?=w.heap[k]?:=RowKit.Below.heap_alloc w o k h
theorem Wo(w:World)(o:Obj):(w.alloc o).heap[w.heap.size]?=some o:=by show(w.heap.push o)[w.heap.size]?=some o;simp
def VD(T:Ty)(w:World)(ro:Obj)(b:Nat)(c:TC)(f:T b=none)(d:∀r,c.real=some r->r=w.heap.size):Step T w (upd T b c) (w.alloc ro) where
 os:=rfl
 tape:=rfl
 output:=rfl
 size:=by simp_all
 le x c' hx:=⟨c',by rw[upd_ne _ _<|by grind];grind,.refl _⟩
 keep x hx _:=alloc_old w ro hx
 rng x hx:=by
  have⟨a,c',h1,h2⟩:=hx;by_cases e:a=b
  .grind [upd_same]
  .rw[upd_ne _ _ e]at h1;exact .inl ⟨a,c',h1,h2⟩
 drawn _:=ZXh _
def UT(T:Ty)(w:World)(ro:Obj):Step T w T (w.alloc ro) where
 os:=rfl
 tape:=rfl
 output:=rfl
 size:=by simp_all
 le x c' hx:=⟨c',hx,.refl _⟩
 keep x hx _:=alloc_old w ro hx
 rng x hx:=.inl hx
 drawn _:=ZXh _
def JQ{T:Ty}{X:Xt}{h:Hp}{w:World}(m:M T X h w)(k:∀r,X r->r<w.heap.size)(b:Nat)(o:AObj)(c:TC)(ro:Obj)(g:b<=h.length)(i:T b=none)
 (e:∀r,c.real=some r->r=w.heap.size) (a:YR (upd T b c) X (w.alloc ro) (some o)<|some c):M (upd T b c) X (setH h b o) (w.alloc ro):=
 WZ m b o c g (VD T w ro b c i e)
  (λd c' j _ h1 h2=>alloc_old w ro<|m.lt j ⟨d,c',h1,h2⟩)
  (λr f=>by
   have:=e r f;exact⟨by simp_all,λl=>by grind,λd c' _ h1 h2=>by have:=m.lt _ ⟨d,c',h1,h2⟩;omega⟩)
  a
def JR{T:Ty}{X:Xt}{h:Hp}{w:World}(m:M T X h w){b:Nat}(a:h[b]?=none\/h[b]?=some .dead):T b=none:=by
 have:=m.obj b;rcases a with a|a<;>rw[a]at this<;>cases d:T b with
 |none=>rfl
 |some c=>rw[d]at this;exact this.elim
def XV{T:Ty}{X:Xt}{h:Hp}{w:World}(m:M T X h w){b sz:Nat}{es:List AV}(d:h[b]?=some (.row sz es)):
 ∃r C B,T b=some (.row sz es.length r C B)/\0<sz/\B+es.length<=C/\(match r with
  |none=>C=0
  |some r=>∃cs el,w.heap[r]?=some (.cells cs el (0,0))/\cs.size=C*sz/\ZA T X w sz r es (B*sz)):=by
 have:=m.obj b;rw[d]at this;cases a:T b with
 |none=>rw[a]at this;exact this.elim
 |some c=>
  rw[a]at this;cases c with
  |map _=>exact this.elim
  |iter _=>exact this.elim
  |loop _=>exact this.elim
  |row e g r C B=>
   obtain⟨rfl,rfl,h1,h2,f⟩:=this
   grind
def JS{T:Ty}{X:Xt}{h:Hp}{w:World}(m:M T X h w){b:Nat}{d vs:List AV}(f:h[b]?=some (.map d vs)):
 ∃r es a l,T b=some (.map r)/\Zpj w r es a/\d.Nodup/\List.Perm l es.toList/\Rs T X w d (l.map (·.key))/\Rs T X w vs (l.map (·.val)):=by
 have:=m.obj b;rw[f]at this;cases e:T b with
 |none=>rw[e]at this;exact this.elim
 |some c=>
  rw[e]at this;cases c with
  |row _ _ _ _ _=>exact this.elim
  |iter _=>exact this.elim
  |loop _=>exact this.elim
  |map r=>
   have⟨es,a,l,h1⟩:=this
   grind
def Ce{T:Ty}{X:Xt}{h:Hp}{w:World}(m:M T X h w){b:Nat}{s:ByteArray}{a:Nat}(e:h[b]?=some (.iter s a)):
 ∃r,T b=some (.iter r)/\w.heap[r]?=some (.stringIter s a):=by
 have:=m.obj b;rw[e]at this;cases d:T b with
 |none=>rw[d]at this;exact this.elim
 |some c=>
  rw[d]at this;cases c with
  |row _ _ _ _ _=>exact this.elim
  |map _=>exact this.elim
  |loop _=>exact this.elim
  |iter r=>exact⟨r,rfl,this⟩
def Cf{T:Ty}{X:Xt}{h:Hp}{w:World}(m:M T X h w){b:Nat}{d:LoopState}{a:AExit}{fr:Fr}{ps:List Nat}{as bd:ACode}(f:h[b]?=some (.loop d a fr ps as bd)):
 ∃r,T b=some (.loop r)/\∃L:Loop,w.heap[r]?=some (.loop L)/\L.state=d/\L.pending=XU a/\L.params.toList=ps/\FrR T X w fr L.tmps/\
  X.cr L.tmps.size L.assign as/\X.cr L.tmps.size L.body bd/\∀p∈ps,p<L.tmps.size:=by
 have:=m.obj b;rw[f]at this;cases e:T b with
 |none=>rw[e]at this;exact this.elim
 |some c=>
  rw[e]at this;cases c with
  |row _ _ _ _ _=>exact this.elim
  |map _=>exact this.elim
  |iter _=>exact this.elim
  |loop r=>exact⟨r,rfl,this⟩
variable {P:Program} {E:Env} {T:Ty} {X:Xt} {w:World}
theorem Qr:∀{as:List AV}{vs:List Value},Rs T X w as vs->as.length=vs.length
 |[],vs,h=>by rw[show vs=[]from h];rfl
 |a::as,vs,h=>by
  obtain⟨v,b,rfl,_,h2⟩:=h;simp[Qr h2]
def Wp:∀{as:List AV}{vs:List Value}(i:Nat){a:AV},Rs T X w as vs->as[i]?=some a->∃v,vs[i]?=some v/\R T X w a v
 |[],_,i,a,_,h=>by grind
 |b::as,vs,i,a,h,hi=>by
  obtain⟨v,e,rfl,h1,h2⟩:=h;cases i with
  |zero=>simp at hi;subst hi;exact⟨v,by simp,h1⟩
  |succ i=>have⟨v',d,c⟩:=Wp i h2 hi;exact⟨v',by simpa using d,c⟩
theorem QR{as b:List AV}{vs us:List Value}(h:Rs T X w as vs)(k:Rs T X w b us):Rs T X w (as++b) (vs++us):=by
 induction as generalizing vs with
 |nil=>rw[show vs=[]from h];grind
 |cons a as c=>
  obtain⟨v,d,rfl,h1,h2⟩:=h;exact⟨v,d++us,rfl,h1,c h2⟩
theorem Kt{as:List AV}{vs:List Value}(n:Nat)(h:Rs T X w as vs):Rs T X w (as.take n) (vs.take n):=by
 induction as generalizing vs n with
 |nil=>grind [Rs]
 |cons a as b=>
  obtain⟨v,c,rfl,h1,h2⟩:=h;cases n with
  |zero=>grind
  |succ n=>exact⟨v,c.take n,by simp,h1,b n h2⟩
theorem VE{as:List AV}{vs:List Value}(n:Nat)(h:Rs T X w as vs):Rs T X w (as.drop n) (vs.drop n):=by
 induction as generalizing vs n with
 |nil=>grind [Rs]
 |cons a as c=>
  obtain⟨v,b,rfl,h1,h2⟩:=h;cases n with
  |zero=>exact⟨v,b,rfl,h1,h2⟩
  |succ n=>grind
def Cg{as:List AV}{vs:List Value}(i:Nat){a:AV}{v:Value}(h:Rs T X w as vs)(e:R T X w a v):Rs T X w (as.set i a) (vs.set i v):=by
 induction as generalizing vs i with
 |nil=>grind [Rs]
 |cons b as d=>
  obtain⟨u,c,rfl,h1,h2⟩:=h;cases i with
  |zero=>exact⟨v,c,by simp,e,h2⟩
  |succ i=>exact⟨u,c.set i v,by simp,h1,d i h2⟩
def Cj:∀{cs:List AV}{r o:Nat}(i:Nat){a:AV},ZV T X w r cs o->cs[i]?=some a->∃v,World.at w r (o+i)=some v/\R T X w a v
 |[],_,_,i,_,_,h=>by grind
 |c::cs,r,o,i,a,h,hi=>by
  have⟨h1,h2⟩:=h;cases i with
  |zero=>simp at hi;subst hi;exact h1
  |succ i=>have⟨v,b,d⟩:=Cj i h2 hi;exact⟨v,by rw[show o+(i+1)=o+1+i by omega];exact b,d⟩
def Ku{cs:List AV}{r o:Nat}(n:Nat)(h:ZV T X w r cs o):ZV T X w r (cs.drop n) (o+n):=by
 induction cs generalizing n o with
 |nil=>simp[ZV]
 |cons c cs a=>
  cases n with
  |zero=>grind
  |succ n=>have:=a n h.2;grind
def Mh{cs:List AV}{r o:Nat}(n:Nat)(h:ZV T X w r cs o):ZV T X w r (cs.take n) o:=by
 induction cs generalizing n o with
 |nil=>grind
 |cons c cs a=>
  cases n with
  |zero=>simp[ZV]
  |succ n=>exact⟨h.1,a n h.2⟩
def Kv{cs:List AV}{r o:Nat}(h:ZV T X w r cs o):∃vs:List Value,(∀j v,vs[j]?=some v->World.at w r (o+j)=some v)/\Rs T X w cs vs:=by
 induction cs generalizing o with
 |nil=>exact⟨[],by simp,rfl⟩
 |cons c cs b=>
  have⟨⟨v,h1,h2⟩,h3⟩:=h;have⟨vs,d,a⟩:=b h3;refine⟨v::vs,λj u e=>?_,v,vs,rfl,h2,a⟩
  grind
theorem Xs{cs:List AV}{vs:List Value}{r o:Nat}(h:Rs T X w cs vs)(b:∀j v,vs[j]?=some v->World.at w r (o+j)=some v):ZV T X w r cs o:=by
 induction cs generalizing vs o with
 |nil=>trivial
 |cons c cs a=>
  obtain⟨v,e,rfl,h1,h2⟩:=h;exact⟨⟨v,by simpa using b 0 v (by simp),h1⟩,a h2<|λj u d=>by rw[show o+1+j=o+(j+1)by omega];simp_all⟩
def Ck{cs a:List AV}{r o:Nat}(h:ZV T X w r cs o)(k:ZV T X w r a<|o+cs.length):ZV T X w r (cs++a) o:=by
 induction cs generalizing o with
 |nil=>grind
 |cons c cs b=>exact⟨h.1,b h.2<|by grind⟩
def Kw:∀{es:List AV}{sz r o:Nat}(i:Nat){e:AV},ZA T X w sz r es o->es[i]?=some e->e.cells.length=sz/\ZV T X w r e.cells (o+i*sz)
 |[],_,_,_,i,_,_,h=>by grind
 |a::es,sz,r,o,i,e,h,hi=>by
  cases i with
  |zero=>
   simp at hi;subst hi;cases a with
   |agg cs=>exact⟨h.1,by simpa[AV.cells]using h.2.1⟩
   |_=>exact⟨h.1.symm,by simpa[AV.cells,ZV]using h.2.1⟩
  |succ i=>
   have h2:ZA T X w sz r es (o+sz):=by cases a<;>exact h.2.2
   have:=Kw i h2 hi;rw[show o+(i+1)*sz=o+sz+i*sz by rw[ZYz];omega]
   exact this
def UU{es:List AV}{sz r o:Nat}(n:Nat)(h:ZA T X w sz r es o):ZA T X w sz r (es.drop n) (o+n*sz):=by
 induction es generalizing n o with
 |nil=>simp[ZA]
 |cons a es b=>
  cases n with
  |zero=>grind
  |succ n=>
   have h2:ZA T X w sz r es (o+sz):=by cases a<;>exact h.2.2
   grind
def UV{es:List AV}{sz r o:Nat}(n:Nat)(h:ZA T X w sz r es o):ZA T X w sz r (es.take n) o:=by
 induction es generalizing n o with
 |nil=>grind
 |cons a es b=>
  cases n with
  |zero=>simp[ZA]
  |succ n=>
   cases a with
   |agg cs=>exact⟨h.1,h.2.1,b n h.2.2⟩
   |_=>exact⟨h.1,h.2.1,b n h.2.2⟩
def flat(es:List AV):List AV:=es.flatMap AV.cells
def Kx{es:List AV}{sz r o:Nat}(h:ZA T X w sz r es o):ZV T X w r (flat es) o/\(flat es).length=es.length*sz/\∀e∈es,e.cells.length=sz:=by
 induction es generalizing o with
 |nil=>simp[flat,ZV]
 |cons a es d=>
  have h2:ZA T X w sz r es (o+sz):=by cases a<;>exact h.2.2
  have⟨b,c⟩:=Kw (es:=a::es) (e:=a) 0 h<|by simp
  have e:flat (a::es)=a.cells++flat es:=by simp[flat]
  rw[e];refine⟨Ck (by grind) (by grind),by grind,?_⟩
  grind
def Wq{es:List AV}{sz r o:Nat}(c:∀e∈es,e.cells.length=sz)(h:ZV T X w r (flat es) o):ZA T X w sz r es o:=by
 induction es generalizing o with
 |nil=>trivial
 |cons a es f=>
  have e:flat (a::es)=a.cells++flat es:=by simp[flat]
  rw[e]at h;have b:=c a<|by simp
  have h2:=Ku a.cells.length h;rw[List.drop_left,b]at h2;have h1:=Mh a.cells.length h;rw[List.take_left]at h1;have d:=f (λx g=>c x<|by grind) h2
  cases a with
  |agg cs=>exact⟨b,h1,d⟩
  |_=>exact⟨b.symm,h1.1,d⟩
def HT{a:AV}{v:Value}(b:scalar a=true)(h:R T X w a v):v.oneCell'=true/\a.cells=[a]/\v.cells = #[v]:=by
 cases a<;>simp[scalar]at b<;>simp only[R]at h
 case bool=>subst h;exact⟨rfl,rfl,rfl⟩
 case int=>subst h;exact⟨rfl,rfl,rfl⟩
 case str=>subst h;exact⟨rfl,rfl,rfl⟩
 case nilp=>subst h;exact⟨rfl,rfl,rfl⟩
 case nilsl=>subst h;exact⟨rfl,rfl,rfl⟩
 case nilmap=>subst h;exact⟨rfl,rfl,rfl⟩
 case nilfn=>subst h;exact⟨rfl,rfl,rfl⟩
 case nilif=>subst h;exact⟨rfl,rfl,rfl⟩
 case iptr=>obtain⟨r,o,rfl,_⟩:=h;exact⟨rfl,rfl,rfl⟩
 case isl=>obtain⟨r,o,c,rfl,_⟩:=h;exact⟨rfl,rfl,rfl⟩
 case imap=>obtain⟨r,o,c,l,rfl,_⟩:=h;exact⟨rfl,rfl,rfl⟩
 case ifc=>obtain⟨u,rfl,_⟩:=h;exact⟨rfl,rfl,rfl⟩
 case clo=>obtain⟨f,c,rfl,_⟩:=h;exact⟨rfl,rfl,rfl⟩
 case ptr=>obtain⟨⟨p,rfl⟩,_⟩:=h;exact⟨rfl,rfl,rfl⟩
 case sl=>obtain⟨⟨p,l,c,rfl⟩,_⟩:=h;exact⟨rfl,rfl,rfl⟩
 case mp=>obtain⟨r,_,rfl⟩:=h;exact⟨rfl,rfl,rfl⟩
 case it=>obtain⟨r,_,rfl⟩:=h;exact⟨rfl,rfl,rfl⟩
 case yld=>obtain⟨r,_,rfl⟩:=h;exact⟨rfl,rfl,rfl⟩
end Go.AM
namespace Go.AM
open Go
variable [Dr]
variable {P:Program} {E:Env} {T:Ty} {X:Xt} {w:World} {h:Hp} {fr:Fr} {a:Act}
mutual
def Q3:Value->AV->Bool
 |_,.bot=>true
 | .bool b,.bool c=>b==c
 | .int k n,.int j m=>decide (k=j)&&n==m
 | .string s,.str t=>Z3 s t
 | .pointer none,.nilp=>true
 | .slice none 0 0,.nilsl=>true
 | .slice none 0 0,.isl _ _ _ []=>true
 | .map none,.nilmap=>true
 | .nilFunc,.nilfn=>true
 | .nilIface,.nilif=>true
 | .iface t v,.ifc u x=>t==u&&Q3 v x
 | .agg vs,.agg cs=>Wr vs.toList cs
 |_,_=>false
def Wr:List Value->List AV->Bool
 |[],[]=>true
 |v::vs,c::cs=>Q3 v c&&Wr vs cs
 |_,_=>false
end
theorem Ky(a b:ByteArray):Z3 a b=true↔a=b:=by
 unfold Z3;constructor
 .intro h;have:=eq_of_beq h;cases a;simp at this;rw[this]
 grind
mutual
def Ws:(v:Value)->(c:AV)->Q3 v c=true->R T X w c v
 |v,.bot,_=>trivial
 |v,.bool c,h=>by cases v<;>simp[Q3]at h;subst h;rfl
 |v,.int j m,h=>by
  cases v<;>simp[Q3]at h
  obtain⟨rfl,rfl⟩:=h;rfl
 |v,.str t,h=>by
  cases v<;>simp[Q3]at h
  rw[Ky]at h;subst h;rfl
 |v,.nilp,h=>by
  cases v with
  |pointer a=>cases a<;>simp[Q3]at h;rfl
  |_=>simp[Q3]at h
 |v,.nilsl,h=>by
  cases v with
  |slice a l c=>
   cases a<;>cases l<;>cases c<;>simp[Q3]at h
   rfl
  |_=>simp[Q3]at h
 |v,.nilmap,h=>by
  cases v with
  |map a=>cases a<;>simp[Q3]at h;rfl
  |_=>simp[Q3]at h
 |v,.nilfn,h=>by cases v<;>simp[Q3]at h;rfl
 |v,.nilif,h=>by cases v<;>simp[Q3]at h;rfl
 |v,.ifc u x,h=>by
  cases v<;>simp[Q3]at h
  obtain⟨rfl,h⟩:=h;exact⟨_,rfl,Ws _ x h⟩
 |v,.agg cs,h=>by
  cases v<;>simp[Q3]at h
  exact⟨_,rfl,HU _ cs h⟩
 |v,.tup _,h=>by cases v<;>simp[Q3]at h
 |v,.iptr _ _,h=>by cases v<;>simp[Q3]at h
 |v,.isl bw ex sz es,h=>by
  cases v with
  |slice a l c=>
   cases a<;>cases l<;>cases c<;>cases es<;>simp[Q3]at h
   exact⟨none,0,0,rfl,rfl,ZXh _,λ_=>rfl,by cases bw<;>rfl,.inl rfl⟩
  |_=>simp[Q3]at h
 |v,.imap _ _ _,h=>by cases v<;>simp[Q3]at h
 |v,.clo _ _ _,h=>by cases v<;>simp[Q3]at h
 |v,.ptr _ _ _ _,h=>by cases v<;>simp[Q3]at h
 |v,.sl _ _ _ _ _,h=>by cases v<;>simp[Q3]at h
 |v,.mp _,h=>by cases v<;>simp[Q3]at h
 |v,.it _,h=>by cases v<;>simp[Q3]at h
 |v,.yld _,h=>by cases v<;>simp[Q3]at h
def HU:(vs:List Value)->(cs:List AV)->Wr vs cs=true->Rs T X w cs vs
 |[],[],_=>rfl
 |[],_::_,h=>by simp[Wr]at h
 |_::_,[],h=>by simp[Wr]at h
 |v::vs,c::cs,h=>by
  simp[Wr]at h;exact⟨v,vs,rfl,Ws v c h.1,HU vs cs h.2⟩
end
def Zr:Operand->Arg->Bool
 | .tmp t,.t n=>t==n
 | .const v,.c c=>Q3 v c
 | .func f,.f g=>f==g
 | .global g,.g k=>g==k
 |_,_=>false
def GlS(w:World)(g:Nat):AV->Prop
 | .iptr _ cs=>∃c t f,w.heap[g]?=some (.cells c t f)/\c.size=cs.length
 |_=>True
def GlR(E:Env)(T:Ty)(X:Xt)(w:World):Prop:=∀g,R T X w (E.gl g) (.pointer<|some ⟨g,0,none⟩)/\GlS w g (E.gl g)
structure Ctx(E:Env)(T:Ty)(X:Xt)(h:Hp)(w:World):Prop where
 m:M T X h w
 gl:GlR E T X w
 hX:∀r,X r->r<w.heap.size
def evR(c:GlR E T X w)(d:FrR T X w fr a.tmps){x:Operand}{y:Arg}(b:Zr x y=true):R T X w (ev E fr y) (a.eval x):=by
 cases x<;>cases y<;>simp[Zr]at b
 .subst b;exact d _
 .exact Ws _ _ b
 .subst b;exact(c _).1
 .subst b;exact⟨#[],#[],rfl,rfl,rfl⟩
def Wt:List Operand->List Arg->Bool
 |[],[]=>true
 |x::xs,y::ys=>Zr x y&&Wt xs ys
 |_,_=>false
def VF(b:GlR E T X w)(c:FrR T X w fr a.tmps):∀{xs:List Operand}{ys:List Arg},Wt xs ys=true->Rs T X w (ys.map<|ev E fr) (xs.map a.eval)
 |[],[],_=>rfl
 |[],_::_,h=>by grind [Wt]
 |_::_,[],h=>by grind [Wt]
 |x::xs,y::ys,h=>by
  simp[Wt]at h;exact⟨_,_,rfl,evR b c h.1,VF b c h.2⟩
def Sim(P:Program)(T:Ty)(X:Xt)(h:Hp)(w:World)(s:Sem Next)(res:Zt):Prop:=
 ∃a w' rv,(s.run P w=.ok (.value rv) w'\/(s.run P w=.ok .skip w'/\rv=undef))/\Step T w a w'/\M a X (ZH h res.2.2) w'/\R a X w' res.1 rv
theorem Sim.pure{s:Sem Next}{v:AV}{rv:Value}{rs:List Nat}(m:M T X h w)(b:s.run P w=.ok (.value rv) w)(a:R T X w v rv):Sim P T X h w s (v,rs,none):=
 ⟨T,w,rv,.inl b,.refl _ _,m,a⟩
theorem ZY{v:Option AV}{res:Zt}(h:Zl v=some res):∃u,v=some u/\res=(u,[],none):=by
 cases v<;>simp[Zl]at h
 grind
def Wu{v:Value}{b:Bool}(h:R T X w (.bool b) v):v=.bool b:=h
def QS{v:Value}{k:IntKind}{n:Int}(h:R T X w (.int k n) v):v=.int k n:=h
def Yj{v:Value}{s:ByteArray}(h:R T X w (.str s) v):v=.string s:=h
def toList_data(s:ByteArray):s.toList=s.data.toList:=by
 exact ByteArray.toList_eq s
def Cn{b:BinOp}{k:IntKind}{x y:Int}{v:AV}(a:JO b k x y=some v):
 ∃rv,R T X w v rv/\∀ty,(binOp b ty (.int k x)<|.int k y).run P w=.ok rv w:=by
 cases b<;>simp[JO,ZYO]at a
 case quo=>obtain⟨c,rfl⟩:=a;exact⟨_,rfl,λty=>by simp[binOp,Op.intDiv,c]⟩
 case rem=>obtain⟨c,rfl⟩:=a;exact⟨_,rfl,λty=>by simp[binOp,Op.intDiv,c]⟩
 all_goals
  subst a;exact⟨_,rfl,λty=>by simp[binOp,Op.intArith,Op.intBits,Op.intCmp]⟩
def Co{a:BinOp}{x y:ByteArray}{v:AV}(b:UR a x y=some v):
 ∃rv,R T X w v rv/\∀ty,(binOp a ty (.string x)<|.string y).run P w=.ok rv w:=by
 cases a<;>simp[UR,ZZ5]at b
 case add=>
  obtain⟨d,rfl⟩:=b;refine⟨_,rfl,λty=>?_⟩
  have c:¬(((x.size+y.size:Nat):Int)>IntKind.i64.max):=by
   have:IntKind.i64.max=9223372036854775807:=by decide
   omega
  simp_all[binOp,Op.stringOp]
 all_goals
  subst b;exact⟨_,rfl,λty=>by simp[binOp,Op.stringOp,Z3,WW,toList_data]⟩
def Cp{b:BinOp}{x y v:AV}{h f:Value}(a:YZ b x y=some v)(g:R T X w x h)(e:R T X w y f):
 ∃rv,R T X w v rv/\∀ty,(binOp b ty h f).run P w=.ok rv w:=by
 cases x<;>try (simp[YZ]at a)
 case int k m=>
  cases y<;>try (simp[YZ]at a)
  case int j n=>
   cases QS g;cases QS e;by_cases i:b=.shl
   .subst i;simp only[ZYO,Option.some.injEq]at a;obtain⟨c,rfl⟩:=a;exact⟨_,rfl,λty=>by simp[binOp,Op.shift,c]⟩
   by_cases d:b=.shr
   .subst d;simp only[ZYO,Option.some.injEq]at a;obtain⟨c,rfl⟩:=a;exact⟨_,rfl,λty=>by simp[binOp,Op.shift,c]⟩
   simp_all[Cn]
 case str s=>
  cases y<;>try (simp[YZ]at a)
  case str t=>
   cases Yj g;cases Yj e;exact Co a
def Cq{c:UnOp}{x v:AV}{e:Value}(a:Vy c x=some v)(d:R T X w x e):
 ∃rv,R T X w v rv/\(Op.unary c e).run P w=.ok rv w:=by
 cases x<;>try (simp[Vy]at a)
 case bool b=>
  cases Wu d;cases c<;>simp[Vy]at a
  subst a;exact⟨_,rfl,by simp[Op.unary]⟩
 case int k n=>
  cases QS d;cases c<;>simp[Vy]at a
  subst a;exact⟨_,rfl,by simp[Op.unary,Op.intArith]⟩
end Go.AM
namespace Go.AM
open Go
variable [Dr]
variable {P:Program} {E:Env} {T:Ty} {X:Xt} {w:World} {h:Hp} {fr:Fr} {a:Act}
def ZF(P:Program)(t:TypeId):Bool:=
 match P.underlying t with
 |some (.struct _)|some (.array _ _)=>true
 |_=>false
def ZR(P:Program)(t:TypeId):Option Nat:=(P.info? t).map (·.size)
mutual
def tk(P:Program):Nat->TypeId->Option (List Nat)
 |0,_=>none
 |d+1,t=>
  match P.underlying t with
  |some .bool=>some [0]
  |some (.int _)=>some [1]
  |some .string=>some [2]
  |some (.struct fs)=>if P.stoodInHeld t then none else tkf P d fs.toList 0
  |some (.array n e)=>
   match tk P d e with
   |some l=>if ZR P e=some l.length then some (List.replicate n l).flatten else none
   |none=>none
  |_=>none
def tkf(P:Program):Nat->List Field->Nat->Option (List Nat)
 |0,_,_=>none
 |_+1,[],_=>some []
 |d+1,f::fs,off=>
  if f.name = "_"\/f.offset≠off then none else
  match tk P d f.type with
  |some l=>if ZR P f.type=some l.length then(tkf P d fs<|off+l.length).map (l++·)else none
  |none=>none
end
def mkV(P:Program)(t:TypeId)(vs:List Value):Value:=if ZF P t then .agg vs.toArray else vs.headD undef
def V1{t:TypeId}(w:World){d:TypeDesc}(a:P.underlying t=some d):(isAgg t).run P w=.ok (ZF P t) w:=by
 simp[isAgg,run_underlying a,ZF,a];cases d<;>rfl
def QY{t:TypeId}(w:World){n:Nat}(a:ZR P t=some n):(sizeOf t).run P w=.ok n w:=by
 unfold ZR at a;cases b:P.info? t with
 |none=>grind
 |some i=>
  simp_all[sizeOf,typeInfo]
theorem JT{t:TypeId}(w:World){d:TypeDesc}(b:P.underlying t=some d){n off:Nat}(e:ZR P t=some n)(cs:Array Value)(h1:ZF P t=false->n=1)(f:off+n<=cs.size):
 (part t cs off).run P w=.ok (mkV P t<|(cs.toList.drop off).take n) w:=by
 simp only[part,Sem.run_bind,V1 w b];cases a:ZF P t with
 |true=>
  simp only[if_true,Sem.run_bind,QY w e,Result.andThen_ok,mkV,a];simp[Sem.run_pure];congr 2
  grind
 |false=>
  have:=h1 a;have c:off<cs.size:=by omega
  simp_all[mkV,ZXP]
def UW(P:Program)(d:Nat)(t:TypeId)(x y:Value)(b:Bool):Prop:=∀w:World,(Op.equalIn d t x y).run P w=.ok b w
def Mi:∀{l d:List Nat}{a c:List AV}{b:Bool},ZE (l++d) a c=some b->∃e f,ZE l (a.take l.length) (c.take l.length)=some e/\ZE d (a.drop l.length) (c.drop l.length)=some f/\b=(e&&f):=by
 intro l;induction l with
 |nil=>grind [ZE]
 |cons k l g=>
  intro d a c b h;cases a with
  |nil=>grind [ZE]
  |cons x a=>
   cases c with
   |nil=>grind [ZE]
   |cons y c=>
    simp[ZE]at h;cases h1:eq1 k x y with
    |none=>grind
    |some i=>
     rw[h1]at h;cases h2:ZE (l++d) a c with
     |none=>grind
     |some j=>
      grind [ZE]
def X5:∀{d:List Nat}{a c:List AV}{b:Bool},ZE d a c=some b->a.length=d.length/\c.length=d.length:=by
 intro d;induction d with
 |nil=>intro a c b h;cases a<;>cases c<;>simp[ZE]at h<;>simp
 |cons k d e=>
  intro a c b h;cases a with
  |nil=>grind [ZE]
  |cons x a=>
   cases c with
   |nil=>grind [ZE]
   |cons y c=>
    grind [ZE]
theorem Cr{d:Nat}{t:TypeId}{k:Nat}{a:TypeDesc}{x y:AV}{i h:Value}{b:Bool}(e:P.underlying t=some a)
 (j:(a=.bool/\k=0)\/((∃q,a=.int q)/\k=1)\/(a=.string/\k=2)) (c:eq1 k x y=some b) (g:R T X w x i) (f:R T X w y h):UW P (d+1) t i h b:=by
 intro w';rcases j with⟨rfl,rfl⟩|⟨⟨q,rfl⟩,rfl⟩|⟨rfl,rfl⟩
 .cases x<;>cases y<;>simp[eq1]at c
  subst c;cases Wu g;cases Wu f;simp[Op.equalIn,run_underlying e]
 .cases x<;>cases y<;>simp[eq1]at c
  obtain⟨rfl,rfl⟩:=c;cases QS g;cases QS f;simp[Op.equalIn,run_underlying e]
 .cases x<;>cases y<;>simp[eq1]at c
  subst c;cases Yj g;cases Yj f;simp[Op.equalIn,run_underlying e,Z3,beq_toListBytes,toList_data]
def UX{d:Nat}{t:TypeId}{l:List Nat}(h:tk P d t=some l)(a:ZF P t=false):l.length=1:=by
 cases d with
 |zero=>grind [tk]
 |succ d=>
  grind [tk,ZF]
def VG{d:Nat}{t:TypeId}{l:List Nat}(h:tk P d t=some l):∃a,P.underlying t=some a:=by
 cases d with
 |zero=>grind [tk]
 |succ d=>
  unfold tk at h
  grind
def UY{cs:List AV}{vs:List Value}(h:Rs T X w cs vs)(off n:Nat):Rs T X w ((cs.drop off).take n) ((vs.drop off).take n):=Kt n<|VE off h
def Cs{m:Nat}{e:TypeId}{l:List Nat}{g h:List AV}{xs ys:Array Value}(c:∃a,P.underlying e=some a)(A:ZR P e=some l.length)(h1:ZF P e=false->l.length=1)
 (v:∀(g h:List AV)(r p:List Value)(b:Bool),ZE l g h=some b->Rs T X w g r->Rs T X w h p->UW P m e (mkV P e r) (mkV P e p) b)
 (t:Rs T X w g xs.toList) (o:Rs T X w h ys.toList):
 ∀(n s:Nat)(b:Bool),ZE (List.replicate n l).flatten (g.drop<|s*l.length) (h.drop<|s*l.length)=some b->∀w':World,(Op.eqItems m e l.length xs ys<|List.range' s n).run P w'=.ok b w':=by
 intro n;have⟨a,c⟩:=c;induction n with
 |zero=>
  intro s b u w';have C:b=true:=by
   grind [ZE]
  simp_all[Op.eqItems]
 |succ n z=>
  intro s b u w';obtain⟨q,F,d,j,rfl⟩:=Mi u;rw[ZYu,ZYu]at j;have k:=(X5 d).1;have i:=(X5 d).2;have D:=Qr t;have E:=Qr o;simp only[ZXX,List.length_drop]at k i;have f:l.length=0\/s*l.length+l.length<=xs.size/\s*l.length+l.length<=ys.size:=by
   grind
  have x:(part e xs<|s*l.length).run P w'=.ok (mkV P e<|(xs.toList.drop<|s*l.length).take l.length) w':=by
   rcases f with f|f
   .simp_all[part,V1,QY,mkV]
   grind [JT]
  have B:(part e ys<|s*l.length).run P w'=.ok (mkV P e<|(ys.toList.drop<|s*l.length).take l.length) w':=by
   rcases f with f|f
   .simp_all[part,V1,QY]
   grind [JT]
  have y:=v _ _ _ _ q d (UY t _ _) (UY o _ _) w';rw[List.range'_succ];simp only[Op.eqItems,Sem.run_bind,x,B,y,Result.andThen_ok];cases q with
  |false=>simp
  |true=>
   grind
def Ct(d:Nat):(∀(c:Nat)(t:TypeId)(m:List Nat),d<=c->tk P d t=some m->∀(g j:List AV)(C A:List Value)(b:Bool),ZE m g j=some b->Rs T X w g C->Rs T X w j A->UW P c t (mkV P t C) (mkV P t A) b)/\
 (∀(c:Nat)(p:List Field)(off:Nat)(m:List Nat),d<=c+1->tkf P d p off=some m->∀(g j:List AV)(xs ys:Array Value)(b:Bool),ZE m (g.drop off) (j.drop off)=some b->Rs T X w g xs.toList->Rs T X w j ys.toList->∀w':World,(Op.eqFields c xs ys p).run P w'=.ok b w'):=by
 induction d with
 |zero=>grind [tk,tkf]
 |succ d M=>
  constructor
  .intro c t m hd h g j C A b L H G;obtain⟨c,rfl⟩:∃k,c=k+1:=⟨c-1,by omega⟩
   have h0:=h;unfold tk at h;have⟨a,S⟩:=VG h0;rw[S]at h;have E:=(X5 L).1;have D:=(X5 L).2;have r:∀k,m=[k]->ZF P t=false->((a=.bool/\k=0)\/((∃q,a=.int q)/\k=1)\/(a=.string/\k=2))->UW P (c+1) t (mkV P t C) (mkV P t A) b:=by
    intro k hk B aa;subst hk;cases g with
    |nil=>grind
    |cons x g=>
     cases j with
     |nil=>grind
     |cons y j=>
      obtain⟨v,vr,rfl,hv,_⟩:=H;obtain⟨u,ur,rfl,Z,_⟩:=G
      grind [ZE,Cr,mkV]
   cases a with
   |bool=>simp at h;exact r 0 h.symm (by grind [ZF])<|.inl ⟨rfl,rfl⟩
   |int q=>simp at h;exact r 1 h.symm (by grind [ZF])<|.inr<|.inl ⟨⟨q,rfl⟩,rfl⟩
   |string=>simp at h;exact r 2 h.symm (by grind [ZF])<|.inr<|.inr ⟨rfl,rfl⟩
   |struct p=>
    simp only[ZYO,ZZ6]at h;have⟨O,h⟩:=h;intro w';have B:ZF P t=true:=by grind [ZF]
    have V:P.fieldsOf t=p:=by grind [Program.fieldsOf]
    simp only[mkV,B,if_true];rw[run_equalIn_struct w' c t _ _ (by grind) O,V]
    exact M.2 c p.toList 0 m (by omega) h g j _ _ b (by grind) (by grind) (by grind) w'
   |array n e=>
    simp only at h;cases o:tk P d e with
    |none=>grind
    |some l=>
     rw[o]at h;simp only[ZZ5,Option.some.injEq]at h;obtain⟨z,rfl⟩:=h;intro w';have B:ZF P t=true:=by grind [ZF]
     simp only[mkV,B,if_true];obtain⟨i,hi,ac⟩:∃i,P.info? e=some i/\i.size=l.length:=by
      simp_all[ZR]
     have hc:P.cellsOf e=l.length:=by grind [Program.cellsOf]
     rw[run_equalIn_array w' c _ _ S hi,hc,List.range_eq_range'];exact Cs (VG o) z (UX o) (λg j C A b=>M.1 c e l (by omega) o g j C A b) (by simpa using H) (by simpa using G) n 0 b (by grind) w'
   |_=>grind
  .intro c p off m hd h g j xs ys b L H G w';cases p with
   |nil=>
    simp[tkf]at h;subst h;have ab:b=true:=by
     grind [ZE]
    simp_all[Op.eqFields]
   |cons f p=>
    unfold tkf at h;simp only[ZYO,not_or,Decidable.not_not]at h;have⟨⟨hn,Y⟩,h⟩:=h;cases o:tk P d f.type with
    |none=>grind
    |some l=>
     rw[o]at h;simp only[ZZ5,ZXt]at h;obtain⟨z,W,h',rfl⟩:=h;obtain⟨R,b2,s,N,rfl⟩:=Mi L;rw[ZYu,ZYu]at N;have E:=(X5 s).1;have D:=(X5 s).2;have lx:=Qr H;have ly:=Qr G;simp only[ZXX,List.length_drop]at E D;have⟨a,F⟩:=VG o;have h1:=λhh=>UX o hh
     have Q:∀(J:Array Value),(l.length=0\/off+l.length<=J.size)->(part f.type J off).run P w'=.ok (mkV P f.type<|(J.toList.drop off).take l.length) w':=by
      intro J K;rcases K with K|K
      .have B:ZF P f.type=true:=by
        grind
       simp only[part,Sem.run_bind,V1 w' F,Result.andThen_ok,B,if_true,QY w' z,mkV,Sem.run_pure,K];simp;omega
      grind [JT]
     simp only[ZXZ]at lx ly;have U:=Q xs<|by omega
     have py:=Q ys<|by omega
     have e:=M.1 c f.type l (by omega) o _ _ _ _ R s (UY H _ _) (UY G _ _) w'
     subst Y;simp only[Op.eqFields,ne_eq,hn,not_false_eq_true,if_true,Sem.run_bind,U,py,e,Result.andThen_ok];cases R with
     |false=>simp
     |true=>
      grind
def HV{t:TypeId}{h:List Nat}{x y:AV}{g e:Value}{b:Bool}(j:tk P 20 t=some h)(c:Zz (ZF P t) h x y=some b)(f:R T X w x g)(d:R T X w y e):(Op.equal t g e).run P w=.ok b w:=by
 have a:=(Ct (P:=P) (T:=T) (X:=X) (w:=w) 20).1 Op.maxDepth t h (by decide) j
 cases i:ZF P t with
 |true=>
  rw[i]at c;cases x<;>cases y<;>simp[Zz]at c
  obtain⟨vs,rfl,f⟩:=f;obtain⟨us,rfl,d⟩:=d;have:=a _ _ _ _ b c f d w
  simp_all[mkV,Op.equal]
 |false=>
  rw[i]at c;have:=a _ _ [g] [e] b c ⟨g,[],rfl,f,rfl⟩ ⟨e,[],rfl,d,rfl⟩ w
  grind [mkV,Op.equal]
end Go.AM
namespace Go.AM
open Go
variable [Dr]
variable {P:Program} {E:Env} {T:Ty} {X:Xt} {w:World} {h:Hp} {fr:Fr} {a:Act}
def YH(P:Program)(t:TypeId):Option Value:=(P.info? t).bind (·.zero)
def Xu{t:TypeId}(w:World){v:Value}(a:YH P t=some v):(zeroValue t).run P w=.ok v w:=by
 unfold YH at a;cases b:P.info? t with
 |none=>grind
 |some i=>
  simp_all[zeroValue,typeInfo]
def Kz{sz:Nat}{x:AV}{v:Value}(a:fits sz x=true)(b:R T X w x v):x.cells.length=sz/\v.cells.size=sz/\Rs T X w x.cells v.cells.toList/\(∀c∈v.cells.toList,c.oneCell'=true)/\(∀c∈x.cells,scalar c=true):=by
 cases x with
 |agg cs=>
  simp[fits,ZXs]at a;obtain⟨vs,rfl,b⟩:=b;refine⟨a.1,?_,b,?_,a.2⟩
  .grind [Qr,Value.cells,Array.length_toList]
  .intro c j;have⟨i,e⟩:=ZYv.1 j;have g:=Qr b;have d:i<cs.length:=by rw[g];exact(ZXu.1 e).1
   have⟨u,h,k⟩:=Wp i b<|ZXj d;simp only[Value.cells]at e;rw[h]at e;cases e;exact(HT (a.2 _<|ZYA d) k).1
 |_=>
  simp[fits,beq_iff_eq]at a;have⟨h1,h2,f⟩:=HT a.1 b;rw[h2,f,a.2];exact⟨rfl,rfl,⟨_,_,rfl,b,rfl⟩,by simpa using h1,by simpa using a.1⟩
def KA(w:World)(cs:Array Value)(e:TypeId)(j:Nat):World.at (w.alloc<|.cells cs e) w.heap.size j=cs[j]?:=by
 grind [Wo,World.at,World.cell?]
def HW{s:Sem Next}{aid sz:Nat}{es:List AV}{cs:Array Value}{e:TypeId}{C:Nat}{rv:Value}{v:AV}{rs:List Nat}(m:M T X h w)(i:∀r,X r->r<w.heap.size)
 (f:aid<=h.length) (d:T aid=none) (k:0<sz) (p:es.length<=C) (b:cs.size=C*sz) (c:∀x∈es,x.cells.length=sz)
 (n:∃us,Rs T X w (flat es) us/\∀(j:Nat)(u:Value),us[j]?=some u->cs[j]?=some u)
 (a:s.run P w=.ok (.value rv) (w.alloc<|.cells cs e))
 (g:R (upd T aid<|.row sz es.length (some w.heap.size) C 0) X (w.alloc<|.cells cs e) v rv):
 Sim P T X h w s (v,rs,some (aid,.row sz es)):=by
 refine⟨upd T aid<|.row sz es.length (some w.heap.size) C 0,w.alloc<|.cells cs e,rv,.inl a,VD T w _ aid _ d (by simp[TC.real]),?_,g⟩
 refine JQ m i aid _ _ _ f d (by simp[TC.real]) ⟨rfl,rfl,k,by grind,cs,e,Wo w _,b,?_⟩
 have l:=VD T w (.cells cs e) aid (.row sz es.length (some w.heap.size) C 0) d<|by simp[TC.real]
 have⟨us,h1,h2⟩:=n;exact Wq c<|Xs (Yb l _ _ h1)<|λj u o=>by simp_all[KA]
theorem Cu(x:AV):flat [x]=x.cells:=by simp[flat]
def UZ{s:Sem Next}{aid sz:Nat}{x:AV}{v:Value}{e:TypeId}{rs:List Nat}(m:M T X h w)(c:∀r,X r->r<w.heap.size)(b:aid<=h.length)(g:T aid=none)(d:0<sz)
 (i:fits sz x=true) (f:R T X w x v) (a:s.run P w=.ok (.value<|.pointer<|some ⟨w.heap.size,0,none⟩) (w.alloc<|.cells v.cells e)):
 Sim P T X h w s (.ptr aid 0 0 1,rs,some (aid,.row sz [x])):=by
 have⟨h1,h2,l,k,j⟩:=Kz i f;refine HW (C:=1) (e:=e) m c b g d (by simp) (by grind) (by grind) ⟨v.cells.toList,by grind [Cu],by simp⟩ a ?_
 exact⟨⟨_,rfl⟩,sz,1,some w.heap.size,1,0,upd_same _ _ _,ZXh _,λ_=>⟨w.heap.size,rfl,by omega,by simp⟩⟩
def KB(t:TypeId)(v:Value)(w:World):(newVar t v).run P w=.ok ⟨w.heap.size,0,none⟩ (w.alloc<|.cells v.cells t):=rfl
def Mj{s:Sem Next}{x:AV}{v:Value}{e:TypeId}{rs:List Nat}{sz:Nat}{bw:Bool}(m:M T X h w)(n:∀r,X r->r<w.heap.size)(k:fits sz x=true)(i:okc bw x.cells=true)
 (g:R T X w x v) (a:s.run P w=.ok (.value<|.pointer<|some ⟨w.heap.size,0,none⟩) (w.alloc<|.cells v.cells e)):
 Sim P T X h w s (.iptr bw x.cells,rs,none):=by
 have⟨h1,h2,f,o,l⟩:=Kz k g;have b:=UT T w<|.cells v.cells e;refine⟨T,_,_,.inl a,b,Xr m b<|λr c=>alloc_old w _<|m.lt r c,?_⟩
 refine⟨w.heap.size,0,rfl,λc=>by have:=m.lt _ c;omega,λ_ d=>by grind,i,by simp_all,?_⟩
 exact Xs (Yb b _ _ f)<|λj u p=>by simp_all[KA]
theorem addr_add(r o j:Nat):Addr.add ⟨r,o,none⟩ j=⟨r,o+j,none⟩:=by
 grind [Addr.add]
def Xv(P:Program)(t:TypeId)(n:Option Nat):Bool:=
 match P.underlying t with
 |none=>false
 |some _=>if ZF P t then(match n with|some k=>decide (ZR P t=some k)|none=>false)else n.isNone
theorem G0{t:TypeId}{n:Option Nat}{cs:List AV}{r o:Nat}{v:AV}(a:Xv P t n=true)(l:ZV T X w r cs o)(b:takeC n cs=some v):
 ∃rv,(loadVar t ⟨r,o,none⟩).run P w=.ok rv w/\R T X w v rv:=by
 unfold Xv at a;cases i:P.underlying t with
 |none=>grind
 |some d=>
  rw[i]at a;cases e:ZF P t with
  |false=>
   rw[e]at a;simp at a;subst a;cases cs with
   |nil=>grind [takeC]
   |cons c cs=>
    simp[takeC]at b;have⟨⟨u,h1,h2⟩,_⟩:=l
    simp_all[loadVar,V1,World.at]
  |true=>
   rw[e]at a;cases n with
   |none=>grind
   |some k=>
    simp at a;simp[takeC]at b;cases h:Nat.ble k cs.length with
    |false=>grind
    |true=>
     rw[h]at b;simp at b;subst b;have f:k<=cs.length:=ZXL h;have⟨us,h1,h2⟩:=Kv<|Mh k l;have g:=Qr h2;simp[ZYU f]at g;refine⟨.agg us.toArray,?_,us.toArray,rfl,by grind⟩
     simp[loadVar,V1 w i,e,QY w a];rw[g,run_loadCells_list w ⟨r,o,none⟩ us<|λj u m=>by rw[addr_add];exact h1 j u m]
     simp
def JU(m:M T X h w){b sz:Nat}{es:List AV}(q:h[b]?=some (.row sz es)){i off g:Nat}{v:Value}(o:R T X w (.ptr b i off g) v)(e:es.length=g):
 ∃r C B cs el,T b=some (.row sz es.length (some r) C B)/\v=.pointer (some ⟨r,(B+i)*sz+off,none⟩)/\i<es.length/\w.heap[r]?=some (.cells cs el (0,0))/\cs.size=C*sz/\B+es.length<=C/\0<sz/\ZA T X w sz r es (B*sz):=by
 have⟨r,C,B,d,k,s,n⟩:=XV m q;have⟨_,f,u,x,t,y,a,j,c⟩:=o;rw[d]at a;cases a;obtain⟨l,rfl,z,rfl⟩:=c e.symm;have⟨cs,el,h1,h2,p⟩:=n;exact⟨l,C,B,cs,el,d,rfl,by omega,h1,h2,s,k,p⟩
def Cv{s:Sem Next}{t:TypeId}{n:Option Nat}{x:AV}{v:Value}{res:Zt}(m:M T X h w)(A:Xv P t n=true)(f:R T X w x v)
 (y:∀rv,(Instr.loadAt t v).run P w=.ok rv w->s.run P w=.ok (.value rv) w)
 (a:(match(generalizing:=false) x with
  | .iptr _ cs=>Zl<|takeC n cs
  | .ptr b i off g=>
   match h[b]? with
   |some (.row _ es)=>
    bif es.length==g then
     match es[i]? with
     |some e=>(takeC n<|e.cells.drop off).map λv=>(v,[b],none)
     |none=>none
    else none
   |_=>none
  |_=>none)=some res):Sim P T X h w s res:=by
 cases x<;>simp[reduceCtorEq]at a
 case iptr bw cs=>
  obtain⟨u,d,rfl⟩:=ZY a;obtain⟨r,o,rfl,_,_,_,_,J⟩:=f
  grind [G0,Sim.pure,Instr.loadAt,Instr.sureAddr]
 case ptr b i off g=>
  cases j:h[b]? with
  |none=>grind
  |some o=>
   rw[j]at a;cases o<;>simp[reduceCtorEq]at a
   case row sz es=>
    cases p:(es.length==g)with
    |false=>grind
    |true=>
     rw[p]at a;simp[cond_true]at a;cases k:es[i]? with
     |none=>grind
     |some e=>
      rw[k]at a;simp[ZXt]at a;obtain⟨u,d,rfl⟩:=a;obtain⟨r,C,B,cs,el,D,rfl,c,h1,h2,G,H,l⟩:=JU m j f<|by grind
      have⟨F,z⟩:=Kw i l k;have⟨rv,E,q⟩:=G0 A (Ku off z) d;exact⟨T,w,rv,.inl<|y rv<|by grind [Instr.loadAt,Instr.sureAddr],.refl _ _,m,q⟩
end Go.AM
namespace Go.AM
open Go
variable [Dr]
variable {P:Program} {E:Env} {T:Ty} {X:Xt} {w:World} {h:Hp} {fr:Fr} {a:Act}
def KC{T:Ty}{b:Nat}{c:TC}(a:T b=some c):upd T b c=T:=by
 grind [upd]
def JV{w':World}(m:M T X h w){b r:Nat}{c c':TC}{o:AObj}(j:T b=some c)(k:c.real=some r)(n:c'.real=some r)(A:XS c c')(B:b<=h.length)
 (u:w'.os=w.os) (f:w'.tape=w.tape) (q:w'.output=w.output) (y:w'.heap.size=w.heap.size) (z:∀x,x≠r->w'.heap[x]?=w.heap[x]?)
 (l:Step T w (upd T b c') w'->YR (upd T b c') X w' (some o) (some c')) (hdr:Dr.d->w.drawn<=w'.drawn:=by intro _;first|exact ZXh _|exact Nat.le_add_right ..):Step T w (upd T b c') w'/\M (upd T b c') X (setH h b o) w':=by
 have t:Step T w (upd T b c') w':=by
  refine⟨u,f,q,by omega,?_,?_,?_,hdr⟩
  .intro x a s;by_cases e:x=b
   .grind [upd_same]
   .exact⟨a,by grind [upd_ne],.refl _⟩
  .intro x _ s;exact z x<|λe=>s<|by subst e;exact⟨b,c,j,k⟩
  .intro x s;have⟨i,a,h1,h2⟩:=s;by_cases e:i=b
   .subst e;rw[upd_same]at h1;cases h1;rw[n]at h2;cases h2;exact .inl ⟨i,c,j,k⟩
   .rw[upd_ne _ _ e]at h1;exact .inl ⟨i,a,h1,h2⟩
 refine⟨t,WZ m b o c' B t ?_ ?_<|l t⟩
 .intro i a v g h1 h2;refine z v (λe=>?_)
  subst e;exact g<|m.inj i a b c v h1 j h2 k
 .intro v p;rw[n]at p;cases p;refine⟨by have:=m.lt r ⟨b,c,j,k⟩;omega,m.notX r ⟨b,c,j,k⟩,λi a g h1 h2=>g<|m.inj i a b c r h1 j h2 k⟩
def KD{b:Nat}{o:AObj}(a:h[b]?=some o):b<=h.length:=by grind
def Mk{es:List AV}{i:Nat}{e:AV}(a:es[i]?=some e):es=es.take i++e::es.drop (i+1):=by grind [List.getElem?_eq_some_iff,List.getElem_cons_drop,List.take_append_drop]
theorem Ml{es:List AV}{i:Nat}{e b:AV}(c:es[i]?=some e):es.set i b=es.take i++b::es.drop (i+1):=by
 have a:i<es.length:=(ZXu.1 c).1;rw[ZZ7,if_pos a]
theorem KE(a b:List AV):flat (a++b)=flat a++flat b:=by simp[flat]
theorem VH(a:AV)(b:List AV):flat (a::b)=a.cells++flat b:=rfl
def HX{es:List AV}{sz:Nat}(c:∀e∈es,e.cells.length=sz):(flat es).length=es.length*sz:=by
 induction es with
 |nil=>simp[flat]
 |cons a es b=>
  grind [VH]
def HZ{sz r:Nat}{es:List AV}{cs:Array Value}{el:TypeId}{fz:Nat×Nat}{C B:Nat}(f:ZA T X w sz r es<|B*sz)(j:w.heap[r]?=some (.cells cs el fz))(e:cs.size=C*sz)(c:B+es.length<=C):
 ∃b us a,cs.toList=b++(us++a)/\b.length=B*sz/\Rs T X w (flat es) us/\us.length=es.length*sz:=by
 have⟨h1,h2,h⟩:=Kx f;have⟨us,i,d⟩:=Kv h1;have k:=Qr d;have g:B*sz+es.length*sz<=cs.size:=by rw[e,<-ZXQ];exact ZYk _ c
 refine⟨cs.toList.take<|B*sz,us,(cs.toList.drop<|B*sz).drop us.length,?_,by grind,d,by omega⟩
 have:us=(cs.toList.drop<|B*sz).take us.length:=by
  apply ZYy
  grind [World.at,World.cell?]
 conv=>lhs;rw[<-ZYe (B*sz) cs.toList,<-ZYe us.length (cs.toList.drop<|B*sz)]
 rw[<-this]
def Mm{r:Nat}{b a:Array Value}{el:TypeId}{fz:Nat×Nat}(c:w.heap[r]?=some (.cells b el fz))(j:Nat):World.at (w.setRow r a) r j=a[j]?:=by
 have:=setRow_heap w r b a el fz c
 grind [World.at,World.cell?]
def Cw{t:TypeId}{n:Nat}{r o:Nat}{v:Value}{cs:Array Value}{el:TypeId}(d:ZR P t=some n)(e:v.cells.size=n)(h1:∀c∈v.cells.toList,c.oneCell'=true)
 (b:w.heap[r]?=some (.cells cs el (0,0))) (a:o+n<=cs.size):
 (storeVar t ⟨r,o,none⟩ v).run P w=.ok () (w.setRow r (cs.toList.take o++v.cells.toList++cs.toList.drop (o+n)).toArray):=by
 simp[storeVar,QY w d,if_false];have:=run_storeCells_at (P:=P) r o el v.cells.toList 0 cs w b (by grind) h1
 grind
def Cx{s:Sem Next}{t:TypeId}{n:Nat}{x y:AV}{vx W:Value}{res:Zt}(m:M T X h w)(hn:ZR P t=some n)(A:R T X w x vx)(hy:R T X w y W)
 (hs:∀w',(Instr.storeAt t vx W).run P w=.ok () w'->s.run P w=.ok .skip w')
 (a:(match(generalizing:=false) x with
  | .ptr b i off g=>
   match h[b]? with
   |some (.row sz es)=>
    let cs:=y.cells
    bif es.length==g&&fits n y then
     match es[i]? with
     |some (.agg l)=>
      bif Nat.ble (off+n) l.length then some (AV.bot,[b],some (b,AObj.row sz<|es.set i<|.agg<|l.take off++cs++l.drop (off+n)))else none
     |some _=>
      match cs with
      |[c]=>bif off==0 then some (AV.bot,[b],some (b,AObj.row sz<|es.set i c))else none
      |_=>none
     |none=>none
    else none
   |_=>none
  |_=>none)=some res):Sim P T X h w s res:=by
 cases x<;>simp only[reduceCtorEq]at a
 case ptr b i off g=>
  cases hb:h[b]? with
  |none=>rw[hb]at a;cases a
  |some o=>
   rw[hb]at a;cases o<;>simp only[reduceCtorEq]at a
   case row sz es=>
    cases Q:(es.length==g&&fits n y)with
    |false=>rw[Q]at a;cases a
    |true=>
     rw[Q]at a;simp only[cond_true]at a;simp only[ZXf,beq_iff_eq]at Q;have⟨Q,hf⟩:=Q;have⟨f1,f2,f3,f4,f5⟩:=Kz hf hy;obtain⟨r,C,B,cs,el,hT,rfl,al,h1,h2,h3,h4,h5⟩:=JU m hb A Q;have⟨D,us,f,Z,Y,ah,ap⟩:=HZ h5 h1 h2 h3;have S:∀e e',es[i]?=some e->off+n<=e.cells.length->e'.cells=e.cells.take off++y.cells++e.cells.drop (off+n)->
      res=(AV.bot,[b],some (b,AObj.row sz<|es.set i e'))->Sim P T X h w s res:=by
      intro e e' E v U q;have ad:=Mk E;have K:=(Kx h5).2.2;have G:(es.take i).length=i:=by simp;omega
      have N:(flat<|es.take i).length=i*sz:=by
       rw[HX (sz:=sz)<|λe a=>K e<|ZYI a,G]
      have k:e.cells.length=sz:=K e<|ZXp E;have L:Rs T X w (flat (es.take i)++(e.cells++flat (es.drop<|i+1))) us:=by
       rw[<-VH,<-KE,<-ad];exact ah
      obtain⟨u1,an⟩:∃u1,u1=us.take (i*sz):=⟨_,rfl⟩;have af:us.length=i*sz+(sz+(flat<|es.drop<|i+1).length):=by
       have:=Qr L;simp only[ZXy,N,k]at this;omega
      have R1:Rs T X w (flat<|es.take i) (us.take<|i*sz):=by
       have:=Kt (i*sz) L
       rwa[ZZg N]at this
      have aa:Rs T X w (e.cells++flat (es.drop<|i+1)) (us.drop<|i*sz):=by
       have:=VE (i*sz) L
       rwa[List.drop_left' N]at this
      have Re:Rs T X w e.cells ((us.drop<|i*sz).take sz):=by
       have:=Kt sz aa
       rwa[ZZg k]at this
      have R3:Rs T X w (flat<|es.drop<|i+1) ((us.drop<|i*sz).drop sz):=by
       have:=VE sz aa
       rwa[List.drop_left' k]at this
      have ak:cs.size=B*sz+(us.length+f.length):=by
       have:=congrArg List.length Z;simpa[Y]using this
      have am:(B+i)*sz=B*sz+i*sz:=ZXQ _ _ _;have F:=Cw (P:=P) (o:=(B+i)*sz+off) hn f2 f4 h1<|by omega
      obtain⟨d,z⟩:∃d,d=(cs.toList.take ((B+i)*sz+off)++W.cells.toList++cs.toList.drop ((B+i)*sz+off+n)):=⟨_,rfl⟩;rw[<-z]at F;have H:d=D++(us.take (i*sz)++(((us.drop<|i*sz).take sz).take off++W.cells.toList++((us.drop<|i*sz).take sz).drop (off+n))++(us.drop<|i*sz).drop sz++f):=by
       rw[z,Z,show(B+i)*sz+off=D.length+(i*sz+off)by omega,show D.length+(i*sz+off)+n=D.length+(i*sz+off+n)by omega,ZZz,List.drop_length_add_append]
       have e1:(us++f).take (i*sz+off)=us.take (i*sz)++((us.drop<|i*sz).take sz).take off:=by
        rw[List.take_append_of_le_length (by omega),List.take_add,List.take_take,ZYU<|by omega]
       have e2:(us++f).drop (i*sz+off+n)=((us.drop<|i*sz).take sz).drop (off+n)++(us.drop<|i*sz).drop sz++f:=by
        rw[ZZA<|by omega]
        congr 1
        conv=>lhs;rw[show i*sz+off+n=i*sz+(off+n)by omega,<-ZYu]
        have hh:(us.drop<|i*sz).drop (off+n)=(((us.drop<|i*sz).take sz)++((us.drop<|i*sz).drop sz)).drop (off+n):=by rw[ZYe]
        rw[hh,ZZA<|by simp;omega]
       rw[e1,e2];simp[ZY0]
      have p:d.length=cs.size:=by
       rw[z];simp[f2];omega
      have aj:(w.setRow r d.toArray).heap[r]?=some (.cells d.toArray el (0,0)):=setRow_heap w r cs d.toArray el (0,0) h1;have⟨V,hm⟩:=JV (w':=w.setRow r d.toArray) (o:=.row sz<|es.set i e') (c':=.row sz es.length (some r) C B) m hT rfl rfl (.refl _) (KD hb) rfl rfl rfl (setRow_size _ _ _)
       (λx A=>setRow_other w r x _ A)
       (λV=>⟨rfl,by simp,h4,h3,d.toArray,el,aj,by simpa[p]using h2,by
        rw[KC hT]at V⊢;refine Wq ?_ ?_
        .intro x A;rcases List.mem_or_eq_of_mem_set A with A|A
         .exact K x A
         .subst A;rw[U];simp[f1,k];omega
        .have ae:flat (es.set i e')=flat (es.take i)++(e.cells.take off++y.cells++e.cells.drop (off+n))++flat (es.drop<|i+1):=by
          rw[Ml E,KE,VH,U];simp
         rw[ae];have hR:Rs T X w (flat (es.take i)++(e.cells.take off++y.cells++e.cells.drop (off+n))++flat (es.drop<|i+1)) (us.take (i*sz)++(((us.drop<|i*sz).take sz).take off++W.cells.toList++((us.drop<|i*sz).take sz).drop (off+n))++(us.drop<|i*sz).drop sz):=
          QR (QR R1<|QR (QR (Kt off Re) f3)<|VE (off+n) Re) R3
         refine Xs (Yb V _ _ hR)<|λj u hj=>?_
         rw[Mm h1];simp only[ZYV];rw[H,ZYl (by omega),Y,show B*sz+j-B*sz=j by omega,ZYw (ZXu.1 hj).1]
         exact hj⟩)
      rw[KC hT]at V hm;subst q;exact⟨T,_,undef,.inr ⟨hs _ (by simpa[Instr.storeAt,Instr.sureAddr]using F),rfl⟩,V,hm,trivial⟩
     cases E:es[i]? with
     |none=>rw[E]at a;cases a
     |some e=>
      rw[E]at a;have O:∀c,y.cells=[c]->off=0->e.cells=[e]->res=(AV.bot,[b],some (b,AObj.row sz<|es.set i c))->Sim P T X h w s res:=by
       intro c hc v ab q;have ac:n=1:=by rw[<-f1,hc];rfl
       have ag:c.cells=[c]:=by
        have:=f5 c<|by rw[hc];simp
        cases c<;>first|rfl|simp[scalar]at this
       exact S e c E (by rw[ab,v,ac];simp) (by rw[ag,ab,v,hc,ac];simp) q
      cases e with
      |agg l=>
       simp only at a;cases J:Nat.ble (off+n) l.length with
       |false=>rw[J]at a;cases a
       |true=>
        rw[J]at a;simp only[cond_true,Option.some.injEq]at a;exact S (.agg l) _ E (ZXL J) rfl a.symm
      |_=>
       simp only at a;split at a
       .next c hc=>
        cases J:(off==0)with
        |false=>rw[J]at a;cases a
        |true=>
         rw[J]at a;simp only[cond_true,Option.some.injEq]at a;exact O c hc (by simpa using J) rfl a.symm
       .cases a
end Go.AM
namespace Go.AM
open Go
variable [Dr]
variable {P:Program} {E:Env} {T:Ty} {X:Xt} {w:World} {h:Hp} {fr:Fr} {a:Act} {b sz g r C i off:Nat}
theorem G1:∀{cs:List AV},Z4 cs=true↔∀c∈cs,clean c=true
 |[]=>by simp[Z4]
 |c::cs=>by simp[Z4,G1 (cs:=cs)]
def Cy{cs:List AV}(n:Nat)(h:Z4 cs=true):Z4 (cs.drop n)=true:=by
 grind [G1]
def Cz{cs:List AV}(n:Nat)(h:Z4 cs=true):Z4 (cs.take n)=true:=by
 grind [G1]
def KF:∀{cs:List AV},Zi cs=true↔∀c∈cs,Zy c=true
 |[]=>by simp[Zi]
 |c::cs=>by simp[Zi,KF (cs:=cs)]
def R0{bw:Bool}{cs:List AV}(n:Nat)(h:okc bw cs=true):okc bw (cs.drop n)=true:=by
 cases bw with
 |false=>exact Cy n h
 |true=>exact KF.2<|λc a=>KF.1 h c<|ZZ8 a
def CA{bw:Bool}{cs:List AV}(n:Nat)(h:okc bw cs=true):okc bw (cs.take n)=true:=by
 cases bw with
 |false=>exact Cz n h
 |true=>exact KF.2<|λc a=>KF.1 h c<|ZYI a
def CB{c:AV}(h:clean c=true):Z4 c.cells=true:=by
 cases c<;>simp_all[AV.cells,Z4,clean]
def CC{bw:Bool}{es:List AV}{e:AV}{i:Nat}(h:okc bw es=true)(a:es[i]?=some e):okc bw e.cells=true:=by
 cases bw with
 |false=>exact CB<|G1.1 h e<|ZXp a
 |true=>
  have:=KF.1 h e<|ZXp a;show Zi e.cells=true
  cases e<;>simp_all[AV.cells,Zi,Zy]
def R4(m:M T X h w){b g i off:Nat}{v:Value}{res:Zt}{F:List AV->Option Zt}(j:R T X w (.ptr b i off g) v)
 (d:(match(generalizing:=false) h[b]? with
  |some (.row _ es)=>bif es.length==g then F es else none
  |_=>none)=some res):∃sz es r C B cs el,h[b]?=some (.row sz es)/\es.length=g/\F es=some res/\T b=some (.row sz g (some r) C B)/\v=.pointer (some ⟨r,(B+i)*sz+off,none⟩)/\i<g/\
   w.heap[r]?=some (.cells cs el (0,0))/\cs.size=C*sz/\B+g<=C/\0<sz/\ZA T X w sz r es (B*sz):=by
 cases e:h[b]? with
 |none=>grind
 |some o=>
  rw[e]at d;cases o<;>(first|(simp[reduceCtorEq]at d)|dsimp only at d|skip)
  case row sz es=>
   cases q:(es.length==g)with
   |false=>grind
   |true=>
    have a:es.length=g:=by grind
    have⟨r,C,B,cs,el,p,c,n,h1,h2,k,l,f⟩:=JU m e j a;subst a;exact⟨sz,es,r,C,B,cs,el,rfl,rfl,by grind,p,c,n,h1,h2,k,l,f⟩
theorem R5{B:Nat}(c:T b=some (.row sz g (some r) C B))(a:i<g):R T X w (.ptr b i off g) (.pointer<|some ⟨r,(B+i)*sz+off,none⟩):=
 ⟨⟨_,rfl⟩,sz,g,some r,C,B,c,ZXh _,λ_=>⟨r,rfl,a,rfl⟩⟩
def CD{s:Sem Next}{t:TypeId}{l:Array Field}{f:Field}{k n:Nat}{x:AV}{v:Value}{res:Zt}(m:M T X h w)(H:P.underlying t=some (.struct l))(D:l[k]?=some f)(G:ZR P f.type=some n)(E:n≠0)
 (p:R T X w x v) (q:∀rv,(Instr.fieldAt t v k).run P w=.ok rv w->s.run P w=.ok (.value rv) w)
 (a:(match(generalizing:=false) x with
  | .iptr bw cs=>Zl<|some<|.iptr bw<|cs.drop f.offset
  | .ptr b i off g=>
   match h[b]? with
   |some (.row _ es)=>bif es.length==g then some (AV.ptr b i (off+f.offset) g,[b],none)else none
   |_=>none
  |_=>none)=some res):Sim P T X h w s res:=by
 have c:∀ad:Addr,(Instr.fieldAt t (.pointer<|some ad) k).run P w=.ok (.pointer<|some<|ad.add f.offset) w:=by
  simp_all[Instr.fieldAt,run_underlying,Instr.sureAddr,fieldPlace,QY]
 cases x<;>(first|(simp[reduceCtorEq]at a)|dsimp only at a|skip)
 case iptr bw cs=>
  obtain⟨u,y,rfl⟩:=ZY a;cases y;obtain⟨r,o,rfl,h1,h2,e,j,d⟩:=p;exact Sim.pure m (q _<|c _) ⟨r,o+f.offset,by rw[addr_add],h1,h2,R0 _ e,j,Ku _ d⟩
 case ptr b i off g=>
  obtain⟨sz,es,r,C,B,cs,el,J,A,a,z,rfl,K,h1,h2,e,j,d⟩:=R4 m (F:=λes=>some (AV.ptr b i (off+f.offset) g,[b],none)) p a
  grind [Sim.pure,addr_add,R5]
def ZGx{s:Sem Next}{neg:Bool}{x:AV}{v:Value}{res:Zt}(m:M T X h w)(d:R T X w x v)
 (c:∀p,v=.pointer p->s.run P w=.ok (.value<|.bool (if neg then p.isSome else p.isNone)) w)
 (a:(match(generalizing:=false) x with
  | .nilp=>Zl<|some<|.bool !neg
  | .iptr _ _=>Zl<|some<|.bool neg
  | .ptr b _ _ g=>
   match h[b]? with
   |some (.row _ es)=>bif es.length==g then some (AV.bool neg,[b],none)else none
   |_=>none
  |_=>none)=some res):Sim P T X h w s res:=by
 cases x<;>(first|(simp[reduceCtorEq]at a)|dsimp only at a|skip)
 case nilp=>
  obtain⟨u,e,rfl⟩:=ZY a;cases e;subst d;exact Sim.pure m (c _ rfl)<|by cases neg<;>rfl
 case iptr bw cs=>
  obtain⟨u,e,rfl⟩:=ZY a;cases e;obtain⟨r,o,rfl,_⟩:=d;exact Sim.pure m (c _ rfl)<|by cases neg<;>rfl
 case ptr b i off g=>
  obtain⟨sz,es,r,C,B,cs,el,l,t,a,n,rfl,q,h1,h2,j,k,f⟩:=R4 m (F:=λes=>some (AV.bool neg,[b],none)) d a
  simp[Option.some.injEq]at a;subst a;exact Sim.pure m (c _ rfl)<|by cases neg<;>rfl
def CE{s:Sem Next}{x:AV}{v:Value}{res:Zt}(m:M T X h w)(d:R T X w x v)
 (n:(∃p,v=.pointer (some p))\/(∃f c e,v=.func (.func f) c e)->s.run P w=.ok (.value v) w)
 (a:(match(generalizing:=false) x with
  | .iptr bw cs=>Zl<|some<|.iptr bw cs
  | .ptr b i off g=>
   match h[b]? with
   |some (.row _ es)=>bif es.length==g then some (AV.ptr b i off g,[b],none)else none
   |_=>none
  | .clo (.func f) first cap=>Zl<|some<|.clo (.func f) first cap
  |_=>none)=some res):Sim P T X h w s res:=by
 cases x<;>(first|(simp[reduceCtorEq]at a)|dsimp only at a|skip)
 case iptr bw cs=>
  obtain⟨u,k,rfl⟩:=ZY a;have j:=d;obtain⟨r,o,rfl,_⟩:=d
  simp_all[Sim.pure]
 case ptr b i off g=>
  obtain⟨sz,es,r,C,B,cs,el,y,D,a,z,rfl,A,h1,h2,q,t,l⟩:=R4 m (F:=λes=>some (AV.ptr b i off g,[b],none)) d a
  simp[Option.some.injEq]at a;subst a
  simp_all[Sim.pure]
 case clo fn first cap=>
  cases fn<;>(first|(simp[reduceCtorEq]at a)|dsimp only at a|skip)
  obtain⟨u,k,rfl⟩:=ZY a;have j:=d;obtain⟨f,c,rfl,_⟩:=d
  simp_all[Sim.pure]
def Wv{p:Prop}[Decidable p]{α:Type}{x:Option α}{y:α}(h:(if p then x else none)=some y):p/\x=some y:=by
 grind
def CF{s:Sem Next}{t e:TypeId}{sz:Nat}{x y:AV}{v u:Value}{res:Zt}(m:M T X h w)(Z:P.underlying t=some (.slice e))(V:ZR P e=some sz)
 (J:R T X w x v) (H:R T X w y u) (G:∀rv,(Instr.indexAt t v u).run P w=.ok rv w->s.run P w=.ok (.value rv) w)
 (a:(match(generalizing:=false) x,y with
 | .isl bw _ sz' es,.int _ n=>
  if 0<=n then
   match es[n.toNat]? with
   |some e=>bif sz'==sz then Zl (some<|.iptr bw e.cells)else none
   |none=>none
  else none
 | .sl b g off d _,.int _ n=>
  if 0<=n/\n<(d:Int)then
   match h[b]? with
   |some (.row sz' es)=>bif sz'==sz&&es.length==g then some (AV.ptr b (off+n.toNat) 0 g,[b],none)else none
   |_=>none
  else none
 |_,_=>none)=some res):Sim P T X h w s res:=by
 have f:∀(k:IntKind)(n:Int)(ad:Addr)(l c:Nat),0<=n->n<(l:Int)->(Instr.indexAt t (.slice (some ad) l c)<|.int k n).run P w=.ok (.pointer<|some<|ad.add<|n.toNat*sz) w:=by
  intro k n ad l c h1 h2;simp[Instr.indexAt,asIntOf,run_underlying Z,h1,h2,QY w V]
 cases x<;>(first|(simp[reduceCtorEq]at a)|dsimp only at a|skip)
 case isl bw ex sz' es=>
  cases y<;>(first|(simp only[reduceCtorEq]at a;done)|dsimp only at a|skip)
  case int k n=>
   have⟨A,a⟩:=Wv a;cases p:es[n.toNat]? with
   |none=>grind
   |some el=>
    rw[p]at a;simp only at a;cases j:(sz'==sz)with
    |false=>grind
    |true=>
     rw[j]at a;obtain⟨q,Q,rfl⟩:=ZY a;cases Q;have D:sz'=sz:=by grind
     subst D;cases QS H;obtain⟨ad,d,cap,rfl,h1,h2,h3,Y,N⟩:=J;have U:n.toNat<es.length:=(ZXu.1 p).1;rcases N with rfl|⟨r,o,rfl,h6,h7,h8,h9⟩
     .grind
     have⟨W,z⟩:=Kw n.toNat h9 p;refine Sim.pure m (G _<|f k n _ _ _ A<|by omega) ⟨r,o+n.toNat*sz',by rw[addr_add],h6,h7,CC Y p,h8,z⟩
 case sl b g off d ex=>
  cases y<;>(first|(simp only[reduceCtorEq]at a;done)|dsimp only at a|skip)
  case int k n=>
   have⟨⟨A,hl⟩,a⟩:=Wv a;cases K:h[b]? with
   |none=>grind
   |some o=>
    rw[K]at a;cases o<;>(first|(simp only[reduceCtorEq]at a;done)|dsimp only at a|skip)
    case row sz' es=>
     cases j:(sz'==sz&&es.length==g)with
     |false=>grind
     |true=>
      rw[j]at a;simp only[cond_true,Option.some.injEq]at a;subst a;simp only[ZXf,beq_iff_eq]at j;obtain⟨rfl,F⟩:=j;cases QS H;have⟨r,C,B,E,q0,hC,hr⟩:=XV m K;have⟨_,O,g2,r2,C2,B2,i,q1,q2,S⟩:=J;rw[E]at i;cases i;have⟨cap,q4,q5,q6,L⟩:=S F.symm;rcases L with⟨r3,rfl,rfl⟩|⟨L,_,_⟩
      .refine Sim.pure m (G _<|f k n _ _ _ A<|by omega) ?_
       rw[addr_add,show(B+off)*sz'+n.toNat*sz'=(B+(off+n.toNat))*sz'+0 by grind]
       rw[<-F];exact R5 E<|by omega
      grind
def CG{s:Sem Next}{t e:TypeId}{sz c:Nat}{x y:AV}{v u:Value}{res:Zt}(m:M T X h w)(L:P.underlying t=some (.array c e))(K:ZR P e=some sz)
 (E:R T X w x v) (l:R T X w y u) (H:∀rv,(Instr.indexAt t v u).run P w=.ok rv w->s.run P w=.ok (.value rv) w)
 (a:(match(generalizing:=false) x,y with
 | .iptr bw cs,.int _ n=>if 0<=n/\n<(c:Int)then Zl (some<|.iptr bw<|cs.drop<|n.toNat*sz)else none
 | .ptr b j off g,.int _ n=>
  match h[b]? with
  |some (.row _ es)=>bif es.length==g then(if 0<=n/\n<(c:Int)then some (AV.ptr b j (off+n.toNat*sz) g,[b],none)else none)else none
  |_=>none
 |_,_=>none)=some res):Sim P T X h w s res:=by
 have d:∀(k:IntKind)(n:Int)(ad:Addr),0<=n->n<(c:Int)->(Instr.indexAt t (.pointer<|some ad)<|.int k n).run P w=.ok (.pointer<|some<|ad.add<|n.toNat*sz) w:=by
  intro k n ad h1 h2;simp[Instr.indexAt,asIntOf,run_underlying L,h1,h2,QY w K,Instr.sureAddr]
 cases x<;>(first|(simp[reduceCtorEq]at a)|dsimp only at a|skip)
 case iptr bw cs=>
  cases y<;>(first|(simp only[reduceCtorEq]at a)|dsimp only at a|skip)
  case int k n=>
   have⟨⟨p,D⟩,a⟩:=Wv a;obtain⟨q,J,rfl⟩:=ZY a;cases J;cases QS l;obtain⟨r,o,rfl,h1,h2,z,A,f⟩:=E;exact Sim.pure m (H _<|d k n _ p D) ⟨r,o+n.toNat*sz,by rw[addr_add],h1,h2,R0 _ z,A,Ku _ f⟩
 case ptr b i off g=>
  cases y<;>(first|(simp only[reduceCtorEq]at a;done)|dsimp only at a|skip)
  case int k n=>
   obtain⟨G,es,r,C,B,cs,el,Q,O,a,N,rfl,S,h1,h2,z,A,f⟩:=R4 m (F:=λes=>if 0<=n/\n<(c:Int)then some (AV.ptr b i (off+n.toNat*sz) g,[b],none)else none) E a
   have⟨⟨p,D⟩,a⟩:=Wv a;simp only[Option.some.injEq]at a;subst a;cases QS l
   simp_all[Sim.pure,addr_add,ZYx,R5]
def Mn{t:TypeId}{n:Option Nat}{cs:List AV}{vs:Array Value}{off:Nat}{v:AV}(b:Xv P t n=true)(j:Rs T X w cs vs.toList)(a:takeC n (cs.drop off)=some v):
 ∃rv,(part t vs off).run P w=.ok rv w/\R T X w v rv:=by
 unfold Xv at b;cases i:P.underlying t with
 |none=>grind
 |some d=>
  rw[i]at b;cases g:ZF P t with
  |false=>
   rw[g]at b;simp at b;subst b;have f:=VE off j;generalize o:cs.drop off=q at a f;cases q with
   |nil=>grind [takeC]
   |cons c q=>
    simp[takeC]at a;subst a;have⟨u,p,h1,h2,m⟩:=f;have e:vs[off]?=some u:=by
     have:=congrArg (λl:List Value=>l[0]?) h1
     grind
    simp_all[part,V1]
  |true=>
   cases n with
   |none=>grind
   |some k=>
    simp only[takeC]at a;cases h:Nat.ble k (cs.drop off).length with
    |false=>grind
    |true=>
     rw[h]at a;simp at a;subst a;refine⟨.agg<|vs.extract off<|off+k,?_,_,rfl,?_⟩
     all_goals simp_all[part,V1,QY,Kt,VE]
end Go.AM
namespace Go.AM
open Go
variable [Dr]
variable {P:Program} {E:Env} {T:Ty} {X:Xt} {w:World} {h:Hp} {fr:Fr} {a:Act}
def Xw(T:Ty)(X:Xt)(w:World):Option AV->Option Value->Prop
 |none,none=>True
 |some a,some v=>R T X w a v
 |_,_=>False
def G2{k:IntKind}{n:Int}{v:Value}(a:Xw T X w (some<|.int k n)<|some v):v=.int k n:=a
def G3{v:AV}{n:Nat}(a:numOf v=some n):∃k i,v=.int k i/\0<=i/\i.toNat=n:=by
 cases v<;>simp[numOf]at a
 grind
theorem run_sliceBound{k:IntKind}{i:Int}{y:Nat}{a:BoundsCode}(c:0<=i)(b:i.toNat<=y):(Instr.sliceBound (.int k i) y a).run P w=.ok i.toNat w:=by
 simp_all[Instr.sliceBound,asIntOf]
def G4{u p mx:Option AV}{a l j:Nat}{m:Option Nat}(n:bounds u p mx a=some (l,j,m)){rlo rhi rmx:Option Value}(g:Xw T X w u rlo)(b:Xw T X w p rhi)(f:Xw T X w mx rmx)
 {cap:Nat} (C:a<=cap) (q:Bool):(Instr.sliceBounds q a cap rlo rhi rmx).run P w=.ok (l,j,m.getD cap) w/\l<=j/\j<=a/\(∀k,m=some k->j<=k/\k<=a):=by
 unfold bounds at n;split at n
 .next D h' z e d t=>
  .cases B:(Nat.ble z h'&&Nat.ble h' a&&VB h' a D)with
   |false=>grind
   |true=>
    rw[B]at n;simp[Prod.mk.injEq]at n;obtain⟨rfl,rfl,rfl⟩:=n;simp[Nat.ble_eq]at B;have⟨⟨x,H⟩,c3⟩:=B;have r:∀k,D=some k->h'<=k/\k<=a:=by
     intro k L
     simp_all[VB]
    have c:∀y h,h'<=y->z<=y->(match rlo with|some v=>Instr.sliceBound v y h|none=>pure 0:Sem Nat).run P w=.ok z w:=by
     cases u with
     |none=>
      cases rlo with
      |none=>simp_all[VA]
      |some _=>exact g.elim
     |some v=>
      cases rlo with
      |none=>exact g.elim
      |some rv=>
       obtain⟨k,i,rfl,o,rfl⟩:=G3 t;cases G2 g
       grind [run_sliceBound]
    cases mx with
    |none=>
     cases rmx with
     |some _=>exact f.elim
     |none=>
      simp[Vz]at e;subst e;cases p with
      |none=>
       cases rhi with
       |some _=>exact b.elim
       |none=>
        simp[Wl]at d;subst d;have:=c a .sliceB (by omega) x
        simp[Instr.sliceBounds,if_false];cases rlo with
        |none=>simp_all
        |some v=>simp_all
      |some v=>
       cases rhi with
       |none=>exact b.elim
       |some rv=>
        obtain⟨k,i,rfl,o,rfl⟩:=G3 d;cases G2 b;have:=c i.toNat .sliceB (by omega) x
        simp[Instr.sliceBounds,if_false];rw[run_sliceBound o<|by omega]
        cases rlo with
        |none=>simp_all
        |some v=>simp_all
    |some v=>
     cases rmx with
     |none=>exact f.elim
     |some rv=>
      simp[Vz]at e;obtain⟨J,A,rfl⟩:=e;obtain⟨k,i,rfl,o,rfl⟩:=G3 A;cases G2 f;have⟨K,G⟩:=r _ rfl;cases p with
      |none=>grind [Wl]
      |some v=>
       cases rhi with
       |none=>exact b.elim
       |some rv=>
        obtain⟨F,E,rfl,s,rfl⟩:=G3 d;cases G2 b;have:=c E.toNat .slice3C (by omega) x
        simp[Instr.sliceBounds,if_true];rw[run_sliceBound o<|by omega]
        simp[Result.andThen_ok];rw[run_sliceBound s<|by omega]
        cases rlo with
        |none=>simp_all
        |some v=>simp_all
 grind
def CH{s:Sem Next}{t e:TypeId}{sz:Nat}{x:AV}{y D mx:Option AV}{v:Value}{rlo rhi rmx:Option Value}{res:Zt}(m:M T X h w)(ht:P.underlying t=some (.slice e))(hn:ZR P e=some sz)
 (U:R T X w x v) (A:Xw T X w y rlo) (p:Xw T X w D rhi) (z:Xw T X w mx rmx) (K:∀rv,(Instr.sliceAt t v rlo rhi rmx).run P w=.ok rv w->s.run P w=.ok (.value rv) w)
 (f:(match(generalizing:=false) x with
 | .nilsl=>
  match bounds y D mx 0 with
  |some _=>Zl<|some .nilsl
  |none=>none
 | .isl bw ex sz' es=>
  match bounds y D mx es.length with
  |some (l,d,m)=>bif sz'==sz then Zl (some<|.isl bw (match m with|none=>ex&&d==es.length|some m=>m==d) sz<|(es.drop l).take (d-l))else none
  |none=>none
 | .sl b g off c ex=>
  match bounds y D mx c with
  |some (l,d,m)=>
   match h[b]? with
   |some (.row sz' es)=>bif sz'==sz&&es.length==g then some (AV.sl b g (off+l) (d-l) (match m with|none=>ex&&d==c|some m=>m==d),[b],none)else none
   |_=>none
  |none=>none
 |_=>none)=some res):Sim P T X h w s res:=by
 have n:∀(a:Option Addr)(c cap l d i:Nat),(Instr.sliceBounds true c cap rlo rhi rmx).run P w=.ok (l,d,i) w->
  (Instr.sliceAt t (.slice a c cap) rlo rhi rmx).run P w=.ok (.slice (if i=l then a else a.map (·.add (l*sz))) (d-l)<|i-l) w:=by
  simp_all[Instr.sliceAt,Instr.slice,run_underlying,QY]
 cases x<;>(first|(simp[reduceCtorEq]at f)|dsimp only at f|skip)
 case nilsl=>
  cases j:bounds y D mx 0 with
  |none=>grind
  |some q=>
   have⟨l,d,i⟩:=q;rw[j]at f;obtain⟨u,O,rfl⟩:=ZY f;cases O;have hv:v=.slice none 0 0:=U;subst hv;have⟨h1,h2,h3,h4⟩:=G4 (P:=P) j A p z (cap:=0) (ZXh _) true;refine Sim.pure m (K _<|n _ _ _ _ _ _ h1) ?_;have S:i.getD 0=0:=by
    cases i with
    |none=>rfl
    |some k=>grind
   show Value.slice _ _ _=_
   rw[S,show d-l=0 by omega,show 0-l=0 by omega]
   congr 1;split<;>rfl
 case isl bw ex sz' es=>
  cases j:bounds y D mx es.length with
  |none=>grind
  |some q=>
   have⟨l,d,i⟩:=q;rw[j]at f;dsimp only at f;cases F:(sz'==sz)with
   |false=>grind
   |true=>
    rw[F]at f;obtain⟨u,O,rfl⟩:=ZY f;cases O;have N:sz'=sz:=by grind
    subst N;obtain⟨ad,c,cap,rfl,V,q2,q3,Q,q5⟩:=U;subst V;have⟨h1,h2,h3,h4⟩:=G4 (P:=P) j A p z (cap:=cap) q2 true;have L:d<=i.getD cap:=by
     grind
    refine Sim.pure m (K _<|n _ _ _ _ _ _ h1) ⟨_,_,_,rfl,by grind,by omega,?_,CA _<|R0 _ Q,?_⟩
    .grind
    .by_cases H:l=d
     .simp_all
     .right;rcases q5 with rfl|⟨r,o,rfl,Z,q7,q8,q9⟩
      .grind
      .refine⟨r,o+l*sz',?_,Z,q7,q8,UV _<|UU _ q9⟩;rw[if_neg<|by omega]
       simp[addr_add]
 case sl b g off c ex=>
  cases j:bounds y D mx c with
  |none=>grind
  |some q=>
   have⟨l,d,i⟩:=q;rw[j]at f;dsimp only at f;cases G:h[b]? with
   |none=>grind
   |some o=>
    rw[G]at f;cases o<;>(first|(simp only[reduceCtorEq]at f;done)|dsimp only at f|skip)
    case row sz' es=>
     cases F:(sz'==sz&&es.length==g)with
     |false=>grind
     |true=>
      rw[F]at f;simp only[cond_true,Option.some.injEq]at f;subst f;simp only[ZXf,beq_iff_eq]at F;obtain⟨rfl,hg⟩:=F;have⟨r,C,B,Y,q0,hC,hr⟩:=XV m G;have⟨_,aa,g2,r2,C2,B2,E,V,q2,q3⟩:=U;rw[Y]at E;cases E;have⟨cap,Q,q5,Z,q7⟩:=q3 hg.symm;obtain⟨ad,rfl,hq⟩:∃ad,v=.slice ad c cap/\((∃J,r=some J/\ad=some ⟨J,(B+off)*sz',none⟩)\/(cap=0/\(r=none->ad=none))):=by
       grind
      have⟨h1,h2,h3,h4⟩:=G4 (P:=P) j A p z (cap:=cap) Q true;have L:d<=i.getD cap:=by
       cases i with
       |none=>grind
       |some k=>grind
      have W:i.getD cap<=cap:=by
       cases i with
       |none=>simp
       |some k=>grind
      refine Sim.pure m (K _<|n _ _ _ _ _ _ h1) ⟨⟨_,_,_,rfl⟩,sz',es.length,r,C,B,Y,by omega,by omega,λ_=>⟨i.getD cap-l,by omega,by omega,?_,?_⟩⟩
      .grind
      .by_cases ab:i.getD cap=l
       .right;refine⟨by omega,ad,?_,?_⟩
        all_goals grind
       .left;rcases hq with⟨J,e1,e2⟩|⟨e1,_⟩
        all_goals simp_all[addr_add,ZXQ,ZYx]
def CI{s:Sem Next}{t:TypeId}{x:AV}{c e:Option AV}{v:Value}{rlo rhi:Option Value}{res:Zt}(m:M T X h w)(o:P.underlying t=some .string)
 (j:R T X w x v) (b:Xw T X w c rlo) (d:Xw T X w e rhi) (g:∀rv,(Instr.sliceAt t v rlo rhi none).run P w=.ok rv w->s.run P w=.ok (.value rv) w)
 (a:(match(generalizing:=false) x with
 | .str s=>
  match bounds c e none s.size with
  |some (l,hh,_)=>Zl<|some<|.str<|s.extract l hh
  |none=>none
 |_=>none)=some res):Sim P T X h w s res:=by
 cases x<;>(first|(simp[reduceCtorEq]at a)|dsimp only at a|skip)
 case str st=>
  cases f:bounds c e none st.size with
  |none=>grind
  |some q=>
   rw[f]at a;obtain⟨u,i,rfl⟩:=ZY a;cases i;cases Yj j;have⟨h1,h2,k,n⟩:=G4 (P:=P) f b d (show Xw T X w none none from trivial) (cap:=st.size) (ZXh _) false
   refine Sim.pure m (g _ ?_) rfl
   simp_all[Instr.sliceAt,Instr.slice,run_underlying]
def CJ{s:Sem Next}{t:TypeId}{x y:AV}{v u:Value}{res:Zt}(m:M T X h w)(o:P.underlying t=some .string)
 (i:R T X w x v) (g:R T X w y u) (f:∀rv,(Instr.index t v u).run P w=.ok rv w->s.run P w=.ok (.value rv) w)
 (a:(match(generalizing:=false) x,y with
 | .str s,.int _ n=>if 0<=n then Zl ((s.data[n.toNat]?).map λb=>.int .u8 b.toNat)else none
 |_,_=>none)=some res):Sim P T X h w s res:=by
 cases x<;>(first|(simp[reduceCtorEq]at a)|dsimp only at a|skip)
 case str st=>
  cases y<;>(first|(simp only[reduceCtorEq]at a)|dsimp only at a|skip)
  case int k n=>
   have⟨l,a⟩:=Wv a;obtain⟨q,e,rfl⟩:=ZY a;simp[ZXt]at e;obtain⟨b,d,rfl⟩:=e;cases QS g;cases Yj i;refine Sim.pure m (f _ ?_) rfl;have c:n.toNat<st.size:=(ZYd.1 d).1;have j:st[n.toNat]?=some b:=by
    rw[getElem?_pos st n.toNat c];exact congrArg some (ZYd.1 d).2
   simp_all[Instr.index,asIntOf,run_underlying]
def CK{s:Sem Next}{t e:TypeId}{n:Option Nat}{sz b:Nat}{x y:AV}{v u:Value}{res:Zt}(m:M T X h w)(p:P.underlying t=some (.array b e))(i:Xv P e n=true)(j:ZR P e=some sz)
 (d:R T X w x v) (c:R T X w y u) (l:∀rv,(Instr.index t v u).run P w=.ok rv w->s.run P w=.ok (.value rv) w)
 (a:(match(generalizing:=false) x,y with
 | .agg cs,.int _ k=>if 0<=k/\k<(b:Int)then Zl (takeC n<|cs.drop<|k.toNat*sz)else none
 |_,_=>none)=some res):Sim P T X h w s res:=by
 cases x<;>(first|(simp[reduceCtorEq]at a)|dsimp only at a|skip)
 case agg cs=>
  cases y<;>(first|(simp only[reduceCtorEq]at a)|dsimp only at a|skip)
  case int kk k=>
   have⟨⟨o,r⟩,a⟩:=Wv a;obtain⟨q,f,rfl⟩:=ZY a;cases QS c;obtain⟨vs,rfl,g⟩:=d;have⟨rv,h1,h2⟩:=Mn i g f
   simp_all[Sim.pure,Instr.index,asIntOf,run_underlying,QY]
def CL{s:Sem Next}{t:TypeId}{b:Array Field}{f:Field}{k:Nat}{n:Option Nat}{x:AV}{v:Value}{res:Zt}(m:M T X h w)(j:P.underlying t=some (.struct b))(l:b[k]?=some f)(g:Xv P f.type n=true)
 (c:R T X w x v) (i:∀rv,(Instr.field t v k).run P w=.ok rv w->s.run P w=.ok (.value rv) w)
 (a:(match(generalizing:=false) x with
 | .agg cs=>Zl<|takeC n<|cs.drop f.offset
 |_=>none)=some res):Sim P T X h w s res:=by
 cases x<;>(first|(simp[reduceCtorEq]at a)|dsimp only at a|skip)
 case agg cs=>
  obtain⟨q,d,rfl⟩:=ZY a;obtain⟨vs,rfl,e⟩:=c;have⟨rv,h1,h2⟩:=Mn g e d
  simp_all[Sim.pure,Instr.field,run_underlying,asAgg]
def CM{s:Sem Next}{x:AV}{i:Nat}{v:Value}{res:Zt}(m:M T X h w)(b:R T X w x v)(e:∀rv,(Instr.extract v i).run P w=.ok rv w->s.run P w=.ok (.value rv) w)
 (a:(match(generalizing:=false) x with
 | .tup vs=>Zl vs[i]?
 |_=>none)=some res):Sim P T X h w s res:=by
 cases x<;>(first|(simp[reduceCtorEq]at a)|dsimp only at a|skip)
 case tup cs=>
  obtain⟨q,c,rfl⟩:=ZY a;obtain⟨vs,rfl,d⟩:=b;have⟨u,h1,h2⟩:=Wp i d c
  simp_all[Sim.pure,Instr.extract]
def CN{s:Sem Next}{t:TypeId}{x:AV}{v:Value}{res:Zt}{ty:TypeId}(m:M T X h w)(ht:P.underlying t=some .string\/(∃e,P.underlying t=some (.slice e))\/(∃k e,P.underlying t=some (.map k e)))
 (a:match(generalizing:=false) x with| .str _=>P.underlying t=some .string| .nilsl| .isl .. | .sl ..=>(∃e,P.underlying t=some (.slice e))| .nilmap| .imap .. | .mp _=>(∃k e,P.underlying t=some (.map k e))|_=>True)
 (n:R T X w x v) (j:∀rv,(Builtin.len_ #[t] ty #[v]).run P w=.ok rv w->s.run P w=.ok (.value rv) w)
 (c:(match(generalizing:=false) x with
 | .str s=>Zl<|some<|.int .i64 s.size
 | .nilsl=>Zl<|some<|.int .i64 0
 | .nilmap=>Zl<|some<|.int .i64 0
 | .isl _ _ _ es=>Zl<|some<|.int .i64 es.length
 | .imap _ ks _=>Zl<|some<|.int .i64 ks.length
 | .sl b g _ i _=>
  match h[b]? with
  |some (.row _ es)=>bif es.length==g then some (.int .i64 i,[b],none)else none
  |_=>none
 | .mp b=>
  match h[b]? with
  |some (.map ks _)=>some (.int .i64 ks.length,[b],none)
  |_=>none
 |_=>none)=some res):Sim P T X h w s res:=by
 cases x<;>(first|(simp[reduceCtorEq]at c)|dsimp only at c a|skip)
 case str st=>
  obtain⟨q,f,rfl⟩:=ZY c;cases f;cases Yj n;exact Sim.pure m (j _<|by simp[Builtin.len_,run_underlying a,goInt]) rfl
 case nilsl=>
  obtain⟨e,a⟩:=a;obtain⟨q,f,rfl⟩:=ZY c;cases f;have H:v=.slice none 0 0:=n;subst H;exact Sim.pure m (j _<|by simp[Builtin.len_,run_underlying a,goInt]) rfl
 case nilmap=>
  obtain⟨k,e,a⟩:=a;obtain⟨q,f,rfl⟩:=ZY c;cases f;have H:v=.map none:=n;subst H;exact Sim.pure m (j _<|by simp[Builtin.len_,run_underlying a,goInt]) rfl
 case isl bw ex sz es=>
  obtain⟨e,a⟩:=a;obtain⟨q,f,rfl⟩:=ZY c;cases f;obtain⟨ad,i,cap,rfl,rfl,_⟩:=n;exact Sim.pure m (j _<|by simp[Builtin.len_,run_underlying a,goInt]) rfl
 case imap bw ks vs=>
  obtain⟨k,e,a⟩:=a;obtain⟨q,f,rfl⟩:=ZY c;cases f;obtain⟨r,es,u,l,rfl,h1,h2,h3,J,A,z,F,O⟩:=n;have K:=Qr F;have E:=z.length_eq;refine Sim.pure m (j (.int .i64 (ks.length:Int)) ?_) rfl;simp only[ZXg]at K;simp only[ZXZ]at E;simp[Builtin.len_,run_underlying a,goInt,getObj,Sem.run,J.1];omega
 case sl b g off i ex=>
  obtain⟨e,a⟩:=a;cases y:h[b]? with
  |none=>grind
  |some o=>
   rw[y]at c;cases o<;>(first|(simp only[reduceCtorEq]at c;done)|dsimp only at c|skip)
   case row sz es=>
    cases N:(es.length==g)with
    |false=>grind
    |true=>
     rw[N]at c;simp only[cond_true,Option.some.injEq]at c;subst c;have G:es.length=g:=by grind
     obtain⟨r,C,B,D,Y,hC,hr⟩:=XV m y;obtain⟨_,L,g2,S,C2,B2,d,V,q2,Q⟩:=n;rw[D]at d;cases d;obtain⟨cap,q4,q5,Z,U⟩:=Q G.symm;rcases U with⟨r',W,rfl⟩|⟨rfl,p,rfl,q8⟩
     .exact Sim.pure m (j _<|by simp[Builtin.len_,run_underlying a,goInt]) rfl
     .have:i=0:=by omega
      subst this;exact Sim.pure m (j _<|by simp[Builtin.len_,run_underlying a,goInt]) rfl
 case mp b=>
  obtain⟨k,e,a⟩:=a;cases y:h[b]? with
  |none=>grind
  |some o=>
   rw[y]at c;cases o<;>(first|(simp only[reduceCtorEq]at c;done)|dsimp only at c|skip)
   case map ks vs=>
    simp only[Option.some.injEq]at c;subst c;obtain⟨r,es,u,l,D,J,A,z,F,O⟩:=JS m y;obtain⟨S,d,rfl⟩:=n;rw[D]at d;cases d;have K:=Qr F;have E:=z.length_eq;refine Sim.pure m (j (.int .i64 (ks.length:Int)) ?_) rfl;simp only[ZXg]at K;simp only[ZXZ]at E;simp[Builtin.len_,run_underlying a,goInt,getObj,Sem.run,J.1];omega
end Go.AM
namespace Go.AM
open Go
variable [Dr]
variable {P:Program} {E:Env} {T:Ty} {X:Xt} {w:World} {h:Hp} {fr:Fr} {a:Act}
theorem Mo(n:Nat)(z:AV):flat (List.replicate n z)=(List.replicate n z.cells).flatten:=by
 induction n with
 |zero=>rfl
 |succ n a=>rw[ZZh,VH,a,ZZh,List.flatten_cons]
theorem Mp{cs:List AV}{vs:List Value}(n:Nat)(b:Rs T X w cs vs):Rs T X w (List.replicate n cs).flatten (List.replicate n vs).flatten:=by
 induction n with
 |zero=>rfl
 |succ n a=>grind [QR]
theorem R6{α:Type}(l:List α):∀(n j:Nat),j<n*l.length->(List.replicate n l).flatten[j]?=l[j%l.length]?:=by
 intro n;induction n with
 |zero=>grind
 |succ n a=>
  grind [Nat.mod_eq_of_lt,List.getElem?_append_right,Nat.mod_eq_sub_mod]
theorem Mq(a:Array Value)(n:Nat):((Array.range<|n*a.size).map (λi=>a[i%a.size]!)).toList=(List.replicate n a.toList).flatten:=by
 apply ZYy;intro j;by_cases c:j<n*a.size
 .have d:0<a.size:=by
   grind
  rw[R6 a.toList n j<|by grind]
  simp only[Array.toList_map,ZY8,ZZB,List.getElem?_range c,ZXR,ZXZ];have b:j%a.size<a.size:=ZYr _ d;rw[ZZi,ZYW b,getElem!_pos a _ b]
 simp_all
def wrap_i64{n:Int}(a:0<=n)(h1:n<=9223372036854775807):IntKind.i64.wrap n=n:=by grind [IntWalk.i64_in]
def CO{s:Sem Next}{t e:TypeId}{sz bytes aid:Nat}{z:AV}{b:Value}{i:TypeInfo}{x y:AV}{v u:Value}{res:Zt}(m:M T X h w)(O:∀r,X r->r<w.heap.size)(B:aid<=h.length)(H:T aid=none)
 (Y:P.underlying t=some (.slice e)) (hi:P.info? e=some i) (S:i.size=sz) (E:i.bytes=bytes) (V:i.zero=some b) (J:Q3 b z=true)
 (hx:R T X w x v) (L:R T X w y u) (K:∀rv w',(Instr.makeSlice t v u).run P w=.ok rv w'->s.run P w=.ok (.value rv) w')
 (l:(match(generalizing:=false) x,y with
 | .int .i64 n,.int .i64 c=>
  if 0<=n/\n<=c/\c*bytes<=70368744177664/\c<9223372036854775807/\fits sz z=true/\0<sz then
   some (AV.sl aid n.toNat 0 n.toNat<|n==c,[],some (aid,AObj.row sz<|List.replicate n.toNat z))
  else none
 |_,_=>none)=some res):Sim P T X h w s res:=by
 obtain⟨n,c,rfl,rfl⟩:∃n c,x=.int .i64 n/\y=.int .i64 c:=by
  grind
 .have⟨⟨Q,h1,h2,h3,W,G⟩,l⟩:=Wv l;simp only[Option.some.injEq]at l;subst l;cases QS hx;cases QS L;have p:R T X w z b:=Ws _ _ J;have⟨f1,f2,f3,f4,f5⟩:=Kz W p;obtain⟨a,o⟩:∃a,a=(Array.range<|c.toNat*sz).map (λi=>b.cells[i%b.cells.size]!):=⟨_,rfl⟩
  have d:a.size=c.toNat*sz:=by grind
  have g:(Instr.makeSlice t (.int .i64 n)<|.int .i64 c).run P w=.ok (.slice (some ⟨w.heap.size,0,none⟩) n.toNat c.toNat) (w.alloc<|.cells a e):=by
   have U:=wrap_i64 Q<|by omega
   have w2:=wrap_i64 (n:=c) (by omega)<|by omega
   have t1:¬(c<0):=by omega
   have t2:¬((bytes:Int)*c>281474976710656):=by grind
   have t3:¬(n<0):=by omega
   have t4:¬(n>c):=by omega
   have A:(zeroValue e).run P w=.ok b w:=Xu w<|by grind [YH]
   have f:(sizeOf e).run P w=.ok sz w:=QY w<|by grind [ZR]
   have D:(typeInfo e).run P w=.ok i w:=by simp[typeInfo,hi]
   have Z:P.cellsOf e=sz:=by grind [Program.cellsOf]
   simp only[Instr.makeSlice,Sem.run_bind,run_underlying Y,Result.andThen_ok,asInt,asIntOf,Sem.run_pure,D,E,U,w2];have tl:(decide (c<0)||decide ((bytes:Int)*c>2 ^ 48))=false:=by grind
   simp only[tl,ZXU,Sem.run_ite];rw[if_neg<|by grind]
   simp only[Sem.run_bind,run_askRoom,Result.andThen_ok,f,Sem.run_ite,Sem.run_pure,A];by_cases k:c.toNat*sz=0
   .rw[if_pos k];have:a = #[]:=by
     grind
    simp[newRow,k,this];rw[show Array.map (λ_:Nat=>(default:Value)) (Array.range 0) = #[]from Array.eq_empty_of_size_eq_zero<|by simp]
   simp_all[newRow]
  refine HW (C:=c.toNat) (e:=e) (cs:=a) m O B H G (by grind) d ?_ ?_ (K _ _ g) ?_
  .grind
  .refine⟨(List.replicate n.toNat b.cells.toList).flatten,by grind [Mo,Mp],λj q N=>?_⟩
   have hj:j<n.toNat*sz:=by
    have:=(ZXu.1 N).1
    simp_all
   have F:n.toNat*sz<=c.toNat*sz:=ZYk _<|by omega
   grind [R6]
  .refine⟨⟨_,_,_,rfl⟩,sz,_,_,_,0,upd_same _ _ _,by simp,by simp,λ_=>⟨c.toNat,by omega,by omega,?_,.inl ⟨w.heap.size,rfl,by simp⟩⟩⟩
   grind
def CP(v:List Value):∀(off:Nat)(a:Array Value),off+v.length<=a.size->
 (v.zipIdx.foldl (λcs(c,j)=>cs.setIfInBounds (off+j) c) a).toList=a.toList.take off++v++a.toList.drop (off+v.length):=by
 have d:∀(v:List Value)(k off:Nat)(a:Array Value),off+k+v.length<=a.size->
  ((v.zipIdx k).foldl (λcs(c,j)=>cs.setIfInBounds (off+j) c) a).toList=a.toList.take (off+k)++v++a.toList.drop (off+k+v.length):=by
  intro v;induction v with
  |nil=>simp_all
  |cons x v e=>
   intro k off a f;rw[List.zipIdx_cons,ZY5,e (k+1) off (a.setIfInBounds (off+k) x)<|by grind]
   simp[Array.toList_setIfInBounds];have b:off+k<a.toList.length:=by grind
   rw[show off+(k+1)=off+k+1 by omega]
   rw[ZYm,List.getElem?_set_self b,List.take_set_of_le<|ZXh _]
   grind [List.drop_set_of_lt]
 simp_all
theorem CQ{cs v:List AV}{vs u:List Value}(a:Rs T X w cs vs)(b:Rs T X w v u)(off n:Nat):Rs T X w (cs.take off++v++cs.drop (off+n)) (vs.take off++u++vs.drop (off+n)):=by grind [QR,Kt,VE]
inductive F2{α β:Type}(p:α->β->Prop):List α->List β->Prop where
 |nil:F2 p [] []
 |cons {a:α} {b:β} {as:List α} {bs:List β}:p a b->F2 p as bs->F2 p (a::as) (b::bs)
def R7{place:Nat->Option (Nat×Nat)}:∀{ps:List (Nat×Value)}{g:List (Nat×Nat×AV)}{a:Array Value}{cs d:List AV},
 F2 (λ(p:Nat×Value)(q:Nat×Nat×AV)=>place p.1=some (q.1,q.2.1)/\R T X w q.2.2 p.2) ps g->
 Rs T X w cs a.toList->fill cs g=some d->∃b,Instr.fill place a ps=some b/\Rs T X w d b.toList/\b.size=a.size:=by
 intro ps;induction ps with
 |nil=>
  intro g a cs d h l f;cases h;simp[fill]at f;subst f;exact⟨a,rfl,l,rfl⟩
 |cons p ps m=>
  intro g a cs d h l f;cases h with
  |cons h1 h2=>
   rename_i q g;obtain⟨i,v⟩:=p;obtain⟨off,sz,x⟩:=q;obtain⟨n,s⟩:=h1;simp[fill]at f;cases k:(fits sz x&&Nat.ble (off+sz) cs.length)with
   |false=>grind
   |true=>
    rw[k]at f;simp[Nat.ble_eq]at k;obtain⟨u,z,C,B,y⟩:=Kz k.1 s;have A:=Qr l;simp only[Instr.fill,n];rw[if_neg<|by grind]
    have e:(v.cells.zipIdx.foldl (λcs(c,j)=>cs.setIfInBounds (off+j) c) a).toList=a.toList.take off++v.cells.toList++a.toList.drop (off+sz):=by
     have:=CP v.cells.toList off a<|by grind
     grind [Array.toList_zipIdx]
    obtain⟨b,o,r,t⟩:=m h2 (by rw[e];grind [CQ]) f
    refine⟨b,o,r,?_⟩;have:=congrArg List.length e
    grind
def CR{t:TypeId}{b:Array Field}{c:Value}(e:P.underlying t=some (.struct b))(d:YH P t=some c){places:Array (Nat×Nat)}(g:(b.mapM λf=>do pure (f.offset,<-sizeOf f.type):Sem<|Array<|Nat×Nat).run P w=.ok places w)
 {ps:Array (Nat×Value)} {a:Array Value} (h:Instr.fill (places[·]?) c.cells ps.toList=some a):(Instr.build t ps).run P w=.ok (.agg a) w:=by
 simp_all[Instr.build,Xu,run_underlying]
theorem run_places{a:List Field}{l:List Nat}(b:a.map (λf=>ZR P f.type)=l.map some):(a.mapM (λf=>do pure (f.offset,<-sizeOf f.type):Field->Sem (Nat×Nat))).run P w=.ok (a.zipWith (λf n=>(f.offset,n)) l) w:=by
 induction a generalizing l with
 |nil=>cases l<;>simp at b⊢
 |cons f a c=>
  cases l with
  |nil=>grind
  |cons n l=>
   simp[List.cons.injEq]at b;rw[List.mapM_cons];simp only[Sem.run_bind,QY w b.1,Result.andThen_ok,Sem.run_pure,c b.2];rfl
end Go.AM
namespace Go.AM
open Go
variable [Dr]
variable {P:Program} {E:Env} {T:Ty} {X:Xt} {w:World} {h:Hp} {fr:Fr} {a:Act}
def Xx(a:Nat->Option (Nat×Nat)):List (Nat×Operand)->List (Nat×Nat×Arg)->Bool
 |[],[]=>true
 |p::ps,q::qs=>decide (a p.1=some (q.1,q.2.1))&&Zr p.2 q.2.2&&Xx a ps qs
 |_,_=>false
def G5{e:Nat->Option (Nat×Nat)}(c:GlR E T X w)(d:FrR T X w fr a.tmps):∀{ps:List (Nat×Operand)}{b:List (Nat×Nat×Arg)},Xx e ps b=true->
 F2 (λ(p:Nat×Value)(q:Nat×Nat×AV)=>e p.1=some (q.1,q.2.1)/\R T X w q.2.2 p.2) (ps.map λp=>(p.1,a.eval p.2)) (b.map λq=>(q.1,q.2.1,ev E fr q.2.2))
 |[],[],_=>.nil
 |[],_::_,hh=>by grind [Xx]
 |_::_,[],hh=>by grind [Xx]
 |p::ps,q::b,hh=>by
  simp[Xx]at hh;exact .cons ⟨hh.1.1,evR c d hh.1.2⟩<|G5 c d hh.2
def KG(P:Program)(a:Array Field)(i:Nat):Option (Nat×Nat):=
 match a[i]? with
 |some f=>(ZR P f.type).map λn=>(f.offset,n)
 |none=>none
def KH(P:Program):List Field->Option (List Nat)
 |[]=>some []
 |f::fs=>
  match ZR P f.type,KH P fs with
  |some n,some l=>some<|n::l
  |_,_=>none
def Mr:∀{a:List Field}{l:List Nat},KH P a=some l->a.map (λf=>ZR P f.type)=l.map some
 |[],l,hh=>by grind [KH]
 |f::a,l,hh=>by
  unfold KH at hh;split at hh
  .next n b h1 h2=>
   simp at hh;subst hh;simp[h1,Mr h2]
  .cases hh
def CS{a:List Field}{l:List Nat}(c:a.map (λf=>ZR P f.type)=l.map some)(i:Nat):((a.zipWith (λf n=>(f.offset,n)) l)[i]?:Option<|Nat×Nat)=KG P a.toArray i:=by
 induction a generalizing l i with
 |nil=>simp[KG]
 |cons f a b=>
  cases l with
  |nil=>grind
  |cons n l=>
   cases i with
   |zero=>grind [KG]
   |succ i=>
    simp_all[KG]
def CT{s:Sem Next}{t:TypeId}{q:Value}{z:List AV}{ps:Array (Nat×Operand)}{o:List (Nat×Nat×Arg)}{res:Zt}(m:M T X h w)(C:GlR E T X w)(A:FrR T X w fr a.tmps)
 (H:YH P t=some q) (v:Wr q.cells.toList z=true)
 (N:(∃k l,P.underlying t=some (.struct k)/\KH P k.toList=some l/\Xx (KG P k) ps.toList o=true)\/
  (∃n e sz,P.underlying t=some (.array n e)/\ZR P e=some sz/\Xx (λi=>some (i*sz,sz)) ps.toList o=true))
 (B:∀rv,(Instr.build t<|ps.map λ(i,x)=>(i,a.eval x)).run P w=.ok rv w->s.run P w=.ok (.value rv) w)
 (J:Zl ((fill z<|o.map λp=>(p.1,p.2.1,ev E fr p.2.2)).map .agg)=some res):Sim P T X h w s res:=by
 obtain⟨u,D,rfl⟩:=ZY J;simp[ZXt]at D;obtain⟨G,c,rfl⟩:=D;have g:Rs T X w z q.cells.toList:=HU _ _ v;have j:(ps.map λ(i,x)=>(i,a.eval x)).toList=ps.toList.map λp=>(p.1,a.eval p.2):=by simp
 rcases N with⟨k,l,F,L,r⟩|⟨n,e,sz,F,hsz,r⟩
 .have d:=G5 (a:=a) C A r;have⟨b,h1,h2,K⟩:=R7 d g c;have y:=Mr L;refine Sim.pure m (B (.agg b) ?_) ⟨b,rfl,h2⟩;refine CR (places:=(k.toList.zipWith (λf n=>(f.offset,n)) l).toArray) F H ?_ ?_
  .grind [Array.mapM_eq_mapM_toList,Sem.run_map,run_places,Result.andThen_ok]
  .rw[j,<-h1];congr 1
   funext i
   have:=CS y i
   simp_all
 .have d:=G5 (a:=a) C A r;have⟨b,h1,h2,K⟩:=R7 (place:=λi=>some (i*sz,sz)) d g c
  refine Sim.pure m (B (.agg b) ?_) ⟨b,rfl,h2⟩
  simp_all[Instr.build,Xu,run_underlying,QY]
def CU{sz:Nat}:∀{d:List (Nat×AV)}{es es':List AV},(∀e∈es,e.cells.length=sz)->YC sz es d=some es'->
 fill (flat es) (d.map λq=>(q.1*sz,sz,q.2))=some (flat es')/\es'.length=es.length/\∀e∈es',e.cells.length=sz:=by
 intro d;induction d with
 |nil=>intro es es' a b;simp[YC]at b;subst b;exact⟨rfl,rfl,a⟩
 |cons q d k=>
  intro es es' a b;have⟨i,v⟩:=q;simp[YC]at b;cases g:(fits sz v&&Nat.blt i es.length)with
  |false=>grind
  |true=>
   rw[g]at b;simp only[ZXf]at g;have f:i<es.length:=by simp_all
   have r:v.cells.length=sz:=by
    have:=g.1;cases v<;>simp[fits]at this<;>simp[AV.cells,this]
   have c:∀e∈es.set i v,e.cells.length=sz:=by
    grind
   have⟨h1,h2,n⟩:=k c b;have o:es[i]?=some es[i]:=ZXj f;have p:(flat<|es.take i).length=i*sz:=by
    rw[HX (sz:=sz)<|λe b=>a e<|ZYI b];rw[ZXX,ZYU<|by omega]
   have l:flat es=flat (es.take i)++(es[i].cells++flat (es.drop<|i+1)):=by
    conv=>lhs;rw[Mk o]
    rw[KE,VH]
   have j:es[i].cells.length=sz:=a _<|ZYA f;have h:(flat es).take (i*sz)++v.cells++(flat es).drop (i*sz+sz)=flat (es.set i v):=by
    grind [Ml,KE,VH]
   refine⟨?_,by grind,n⟩
   simp only[ZXn,fill];have m:i*sz+sz<=(flat es).length:=by
    grind
   rw[g.1,show Nat.ble (i*sz+sz) (flat es).length=true from by simp_all]
   grind
def CV{s:Sem Next}{t e:TypeId}{l:Value}{z:AV}{fz ex:Bool}{sz b aid:Nat}{ps:Array (Nat×Operand)}{n:List (Nat×Arg)}{res:Zt}(m:M T X h w)(gl:GlR E T X w)(hf:FrR T X w fr a.tmps)
 (hX:∀r,X r->r<w.heap.size) (K:aid<=h.length) (hT:T aid=none) (h0:0<sz) (U:b*sz<=16777216)
 (ht:P.underlying t=some (.slice e)) (N:ZR P e=some sz) (hz:YH P e=some l) (H:Q3 l z=true)
 (hp:Xx (λi=>some (i*sz,sz)) ps.toList (n.map λq=>(q.1*sz,sz,q.2))=true)
 (V:∀rv w',(Instr.buildSlice t b<|ps.map λ(i,x)=>(i,a.eval x)).run P w=.ok rv w'->s.run P w=.ok (.value rv) w')
 (g:(match(generalizing:=false) YC sz (List.replicate b z) (n.map λp=>(p.1,ev E fr p.2))with
 |some es=>
  bif fits sz z then
   bif fz then(bif Z4 es then Zl (some<|.isl false ex sz es)else none)
   else some (AV.sl aid b 0 b<|!ex,[],some (aid,AObj.row sz es))
  else none
 |none=>none)=some res):Sim P T X h w s res:=by
 cases y:YC sz (List.replicate b z) (n.map λp=>(p.1,ev E fr p.2))with
 |none=>grind
 |some es=>
  rw[y]at g;cases f:fits sz z with
  |false=>grind
  |true=>
   rw[f]at g;simp only[cond_true]at g;have G:R T X w z l:=Ws _ _ H;have⟨f1,f2,f3,f4,f5⟩:=Kz f G;have B:∀e∈List.replicate b z,e.cells.length=sz:=λx hx=>by grind
   have⟨g1,g2,Y⟩:=CU B y;have W:(ps.map λ(i,x)=>(i,a.eval x)).toList=ps.toList.map λp=>(p.1,a.eval p.2):=by simp
   have A:=G5 (a:=a) gl hf hp;obtain⟨D,aa⟩:∃D,D=(Array.range<|b*sz).map (λi=>l.cells[i%l.cells.size]!):=⟨_,rfl⟩
   have J:D.toList=(List.replicate b l.cells.toList).flatten:=by grind [Mq]
   have L:Rs T X w (flat<|List.replicate b z) D.toList:=by grind [Mo,Mp]
   have hq:(List.map (λq:Nat×Nat×Arg=>(q.1,q.2.1,ev E fr q.2.2))<|n.map λq=>(q.1*sz,sz,q.2))=(n.map λp=>(p.1,ev E fr p.2)).map λq=>(q.1*sz,sz,q.2):=by simp
   rw[hq]at A;have⟨c,k1,S,k3⟩:=R7 (place:=λi=>some (i*sz,sz)) A L g1
   have k:c.size=b*sz:=by grind
   have v:es.length=b:=by grind
   have d:(Instr.buildSlice t b<|ps.map λ(i,x)=>(i,a.eval x)).run P w=.ok (.slice (some ⟨w.heap.size,0,none⟩) b b) (w.alloc<|.cells c e):=by
    simp only[Instr.buildSlice,Sem.run_bind,run_underlying ht,Result.andThen_ok,QY w N,Sem.run_ite];rw[if_neg<|by omega]
    by_cases hc:b*sz=0
    all_goals simp_all[Array.eq_empty_of_size_eq_zero,newRow,Xu]
   cases fz with
   |true=>
    simp only[cond_true]at g;cases o:Z4 es with
    |false=>grind
    |true=>
     rw[o]at g;obtain⟨u,O,rfl⟩:=ZY g;cases O;have F:=UT T w<|.cells c e;refine⟨T,_,_,.inl<|V _ _ d,F,Xr m F<|λr Q=>alloc_old w _<|m.lt r Q,?_⟩
     refine⟨_,_,_,rfl,v.symm,ZXh _,λ_=>rfl,o,?_⟩
     by_cases Z:es=[]
     .grind
     .right;refine⟨w.heap.size,0,rfl,λQ=>by have:=m.lt _ Q;omega,λ_ ab=>by grind,by simp_all,?_⟩
      exact Wq Y<|Xs (Yb F _ _ S)<|λj u O=>by simp_all[KA]
   |false=>
    simp only[cond_false,Option.some.injEq]at g;subst g;refine HW (C:=b) (e:=e) (cs:=c) m hX K hT h0 (by omega) k Y ⟨c.toList,S,λj u O=>by grind⟩ (V _ _ d) ?_
    exact⟨⟨_,_,_,rfl⟩,sz,es.length,_,_,0,upd_same _ _ _,by omega,by omega,λ_=>⟨b,by omega,by omega,λ_=>rfl,.inl ⟨w.heap.size,rfl,by simp⟩⟩⟩
end Go.AM
namespace Go.AM
open Go
variable [Dr]
variable {P:Program} {E:Env} {T:Ty} {X:Xt} {w:World} {h:Hp} {fr:Fr} {a:Act}
def G6(m:M T X h w){x:AV}{v:Value}{ys:List AV}{sz:Nat}(q:R T X w x v)(a:Q2 h x=some ys)(i:Qq h sz x=true):
 ∃ad cap,v=.slice ad ys.length cap/\ys.length<=cap/\(ys=[]\/∃r o,ad=some ⟨r,o,none⟩/\ZA T X w sz r ys o):=by
 cases x<;>simp only[Q2,reduceCtorEq,Option.some.injEq]at a
 case nilsl=>
  subst a;have:v=.slice none 0 0:=q;exact⟨none,0,this,ZXh _,.inl rfl⟩
 case isl bw ex z es=>
  subst a;obtain⟨ad,c,cap,rfl,rfl,h2,S,U,k⟩:=q;refine⟨ad,cap,rfl,h2,?_⟩;rcases k with k|⟨r,o,h6,h7,h8,h9,h10⟩
  .exact .inl k
  .by_cases d:es=[]
   .exact .inl d
   .right;simp only[Qq,ZZ9,beq_iff_eq,ZZa]at i;have:z=sz:=i.resolve_right d;subst this;exact⟨r,o,h6,h10⟩
 case sl b g off c ex=>
  cases j:h[b]? with
  |none=>rw[j]at a;cases a
  |some o=>
   rw[j]at a;cases o<;>(first|(simp only[reduceCtorEq]at a;done)|dsimp only at a|skip)
   case row z es=>
    cases l:(es.length==g)with
    |false=>rw[l]at a;cases a
    |true=>
     rw[l]at a;simp only[cond_true,Option.some.injEq]at a;have n:es.length=g:=by simpa using l
     simp only[Qq,j,beq_iff_eq]at i;subst i;have⟨r,C,B,u,J,Z,E⟩:=XV m j;have⟨_,t,Y,Q,N,W,f,H,P,D⟩:=q;rw[u]at f;cases f;have⟨cap,O,L,K,F⟩:=D n.symm;have e:ys.length=c:=by subst a;simp;omega
     rcases F with⟨y,rfl,rfl⟩|⟨rfl,p,rfl,q8⟩
     .refine⟨_,cap,by rw[e],by omega,?_⟩
      right;have⟨cs,el,V,G,A⟩:=E;refine⟨y,(B+off)*z,rfl,?_⟩;subst a;have:=UV c<|UU off A;rw[ZXQ];exact this
     .have:c=0:=by omega
      subst this;have s:ys=[]:=List.length_eq_zero_iff.1 e;exact⟨p,0,by rw[e],by omega,.inl s⟩
def G7{ys:List AV}{sz cap:Nat}{ad:Option Addr}(e:ys=[]\/∃r o,ad=some ⟨r,o,none⟩/\ZA T X w sz r ys o):
 ∃us:List Value,(Builtin.firstCells sz ys.length<|.slice ad ys.length cap).run P w=.ok us.toArray w/\Rs T X w (flat ys) us/\us.length=ys.length*sz/\∀y∈ys,y.cells.length=sz:=by
 rcases e with rfl|⟨r,o,rfl,hrow⟩
 .refine⟨[],?_,rfl,by simp,by simp⟩
  cases ad with
  |none=>simp[Builtin.firstCells]
  |some p=>simp[Builtin.firstCells,loadCells,loadCellsFrom]
 .have⟨h1,h2,c⟩:=Kx hrow;have⟨us,b,a⟩:=Kv h1;have f:=Qr a;refine⟨us,?_,a,by omega,c⟩
  simp only[Builtin.firstCells];rw[show ys.length*sz=us.length by omega]
  exact run_loadCells_list w ⟨r,o,none⟩ us<|λj u d=>by rw[addr_add];exact b j u d
def CW(a:Array Value)(n:Nat):(Builtin.zeroCells a n).size=n*a.size:=by simp[Builtin.zeroCells]
def Ms{es:List AV}{sz:Nat}(h1:∀e∈es,e.cells.length=sz){ys:List AV}(h2:∀e∈ys,e.cells.length=sz):∀e∈es++ys,e.cells.length=sz:=by
 intro e a;rcases ZY9.1 a with a|a
 .exact h1 e a
 .exact h2 e a
def run_append_grow{t Y e:TypeId}{sz bytes:Nat}{i:TypeInfo}{D:Value}{ad bd:Option Addr}{es ys:List AV}{cap cap2:Nat}{ty:TypeId}
 (ht:P.underlying t=some (.slice e)) (n:∃d,P.underlying Y=some d/\∀k,d≠.int k) (S:P.info? e=some i) (L:i.size=sz) (N:i.bytes=bytes) (O:i.zero=some D) (M:D.cells.size=sz) (E:0<bytes)
 (p:es=[]\/∃r o,ad=some ⟨r,o,none⟩/\ZA T X w sz r es o) (K:ys=[]\/∃r o,bd=some ⟨r,o,none⟩/\ZA T X w sz r ys o)
 (l:(es.length+ys.length)*bytes<=140737488355328) (m:cap<es.length+ys.length):
 ∃(C:Nat)(a:Array Value)(us:List Value)(g:World),g={w with drawn:=w.drawn+1}/\es.length+ys.length<=C/\a.size=C*sz/\Rs T X w (flat<|es++ys) us/\(∀(j:Nat)(u:Value),us[j]?=some u->a[j]?=some u)/\(∀y∈es++ys,y.cells.length=sz)/\
  (Builtin.append_ #[t,Y] ty #[.slice ad es.length cap,.slice bd ys.length cap2]).run P w=.ok (.slice (some ⟨w.heap.size,0,none⟩) (es.length+ys.length) C) (g.alloc<|.cells a e):=by
 have⟨U,n,G⟩:=n;have⟨u1,a1,a2,a3,a4⟩:=G7 (P:=P) (cap:=cap) p;obtain⟨g,f⟩:∃g:World,g={w with drawn:=w.drawn+1}:=⟨_,rfl⟩
 have x:es=[]\/∃r o,ad=some ⟨r,o,none⟩/\ZA T X g sz r es o:=by
  rcases p with hh|⟨r,o,q1,q2⟩
  .exact .inl hh
  .exact .inr ⟨r,o,q1,HS (w:=w) (w':=g) (by subst f;exact(Step.refl T w).drew _ (λ_=>ZYa _)) sz r (by subst f;rfl) es o q2⟩
 have v:ys=[]\/∃r o,bd=some ⟨r,o,none⟩/\ZA T X g sz r ys o:=by
  rcases K with hh|⟨r,o,q1,q2⟩
  .exact .inl hh
  .exact .inr ⟨r,o,q1,HS (w:=w) (w':=g) (by subst f;exact(Step.refl T w).drew _ (λ_=>ZYa _)) sz r (by subst f;rfl) ys o q2⟩
 have⟨W,b1,b2,b3,b4⟩:=G7 (P:=P) (cap:=cap) x;have⟨V,c1,c2,c3,c4⟩:=G7 (P:=P) (cap:=cap2) v;have s:Stp T g T w:=by subst f;exact⟨ZXh _,λ_ c h=>⟨c,h,.refl c⟩,λ_ _ _ _=>rfl,λ_ _ _ _ _ h=>h,λ_ h=>.inl h⟩
 have H:es.length+ys.length<=140737488355328:=ZXW (Nat.le_mul_of_pos_right _ E) l;obtain⟨C,hC⟩:∃C,C=(Question.appendCap (es.length+ys.length) cap e).cut (w.tape w.drawn<|Question.appendCap (es.length+ys.length) cap e):=⟨_,rfl⟩;have B:es.length+ys.length<=C:=by rw[hC];simp only[Question.cut];omega
 obtain⟨a,b⟩:∃a,a=W.toArray++V.toArray++Builtin.zeroCells D.cells (C-(es.length+ys.length)):=⟨_,rfl⟩;refine⟨C,a,W++V,g,f,B,?_,?_,?_,Ms b4 c4,?_⟩
 .rw[b];simp only[Array.size_append,ZZC,CW,b3,c3,M];rw[<-ZXQ,<-ZXQ];congr 1;omega
 .rw[KE];exact QR (XT s _ _ b2)<|XT s _ _ c2
 .intro j u Z;rw[b,ZYX (by
   have:=(ZXu.1 Z).1;simpa using this)]
  simpa using Z
 .have z:(sizeOf e).run P w=.ok sz w:=QY w (by simp[ZR,S,L])
  have A:∀w',(typeInfo e).run P w'=.ok i w':=λw'=>by simp[typeInfo,S]
  have J:∀w',(zeroValue e).run P w'=.ok D w':=λw'=>Xu w'<|by simp[YH,S,O]
  have F:Builtin.nextslicecap (es.length+ys.length) cap*bytes<=281474976710656:=by
   have:=Room.nextslicecap_le' m;have h2:Builtin.nextslicecap (es.length+ys.length) cap*bytes<=2*(es.length+ys.length)*bytes:=ZYk _ this;rw[Nat.mul_assoc]at h2;omega
  have hz:(match U with| .int _=>true|_=>false)=false:=by
   cases U<;>first|rfl|exact(G _ rfl).elim
  simp only[Builtin.append_,ZYV,ZYf,ZYn,Sem.run_bind,run_underlying ht,Result.andThen_ok,z,run_underlying n,Sem.run_pure];have Q:¬(((es.length+ys.length:Nat):Int)>IntKind.i64.max/\(False\/i.bytes=0)):=by
   rintro⟨_,q|q⟩
   .exact q
   .omega
  have R:¬(Builtin.nextslicecap (es.length+ys.length) cap*i.bytes>2 ^ 48):=by
   rw[N];omega
  simp only[ZXB,if_false,Sem.run_bind,Builtin.lenOf,Sem.run_pure,Result.andThen_ok,Sem.run_ite];rw[if_neg (show ¬(es.length+ys.length<=cap)by omega)]
  simp only[Sem.run_bind,A,Result.andThen_ok,Sem.run_ite];rw[if_neg Q];rw[if_neg R];simp only[run_choose,Question.forced,ZXB,if_false,Sem.run_bind,Result.andThen_ok,A,run_askRoom,<-hC,<-f,b1,c1,ZXv,if_true,J];simp[newRow,b];rw[f]
def CX{t g e:TypeId}{sz:Nat}{ad bd:Option Addr}{n cap cap2:Nat}{ty:TypeId}
 (i:P.underlying t=some (.slice e)) (a:∃d,P.underlying g=some d/\∀k,d≠.int k) (b:ZR P e=some sz) (h:n<=cap):
 (Builtin.append_ #[t,g] ty #[.slice ad n cap,.slice bd 0 cap2]).run P w=.ok (.slice ad n cap) w:=by
 have⟨f,a,c⟩:=a;have l:(match f with| .int _=>true|_=>false)=false:=by
  cases f<;>first|rfl|exact(c _ rfl).elim
 have j:(Builtin.firstCells sz 0<|.slice bd 0 cap2).run P w=.ok #[] w:=by
  cases bd<;>simp[Builtin.firstCells,loadCells,loadCellsFrom]
 simp only[Builtin.append_,ZYV,ZYf,ZYn,Sem.run_bind,run_underlying i,Result.andThen_ok,QY w b,run_underlying a,Sem.run_pure];simp only[ZXB,if_false,Sem.run_bind,Builtin.lenOf,Sem.run_pure,Result.andThen_ok,Sem.run_ite];rw[if_pos (show n+0<=cap by omega)]
 simp only[ZXv,if_true,j,Sem.run_bind,Result.andThen_ok];cases ad with
 |none=>simp
 |some p=>simp[storeCells]
def run_append_room{t u e:TypeId}{sz:Nat}{bd:Option Addr}{ys:List AV}{r o n cap cap2:Nat}{cs:Array Value}{el:TypeId}{ty:TypeId}
 (z:P.underlying t=some (.slice e)) (b:∃d,P.underlying u=some d/\∀k,d≠.int k) (i:ZR P e=some sz)
 (h:ys=[]\/∃r o,bd=some ⟨r,o,none⟩/\ZA T X w sz r ys o) (f:∀(us:List Value),Rs T X w (flat ys) us->∀c∈us,c.oneCell'=true)
 (A:w.heap[r]?=some (.cells cs el (0,0))) (a:n+ys.length<=cap) (q:o+cap*sz<=cs.size):
 ∃us:List Value,Rs T X w (flat ys) us/\us.length=ys.length*sz/\(∀y∈ys,y.cells.length=sz)/\
  (Builtin.append_ #[t,u] ty #[.slice (some ⟨r,o,none⟩) n cap,.slice bd ys.length cap2]).run P w=.ok (.slice (some ⟨r,o,none⟩) (n+ys.length) cap) (w.setRow r (cs.toList.take (o+n*sz)++us++cs.toList.drop (o+n*sz+us.length)).toArray):=by
 have⟨m,b,g⟩:=b;have B:(match m with| .int _=>true|_=>false)=false:=by
  cases m<;>first|rfl|exact(g _ rfl).elim
 have⟨us,x,p,s,v⟩:=G7 (P:=P) (cap:=cap2) h;refine⟨us,p,s,v,?_⟩;have l:n*sz+us.length<=cap*sz:=by
  rw[s,<-ZXQ];exact ZYk _ a
 have j:=run_storeCells_at (P:=P) r (o+n*sz) el us 0 cs w A (by omega)<|f us p
 simp only[Builtin.append_,ZYV,ZYf,ZYn,Sem.run_bind,run_underlying z,Result.andThen_ok,QY w i,run_underlying b,Sem.run_pure];simp only[ZXB,if_false,Sem.run_bind,Builtin.lenOf,Sem.run_pure,Result.andThen_ok,Sem.run_ite];rw[if_pos a];simp only[ZXv,if_true,x,Sem.run_bind,Result.andThen_ok];have:Addr.add ⟨r,o,none⟩ (n*sz)=⟨r,o+n*sz,none⟩:=by rw[addr_add]
 rw[this,j];simp
def R8{sz:Nat}:∀{ys:List AV},ys.all (fits sz)=true->∀(us:List Value),Rs T X w (flat ys) us->∀c∈us,c.oneCell'=true:=by
 intro ys e us g c l;have⟨j,i⟩:=ZYv.1 l;have n:=Qr g;have f:j<(flat ys).length:=by rw[n];exact(ZXu.1 i).1
 have⟨v,h,o⟩:=Wp j g<|ZXj f;rw[i]at h;cases h;have d:=ZYA f;simp only[flat,ZZj]at d;have⟨y,m,b⟩:=d;have a:=(ZXs.1 e) y m;have k:scalar (flat ys)[j]=true:=by
  cases y<;>simp[fits]at a<;>simp[AV.cells]at b
  case agg cs=>exact a.2 _ b
  case bot=>simp[scalar]at a
  case tup=>simp[scalar]at a
  all_goals (simp only[flat]at b⊢;rw[b];rfl)
 exact(HT k o).1
def CY{s:Sem Next}{t t2 e:TypeId}{sz bytes aid:Nat}{i:TypeInfo}{V:Value}{ad bd:Option Addr}{es ys:List AV}{cap cap2:Nat}{ty:TypeId}{fz:Bool}{rs:List Nat}{res:Zt}(m:M T X h w)(hX:∀r,X r->r<w.heap.size)
 (E:aid<=h.length) (W:T aid=none) (h0:0<sz)
 (ht:P.underlying t=some (.slice e)) (H:∃d,P.underlying t2=some d/\∀k,d≠.int k) (hi:P.info? e=some i) (L:i.size=sz) (Q:i.bytes=bytes) (R:i.zero=some V) (J:V.cells.size=sz) (B:0<bytes)
 (A:es=[]\/∃r o,ad=some ⟨r,o,none⟩/\ZA T X w sz r es o) (G:ys=[]\/∃r o,bd=some ⟨r,o,none⟩/\ZA T X w sz r ys o)
 (l:(es.length+ys.length)*bytes<=140737488355328) (v:cap<es.length+ys.length)
 (Y:∀rv w',(Builtin.append_ #[t,t2] ty #[.slice ad es.length cap,.slice bd ys.length cap2]).run P w=.ok rv w'->s.run P w=.ok (.value rv) w')
 (p:Yp aid fz sz (es++ys) rs=some res):Sim P T X h w s res:=by
 obtain⟨C,a,us,b,g,k1,k2,k3,k4,Z,n⟩:=run_append_grow (P:=P) (ty:=ty) ht H hi L Q R J B A G l v;have f:Step T w T b:=by subst g;exact(Step.refl T w).drew _ (λ_=>ZYa _)
 have U:M T X h b:=Xr m f<|λr _=>by subst g;rfl
 have K:∀r,X r->r<b.heap.size:=by subst g;exact hX
 have q:b.heap.size=w.heap.size:=by subst g;rfl
 have z:=Yb f _ _ k3;have c:(es++ys).length=es.length+ys.length:=by simp
 cases fz with
 |true=>
  simp only[Yp,cond_true]at p;cases x:Z4 (es++ys)with
  |false=>rw[x]at p;cases p
  |true=>
   rw[x]at p;simp only[cond_true,Option.some.injEq]at p;subst p;have D:=UT T b<|.cells a e;refine⟨T,_,_,.inl<|Y _ _ n,f.trans D,Xr U D<|λr O=>alloc_old b _<|U.lt r O,?_⟩
   refine⟨_,_,_,rfl,by rw[c],k1,λS=>by simp at S,x,.inr ⟨w.heap.size,0,rfl,λO=>by have:=m.lt _ O;omega,λ_ F=>by have:=hX _ F;omega,by rw[World.size_alloc];omega,?_⟩⟩
   refine Wq Z<|Xs (Yb D _ _ z)<|λj u N=>?_
   rw[<-q,KA,ZXA];exact k4 j u N
 |false=>
  simp only[Yp,cond_false,Option.some.injEq]at p;subst p;have y:Step T b (upd T aid<|.row sz (es++ys).length (some b.heap.size) C 0) (b.alloc<|.cells a e):=VD T b _ aid _ W<|by simp[TC.real]
  refine⟨upd T aid<|.row sz (es++ys).length (some b.heap.size) C 0,_,_,.inl<|Y _ _ n,f.trans y,?_,?_⟩
  .refine JQ U K aid _ _ _ E W (by simp[TC.real]) ⟨rfl,rfl,h0,by rw[c,ZXA];exact k1,a,e,Wo b _,k2,?_⟩
   rw[ZYY];exact Wq Z<|Xs (Yb y _ _ z)<|λj u N=>by rw[KA,ZXA];exact k4 j u N
  .refine⟨⟨_,_,_,rfl⟩,sz,_,_,C,0,upd_same _ _ _,ZXh _,by omega,λ_=>⟨C,by omega,by omega,λS=>by simp at S,.inl ⟨b.heap.size,rfl,?_⟩⟩⟩
   rw[c,q,ZYY]
def V2{p q:Option Addr}{n m c d:Nat}(a:Value.slice p n c=.slice q m d):p=q/\n=m/\c=d:=by
 simpa using a
set_option maxHeartbeats 400000 in
def CZ{s:Sem Next}{t t2 e:TypeId}{sz bytes b:Nat}{i:TypeInfo}{zv:Value}{y:AV}{ty:TypeId}{es ys:List AV}{ad bd:Option Addr}{cap cap2:Nat}(m:M T X h w)(hX:∀r,X r->r<w.heap.size)
 (ht:P.underlying t=some (.slice e)) (Y:∃d,P.underlying t2=some d/\∀k,d≠.int k) (hi:P.info? e=some i) (V:i.size=sz) (ar:i.bytes=bytes) (au:i.zero=some zv) (al:zv.cells.size=sz)
 (hb:h[b]?=some (.row sz es)) (aa:ys.all (fits sz)=true) (aw:0<ys.length) (an:0<bytes) (A:(es.length+ys.length)*bytes<=140737488355328)
 (hx:R T X w (.sl b es.length 0 es.length false)<|.slice ad es.length cap) (ah:es=[]\/∃r o,ad=some ⟨r,o,none⟩/\ZA T X w sz r es o) (S:ys=[]\/∃r o,bd=some ⟨r,o,none⟩/\ZA T X w sz r ys o)
 (hs:∀rv w',(Builtin.append_ #[t,t2] ty #[.slice ad es.length cap,.slice bd ys.length cap2]).run P w=.ok rv w'->s.run P w=.ok (.value rv) w'):
 Sim P T X h w s (.sl b (es.length+ys.length) 0 (es.length+ys.length) false,b::Zs y,some (b,.row sz<|es++ys)):=by
 have Z:ZR P e=some sz:=by simp[ZR,hi,V]
 obtain⟨r,C,B,D,q0,hC,hr⟩:=XV m hb;obtain⟨_,az,g2,r2,C2,B2,W,q1,q2,q3⟩:=hx;rw[D]at W;cases W;obtain⟨av,q4,q5,q6,q7⟩:=q3 rfl;have ae:B+cap<=C:=by
  rcases q7 with⟨c,_,H⟩|⟨q8,p,H,_⟩
  .have:=(V2 H).2.2;omega
  .have:=(V2 H).2.2;omega
 have g:(es++ys).length=es.length+ys.length:=by simp
 by_cases G:es.length+ys.length<=cap
 .obtain⟨c,ag,rfl⟩:∃c,r=some c/\ad=some ⟨c,B*sz,none⟩:=by
   rcases q7 with⟨c,e1,H⟩|⟨q8,p,H,_⟩
   .exact⟨c,e1,by rw[(V2 H).1,ZYb]⟩
   .have:=(V2 H).2.2;omega
  subst ag;obtain⟨cs,el,L,O,k3⟩:=hr;obtain⟨us,c2,c3,c4,l⟩:=run_append_room (P:=P) (ty:=ty) (cap2:=cap2) ht Y Z S (R8 aa) L G<|by rw[O,<-ZXQ];exact ZYk _ ae
  obtain⟨U,os,ax,ap,ab,af,aj⟩:=HZ k3 L O hC;obtain⟨a,q⟩:∃a,a=(cs.toList.take (B*sz+es.length*sz)++us++cs.toList.drop (B*sz+es.length*sz+us.length)):=⟨_,rfl⟩;rw[<-q]at l;have F:a=U++((os++us)++cs.toList.drop (B*sz+es.length*sz+us.length)):=by
   rw[q];have:cs.toList.take (B*sz+es.length*sz)=U++os:=by
    rw[ap,<-ab,ZZz,ZZg aj]
   rw[this];simp[ZY0]
  have K:a.length=cs.size:=by
   rw[q];have ay:B*sz+es.length*sz+us.length<=cs.size:=by
    rw[c3,<-ZXQ,<-ZXQ,O];exact ZYk _<|by omega
   simp;omega
  have ak:(w.setRow c a.toArray).heap[c]?=some (.cells a.toArray el (0,0)):=setRow_heap w c cs a.toArray el (0,0) L;obtain⟨st,hm⟩:=JV (w':=w.setRow c a.toArray) (o:=.row sz<|es++ys) (c':=.row sz (es.length+ys.length) (some c) C B) m D rfl rfl ⟨rfl,.inr<|by omega⟩ (KD hb) rfl rfl rfl (setRow_size _ _ _)
   (λx hx=>setRow_other w c x _ hx)
   (λst=>⟨rfl,g,q0,by omega,a.toArray,el,ak,by simpa[K]using O,by
    refine Wq (Ms (Kx k3).2.2 c4) ?_;rw[KE];refine Xs (Yb st _ _<|QR af c2)<|λj u hj=>?_
    rw[Mm L];simp only[ZYV];rw[F,ZYl (by omega),ab,show B*sz+j-B*sz=j by omega,ZYw (ZXu.1 hj).1]
    exact hj⟩)
  refine⟨_,_,_,.inl<|hs _ _ l,st,hm,⟨_,_,_,rfl⟩,sz,_,_,C,B,upd_same _ _ _,ZXh _,by omega,λ_=>⟨cap,by omega,by omega,λhh=>by simp at hh,.inl ⟨c,rfl,by simp⟩⟩⟩
 .obtain⟨C',v,us,n,z,L,O,k3,k4,k5,l⟩:=run_append_grow (P:=P) (ty:=ty) (cap:=cap) (cap2:=cap2) ht Y hi V ar au al an ah S A (by omega)
  have E:Step T w T n:=by subst z;exact(Step.refl T w).drew _ (λ_=>ZYa _)
  have m1:M T X h n:=Xr m E<|λr _=>by subst z;rfl
  have aq:∀r,X r->r<n.heap.size:=by subst z;exact hX
  have Q:n.heap.size=w.heap.size:=by subst z;rfl
  have am:=Yb E _ _ k3;have J:Step T n (upd T b<|.row sz (es++ys).length (some n.heap.size) C' 0) (n.alloc<|.cells v e):=by
   refine⟨rfl,rfl,rfl,by rw[World.size_alloc];omega,?_,λx hx _=>alloc_old n _ hx,?_,λ_=>ZXh _⟩
   .intro x cx f;by_cases ex:x=b
    .subst ex;rw[D]at f;cases f;exact⟨_,upd_same _ _ _,rfl,.inr<|by rw[g];omega⟩
    .exact⟨cx,by rw[upd_ne _ _ ex];exact f,.refl _⟩
   .intro x f;obtain⟨N,cx,h1,h2⟩:=f;by_cases ex:N=b
    .subst ex;rw[upd_same]at h1;cases h1;simp only[TC.real,Option.some.injEq]at h2;exact .inr<|by omega
    .rw[upd_ne _ _ ex]at h1;exact .inl ⟨N,cx,h1,h2⟩
  refine⟨_,_,_,.inl<|hs _ _ l,E.trans J,?_,?_⟩
  .refine WZ m1 b _ _ (KD hb) J (λN c' c _ h1 h2=>alloc_old n _<|m1.lt c ⟨N,c',h1,h2⟩) ?_ ⟨rfl,rfl,q0,by rw[g,ZXA];exact L,v,e,Wo n _,O,?_⟩
   .intro c ac;simp only[TC.real,Option.some.injEq]at ac;subst ac;exact⟨by rw[World.size_alloc];omega,λf=>by have:=aq _ f;omega,λN c' _ h1 h2=>by have:=m1.lt _ ⟨N,c',h1,h2⟩;omega⟩
   .rw[ZYY];exact Wq k5<|Xs (Yb J _ _ am)<|λj u hu=>by rw[KA,ZXA];exact k4 j u hu
  .refine⟨⟨_,_,_,rfl⟩,sz,_,_,C',0,upd_same _ _ _,by rw[g];omega,by omega,λ_=>⟨C',by omega,by omega,λhh=>by simp at hh,.inl ⟨n.heap.size,rfl,?_⟩⟩⟩
   rw[Q,ZYY]
def B0{s:Sem Next}{t t2 e:TypeId}{sz bytes aid:Nat}{i:TypeInfo}{zv:Value}{x y:AV}{v u:Value}{ty:TypeId}{fz:Bool}{res:Zt}(m:M T X h w)(hX:∀r,X r->r<w.heap.size)
 (ac:aid<=h.length) (hT:T aid=none)
 (ht:P.underlying t=some (.slice e)) (D:∃d,P.underlying t2=some d/\∀k,d≠.int k) (hi:P.info? e=some i) (E:i.size=sz) (Z:i.bytes=bytes) (aa:i.zero=some zv) (W:zv.cells.size=sz)
 (H:R T X w x v) (hy:R T X w y u)
 (hs:∀rv w',(Builtin.append_ #[t,t2] ty #[v,u]).run P w=.ok rv w'->s.run P w=.ok (.value rv) w')
 (c:Qt h aid fz sz bytes x y=some res):Sim P T X h w s res:=by
 unfold Qt at c;cases f:Q2 h x with
 |none=>rw[f]at c;simp at c
 |some es=>
  cases A:Q2 h y with
  |none=>rw[f,A]at c;simp at c
  |some ys=>
   rw[f,A]at c;dsimp only at c;have ae:=Wv c;clear c;have⟨⟨z1,z2,h0,K,n⟩,c⟩:=ae;obtain⟨ad,cap,rfl,Q,J⟩:=G6 m H f z1;obtain⟨bd,cap2,rfl,af,U⟩:=G6 m hy A z2;have L:ZR P e=some sz:=by simp[ZR,hi,E]
   cases q:ys.isEmpty with
   |true=>
    rw[q]at c;simp only[cond_true,Option.some.injEq]at c;subst c;have:ys=[]:=ZZa.1 q;subst this;exact Sim.pure m (hs _ _<|CX ht D L Q) H
   |false=>
    rw[q]at c;simp only[cond_false]at c;have V:0<ys.length:=by
     cases ys with
     |nil=>simp at q
     |cons _ _=>simp
    have j:∀(rs:List Nat){res:Zt},cap=es.length->Yp aid fz sz (es++ys) rs=some res->Sim P T X h w s res:=
     λrs res hc c=>CY (ty:=ty) m hX ac hT h0 ht D hi E Z aa W K J U n (by omega) hs c
    cases x<;>(first|(simp only[reduceCtorEq]at c;done)|dsimp only at c|skip)
    case nilsl=>
     simp only[Q2,Option.some.injEq]at f;subst f;have:Value.slice ad ([]:List AV).length cap=.slice none 0 0:=H;exact j _ (V2 this).2.2 c
    case isl bw ex z l=>
     cases ex with
     |false=>simp at c
     |true=>
      simp only[Q2,Option.some.injEq]at f;subst f;have⟨a2,S,ab,F,q1,q2,q3,_⟩:=H;have F:=V2 F;have:=q3 rfl;exact j _ (by omega) c
    case sl b g off S ex=>
     have a:=f;simp only[Q2]at a;cases G:h[b]? with
     |none=>rw[G]at a;cases a
     |some o=>
      rw[G]at a;cases o<;>(first|(simp only[reduceCtorEq]at a;done)|dsimp only at a|skip)
      case row z all=>
       cases hg:(all.length==g)with
       |false=>rw[hg]at a;cases a
       |true=>
        rw[hg]at a;simp only[cond_true,Option.some.injEq]at a;have Y:all.length=g:=by simpa using hg
        cases ex with
        |true=>
         refine j _ ?_ c;have⟨_,ah,g2,r2,C2,B2,N,q1,q2,q3⟩:=H;have⟨r,C,B,ag,_,_,_⟩:=XV m G;rw[ag]at N;cases N;have⟨ab,q4,q5,q6,q7⟩:=q3 Y.symm;have:=q6 rfl;rcases q7 with⟨r',_,F⟩|⟨q8,p,F,_⟩
         .have:=V2 F;omega
         .have:=V2 F;omega
        |false=>
         dsimp only at c;rw[G]at c;dsimp only at c;cases hk:(off==0&&S==g&&ys.all (fits sz))with
         |false=>rw[hk]at c;cases c
         |true=>
          rw[hk]at c;simp only[cond_true,Option.some.injEq]at c;simp only[ZXf,beq_iff_eq]at hk;have⟨⟨e1,e2⟩,hfit⟩:=hk;have O:es=all:=by rw[<-a,e1,ZXS,ZXz<|by omega]
          have hz:z=sz:=by simpa[Qq,G]using z1
          subst O hz e1;subst Y;subst e2;subst c;exact CZ (ty:=ty) m hX ht D hi E Z aa W G hfit V K n H J U hs
end Go.AM
namespace Go.AM
open Go
variable [Dr]
variable {P:Program} {E:Env} {T:Ty} {X:Xt} {w:World} {h:Hp} {fr:Fr} {a:Act}
def B1{k:Nat}{x y:AV}(a:eq1 k x y=some true):x=y:=by
 rcases k with _|_|_|k
 .cases x<;>cases y<;>simp[eq1]at a
  rw[a]
 .cases x<;>cases y<;>simp[eq1]at a
  rw[a.1,a.2]
 .cases x<;>cases y<;>simp[eq1]at a
  rw[Ky]at a;rw[a]
 simp_all[eq1]
def B2{k:Nat}{x:AV}{b:Bool}(a:eq1 k x x=some b):b=true:=by
 rcases k with _|_|_|k
 .cases x<;>simp[eq1]at a
  grind
 .cases x<;>simp[eq1]at a
  grind
 .cases x<;>simp[eq1]at a
  rw[<-a,(Ky _ _).2 rfl]
 simp_all[eq1]
theorem R9:∀{c:List Nat}{a b:List AV},ZE c a b=some true->a=b
 |[],[],[],_=>rfl
 |[],[],_::_,h=>by grind [ZE]
 |[],_::_,_,h=>by grind [ZE]
 |_::_,[],_,h=>by grind [ZE]
 |_::_,_::_,[],h=>by grind [ZE]
 |k::c,x::a,y::b,h=>by
  simp[ZE]at h;cases h1:eq1 k x y with
  |none=>grind
  |some d=>
   cases h2:ZE c a b with
   |none=>grind
   |some e=>
    simp[h1,h2,ZXf]at h;obtain⟨rfl,rfl⟩:=h;rw[B1 h1,R9 h2]
theorem Ra:∀{c:List Nat}{a:List AV}{b:Bool},ZE c a a=some b->b=true
 |[],[],_,h=>by grind [ZE]
 |[],_::_,_,h=>by grind [ZE]
 |_::_,[],_,h=>by grind [ZE]
 |k::c,x::a,b,h=>by
  simp[ZE]at h;cases h1:eq1 k x x with
  |none=>rw[h1]at h;cases h
  |some e=>
   cases h2:ZE c a a with
   |none=>simp[h1,h2]at h
   |some d=>
    simp[h1,h2]at h;rw[<-h,B2 h1,Ra h2];rfl
def Mt{ag:Bool}{b:List Nat}{x y:AV}(a:Zz ag b x y=some true):x=y:=by
 cases ag with
 |true=>
  cases x<;>cases y<;>simp[Zz]at a
  rw[R9 a]
 |false=>
  grind [Zz,R9]
def B3{ag:Bool}{c:List Nat}{x:AV}{b:Bool}(a:Zz ag c x x=some b):b=true:=by
 cases ag with
 |true=>
  cases x<;>simp[Zz]at a
  exact Ra a
 |false=>
  grind [Zz,Ra]
def Mu{ag:Bool}{kk:List Nat}{k:AV}:∀{c:List AV}{i:Nat}{r:Option Nat},ZW ag kk k c i=some r->∀x∈c,∃b,Zz ag kk k x=some b
 |[],_,_,_=>by simp
 |a::c,i,r,h=>by
  simp[ZW]at h;cases h1:Zz ag kk k a with
  |none=>grind
  |some b=>
   cases h2:ZW ag kk k c (i+1)with
   |none=>grind
   |some e=>
    intro x d;rcases ZXF.1 d with rfl|d
    .exact⟨b,h1⟩
    .exact Mu h2 x d
def Mw{ag:Bool}{kk:List Nat}{k:AV}:∀{c:List AV}{i:Nat},ZW ag kk k c i=some none->∀x∈c,Zz ag kk k x=some false
 |[],_,_=>by simp
 |a::c,i,h=>by
  simp[ZW]at h;cases h1:Zz ag kk k a with
  |none=>grind
  |some b=>
   rw[h1]at h;cases h2:ZW ag kk k c (i+1)with
   |none=>grind
   |some e=>
    rw[h2]at h;simp[Option.some.injEq]at h;cases b with
    |true=>grind
    |false=>
     subst h;intro x d;rcases ZXF.1 d with rfl|d
     .exact h1
     .exact Mw h2 x d
def Mx{ag:Bool}{kk:List Nat}{k:AV}:∀{c:List AV}{i j:Nat},ZW ag kk k c i=some (some j)->i<=j/\∃x,c[j-i]?=some x/\Zz ag kk k x=some true
 |[],_,_,h=>by grind [ZW]
 |a::c,i,j,h=>by
  simp[ZW]at h;cases h1:Zz ag kk k a with
  |none=>grind
  |some b=>
   rw[h1]at h;cases h2:ZW ag kk k c (i+1)with
   |none=>grind
   |some g=>
    rw[h2]at h;simp[Option.some.injEq]at h;cases b with
    |true=>
     grind
    |false=>
     subst h;have⟨e,x,f,d⟩:=Mx h2
     grind
def fm(p:MapEntry->Bool):List MapEntry->Nat->Option (Nat×Value)
 |[],_=>none
 |e::es,i=>if p e then some (i,e.val)else fm p es<|i+1
def Rb{p:MapEntry->Bool}:∀{es:List MapEntry}{i:Nat}{r:Nat×Value},fm p es i=some r->i<=r.1/\∃e,es[r.1-i]?=some e/\p e=true/\e.val=r.2
 |[],_,_,h=>by grind [fm]
 |e::es,i,r,h=>by
  simp[fm]at h;by_cases a:p e=true
  .grind
  .rw[if_neg a]at h;have⟨h1,b,h2,c⟩:=Rb h
   grind
def My{p:MapEntry->Bool}:∀{es:List MapEntry}{i:Nat},fm p es i=none->∀e∈es,p e=false
 |[],_,_=>by simp
 |e::es,i,h=>by
  simp[fm]at h;by_cases b:p e=true
  .grind
  .rw[if_neg b]at h;intro x a;rcases ZXF.1 a with rfl|a
   .simpa using b
   .exact My h x a
def B4{t:TypeId}{d:TypeDesc}{x y:Value}{b c:Bool}(g:P.underlying t=some d)(f:(Op.equal t x y).run P w=.ok b w)(e:Instr.sameNow d x y=some c):c=b:=by
 have a:Op.equal t x y=Op.equalIn (9999+1) t x y:=rfl;rw[a]at f;cases d<;>cases x<;>cases y<;>simp[Instr.sameNow]at e
 all_goals simp_all[run_equalIn_bool,run_equalIn_int,run_equalIn_string,beq_toListBytes]
def Mz{t:TypeId}{d:TypeDesc}{k:Value}{p:MapEntry->Bool}(a:P.underlying t=some d):∀{es:List MapEntry}{i:Nat}{r:Option (Nat×Value)},(∀e∈es,(Op.equal t k e.key).run P w=.ok (p e) w)->
 Instr.findNow d k es i=some r->r=fm p es i
 |[],_,r,_,h=>by simp[Instr.findNow]at h;rw[<-h];rfl
 |e::es,i,r,he,h=>by
  simp[Instr.findNow]at h;cases h1:Instr.sameNow d k e.key with
  |none=>grind
  |some c=>
   rw[h1]at h;have f:=B4 a (he e<|by simp) h1
   cases c with
   |true=>
    grind [fm]
   |false=>
    have:=Mz a (λx b=>he x<|by grind) h
    grind [fm]
def MA{t:TypeId}{k:Value}{p:MapEntry->Bool}:∀{es:List MapEntry}{i:Nat},(∀e∈es,(Op.equal t k e.key).run P w=.ok (p e) w)->
 (Instr.findAsking t k es i).run P w=.ok (fm p es i) w
 |[],_,_=>rfl
 |e::es,i,he=>by
  simp[Instr.findAsking,fm];by_cases a:p e=true
  all_goals simp_all[MA]
def run_findKey{t:TypeId}{d:TypeDesc}{k:Value}{p:MapEntry->Bool}(b:P.underlying t=some d){es:List MapEntry}(a:∀e∈es,(Op.equal t k e.key).run P w=.ok (p e) w):
 (Instr.findKey t k es).run P w=.ok (fm p es 0) w:=by
 simp[Instr.findKey,run_underlying b];cases c:Instr.findNow d k es 0 with
 |none=>exact MA a
 |some r=>rw[Mz b a c];rfl
def MB(d:Nat):∀(n:Nat)(t:TypeId)(h:List Nat),d<=n->tk P d t=some h->∀(c:Bool)(vs:List Value),vs.length=h.length->∀w:World,(Instr.checkKey c n t<|mkV P t vs).run P w=.ok () w:=by
 have H:(∀(n:Nat)(t:TypeId)(h:List Nat),d<=n->tk P d t=some h->∀(c:Bool)(vs:List Value),vs.length=h.length->∀w:World,(Instr.checkKey c n t<|mkV P t vs).run P w=.ok () w)/\
  (∀(n:Nat)(p:List Field)(off:Nat)(h:List Nat),d<=n+1->tkf P d p off=some h->∀(c:Bool)(xs:Array Value),off+h.length<=xs.size->∀w:World,
   (forIn p PUnit.unit (λf _=>do
    if f.name≠"_" then
     let a <-part f.type xs f.offset
     Instr.checkKey c n f.type a
     pure (ForInStep.yield PUnit.unit)
    else pure<|ForInStep.yield PUnit.unit):Sem PUnit).run P w=.ok PUnit.unit w):=by
  induction d with
  |zero=>grind [tk,tkf]
  |succ d x=>
   constructor
   .intro n t h K b c vs D w;obtain⟨n,rfl⟩:∃k,n=k+1:=⟨n-1,by omega⟩
    have G:=b;unfold tk at b;have⟨g,s⟩:=VG G;rw[s]at b;cases g with
    |struct p=>
     simp only[ZYO,ZZ6]at b;have⟨_,b⟩:=b;have A:ZF P t=true:=by grind [ZF]
     simp only[mkV,A,if_true,Instr.checkKey,Sem.run_bind,run_underlying s,Result.andThen_ok];rw[<-Array.forIn_toList];have:=x.2 n p.toList 0 h (by omega) b c vs.toArray (by grind) w
     simp_all
    |array m e=>
     simp only at b;cases o:tk P d e with
     |none=>grind
     |some l=>
      rw[o]at b;simp only[ZZ5,Option.some.injEq]at b;obtain⟨r,rfl⟩:=b;have A:ZF P t=true:=by grind [ZF]
      have⟨g,j⟩:=VG o;have h1:=λC=>UX o C
      simp only[mkV,A,if_true,Instr.checkKey,Sem.run_bind,run_underlying s,Result.andThen_ok];simp only[Std.Legacy.Range.forIn_eq_forIn_range',Std.Legacy.Range.size,Nat.sub_zero,Nat.add_one_sub_one,Nat.div_one];have u:vs.length=m*l.length:=by simp_all
      have E:∀(v:List Nat),(∀i∈v,i<m)->(forIn v PUnit.unit (λi _=>do
       let a <-sizeOf e
       let a <-part e vs.toArray (i*a)
       Instr.checkKey c n e a
       pure (ForInStep.yield PUnit.unit)):Sem PUnit).run P w=.ok PUnit.unit w:=by
       intro v;induction v with
       |nil=>simp_all
       |cons i v J=>
        intro M;have B:=M i<|by simp
        have z:i*l.length+l.length<=vs.toArray.size:=by
         simp only[ZZC,u,<-ZYz];exact ZYk _ B
        have F:=JT w j r vs.toArray h1 z;have L:=x.1 n e l (by omega) o c ((vs.toArray.toList.drop<|i*l.length).take l.length) (by grind) w
        simp_all[QY]
      simp_all
    |bool=>simp[Instr.checkKey,run_underlying s]
    |int q=>simp[Instr.checkKey,run_underlying s]
    |string=>simp[Instr.checkKey,run_underlying s]
    |_=>grind
   .intro n p off h K b c xs D w;cases p with
    |nil=>rfl
    |cons f p=>
     unfold tkf at b;simp only[ZYO,not_or,Decidable.not_not]at b;have⟨⟨O,N⟩,b⟩:=b;cases o:tk P d f.type with
     |none=>grind
     |some l=>
      rw[o]at b;simp only[ZZ5,ZXt]at b;obtain⟨r,y,h',rfl⟩:=b;have⟨g,j⟩:=VG o;have h1:=λC=>UX o C
      simp only[ZXy]at D;have F:=JT w j r xs h1 (off:=off)<|by omega
      have L:=x.1 n f.type l (by omega) o c ((xs.toList.drop off).take l.length) (by grind) w
      have Q:=x.2 n p (off+l.length) y (by omega) h' c xs (by omega) w
      simp_all
 grind
end Go.AM
namespace Go.AM
open Go
variable [Dr]
variable {P:Program} {E:Env} {T:Ty} {X:Xt} {w:World} {h:Hp} {fr:Fr} {a:Act}
def MC{kt:TypeId}{kk:List Nat}{k:AV}{f:Value}{b:Bool}(h:tk P 20 kt=some kk)(a:Zz (ZF P kt) kk k k=some b)(g:R T X w k f)(e:Bool)(w':World):(Instr.checkKey e 10000 kt f).run P w'=.ok () w':=by
 cases d:ZF P kt with
 |true=>
  rw[d]at a;cases k<;>simp[Zz]at a
  obtain⟨vs,rfl,g⟩:=g;have i:=Qr g;have c:=(X5 a).1;have:=MB (P:=P) 20 10000 kt kk (by decide) h e vs.toList (by omega) w'
  simpa[mkV,d]using this
 |false=>
  rw[d]at a;simp only[Zz]at a;have c:=(X5 a).1;have:=MB (P:=P) 20 10000 kt kk (by decide) h e [f] (by simpa using c) w'
  simpa[mkV,d]using this
def MD{kt:TypeId}{kk:List Nat}{k:AV}{s:Value}{o:List AV}{es:Array MapEntry}{l:List MapEntry}{r:Option Nat}(U:tk P 20 kt=some kk)(K:ZW (ZF P kt) kk k o 0=some r)(Z:R T X w k s)
 (G:o.Nodup) (Y:List.Perm l es.toList) (m:Rs T X w o (l.map (·.key))):
 match r with
 |none=>(Instr.findKey kt s es.toList).run P w=.ok none w/\k ∉ o\/(Instr.findKey kt s es.toList).run P w=.ok none w/\∀b,Zz (ZF P kt) kk k k≠some b
 |some i=>∃(j:Nat)(e:MapEntry),(Instr.findKey kt s es.toList).run P w=.ok (some (j,e.val)) w/\es[j]?=some e/\l[i]?=some e/\o[i]?=some k:=by
 have⟨d,hu⟩:=VG U;have B:=Mu K;have g:∀e∈es.toList,∃(j:Nat)(x:AV)(b:Bool),l[j]?=some e/\o[j]?=some x/\Zz (ZF P kt) kk k x=some b/\(Op.equal kt s e.key).run P w=.ok b w:=by
  intro e t;have J:=Y.mem_iff.2 t;have⟨j,V⟩:=ZYv.1 J;have f:=Qr m;have z:j<o.length:=by rw[f];simpa using(ZXu.1 V).1
  have⟨v,u,W⟩:=Wp j m<|ZXj z;rw[ZY8,V]at u;simp at u;have⟨b,F⟩:=B _<|ZYA z;exact⟨j,o[j],b,V,ZXj z,F,HV U F Z<|by rw[u];exact W⟩
 obtain⟨p,n⟩:∃p:MapEntry->Bool,∀e,p e=(match(Op.equal kt s e.key).run P w with| .ok b _=>b|_=>false):=⟨_,λ_=>rfl⟩
 have L:∀e∈es.toList,(Op.equal kt s e.key).run P w=.ok (p e) w:=by
  intro e t;have⟨j,x,b,_,_,_,h4⟩:=g e t;rw[n,h4]
 have a:=run_findKey (P:=P) hu L;cases r with
 |none=>
  have C:=Mw K;have c:fm p es.toList 0=none:=by
   cases c:fm p es.toList 0 with
   |none=>rfl
   |some q=>
    have⟨_,e,h1,h2,h3⟩:=Rb c;have t:e∈es.toList:=ZXp h1;have⟨j,x,b,E,D,S,q4⟩:=g e t;rw[n,q4]at h2;have:=C x<|ZXp D;rw[S]at this;simp at this h2;rw[this]at h2;cases h2
  rw[c]at a;by_cases hd:∃b,Zz (ZF P kt) kk k k=some b
  .left;refine⟨a,λh=>?_⟩
   have:=C k h;have h2:=B3 this;cases h2
  .right;exact⟨a,λb F=>hd ⟨b,F⟩⟩
 |some i=>
  have⟨_,x,h1,h2⟩:=Mx K;have O:=Mt h2;subst O;rw[Nat.sub_zero]at h1;have f:=Qr m;have A:i<l.length:=by
   have:=(ZXu.1 h1).1;rw[f]at this;simpa using this
  have Q:l[i]?=some l[i]:=ZXj A;have h:l[i]∈es.toList:=Y.mem_iff.1<|ZYA A;have N:p l[i]=true:=by
   have⟨v,u,W⟩:=Wp i m h1;rw[ZY8,Q]at u;simp at u;rw[n,HV U h2 Z<|by rw[u];exact W]
  cases c:fm p es.toList 0 with
  |none=>have:=My c _ h;rw[N]at this;cases this
  |some q=>
   rw[c]at a;have⟨_,e,E,D,S⟩:=Rb c;rw[Nat.sub_zero]at E;have t:e∈es.toList:=ZXp E;have⟨j,y,b,r1,r2,r3,r4⟩:=g e t;rw[n,r4]at D;simp only at D;subst D;have M:=Mt r3;subst M;have H:i=j:=by
    exact(List.getElem?_inj (ZXu.1 h1).1 G).1 (h1.trans r2.symm)
   subst H;refine⟨q.1,e,?_,by rw[<-ZZi];exact E,r1,h1⟩
   rw[a,S]
def Rd{kt H:TypeId}{kk:List Nat}{k z:AV}{h f:Value}{o vs:List AV}{es:Array MapEntry}{l:List MapEntry}{n:Bool}{rs:List Nat}{res:Zt}(E:tk P 20 kt=some kk)(K:YH P H=some f)(A:Q3 f z=true)
 (c:QW (ZF P kt) kk n z rs o vs k=some res) (D:R T X w k h) (q:o.Nodup) (G:List.Perm l es.toList) (y:Rs T X w o (l.map (·.key))) (s:Rs T X w vs (l.map (·.val))) (C:Bool):
 ∃rv v,res=(v,rs,none)/\R T X w v rv/\(Instr.checkKey C 10000 kt h).run P w=.ok () w/\
  (((Instr.findKey kt h es.toList).run P w=.ok none w/\rv=if n=true then Value.tuple #[f,.bool false]else f)\/
   (∃j u,(Instr.findKey kt h es.toList).run P w=.ok (some (j,u)) w/\rv=if n=true then Value.tuple #[u,.bool true]else u)):=by
 unfold QW at c;cases p:Zz (ZF P kt) kk k k with
 |none=>rw[p]at c;simp at c
 |some b=>
  cases t:ZW (ZF P kt) kk k o 0 with
  |none=>rw[p,t]at c;simp at c
  |some r=>
   rw[p,t]at c;have m:=MD (P:=P) E t D q G y;have d:=MC (P:=P) E p D C w;have g:R T X w z f:=Ws _ _ A;cases r with
   |none=>
    simp only[Option.some.injEq]at c;have a:(Instr.findKey kt h es.toList).run P w=.ok none w:=by
     rcases m with h1|h1<;>exact h1.1
    subst c;cases n with
    |true=>
     refine⟨_,_,rfl,⟨#[f,.bool false],rfl,⟨f,[.bool false],rfl,g,⟨_,[],rfl,rfl,rfl⟩⟩⟩,d,.inl ⟨a,rfl⟩⟩
    |false=>
     exact⟨_,_,rfl,g,d,.inl ⟨a,rfl⟩⟩
   |some i=>
    simp only[ZXt]at c;obtain⟨v,J,rfl⟩:=c;have⟨j,e,a,_,x,_⟩:=m;have⟨u,B,F⟩:=Wp i s J;rw[ZY8,x]at B;simp at B;subst B;cases n with
    |true=>
     refine⟨_,_,rfl,⟨#[e.val,.bool true],rfl,⟨e.val,[.bool true],rfl,F,⟨_,[],rfl,rfl,rfl⟩⟩⟩,d,.inr ⟨_,_,a,rfl⟩⟩
    |false=>
     exact⟨_,_,rfl,F,d,.inr ⟨_,_,a,rfl⟩⟩
def B5{s:Sem Next}{O kt N:TypeId}{kk:List Nat}{x k z:AV}{v L K:Value}{A:Bool}{res:Zt}(m:M T X h w)(p:P.underlying O=some (.map kt N))(G:tk P 20 kt=some kk)(n:YH P N=some K)(g:Q3 K z=true)
 (H:R T X w x v) (F:R T X w k L) (C:∀rv,(Instr.lookup O v L A).run P w=.ok rv w->s.run P w=.ok (.value rv) w)
 (d:(match(generalizing:=false) x with
 | .nilmap=>QW (ZF P kt) kk A z [] [] [] k
 | .imap _ ks vs=>QW (ZF P kt) kk A z [] ks vs k
 | .mp b=>
  match h[b]? with
  |some (.map ks vs)=>QW (ZF P kt) kk A z [b] ks vs k
  |_=>none
 |_=>none)=some res):Sim P T X h w s res:=by
 cases x<;>(first|(simp only[reduceCtorEq]at d;done)|dsimp only at d|skip)
 case nilmap=>
  have S:v=.map none:=H;subst S;obtain⟨rv,u,rfl,y,c,a⟩:=Rd (P:=P) (es:=#[]) (l:=[]) G n g d F ZZb .nil rfl rfl true;refine Sim.pure m (C rv ?_) y;rcases a with⟨h1,rfl⟩|⟨j,u,h1,rfl⟩
  .simp only[Instr.lookup,Sem.run_bind,run_underlying p,Result.andThen_ok,Sem.run_pure,Array.isEmpty_empty,c,h1,Xu w n]
  .simp only[Instr.lookup,Sem.run_bind,run_underlying p,Result.andThen_ok,Sem.run_pure,Array.isEmpty_empty,c,h1]
 case imap bw ks vs=>
  obtain⟨r,es,i,l,rfl,h1,h2,V,t,f,B,D,E⟩:=H;obtain⟨rv,u,rfl,y,c,a⟩:=Rd (P:=P) G n g d F f B D E es.isEmpty;refine Sim.pure m (C rv ?_) y;rcases a with⟨e,rfl⟩|⟨j,u,e,rfl⟩
  .simp only[Instr.lookup,Sem.run_bind,run_underlying p,Result.andThen_ok,Sem.run_pure,getObj,Sem.run,t.1,c,e,Xu w n]
  .simp only[Instr.lookup,Sem.run_bind,run_underlying p,Result.andThen_ok,Sem.run_pure,getObj,Sem.run,t.1,c,e]
 case mp b=>
  cases J:h[b]? with
  |none=>rw[J]at d;cases d
  |some o=>
   rw[J]at d;cases o<;>(first|(simp only[reduceCtorEq]at d;done)|dsimp only at d|skip)
   case map ks vs=>
    have⟨r,es,i,l,Q,t,f,B,D,E⟩:=JS m J;obtain⟨U,q,rfl⟩:=H;rw[Q]at q;cases q;obtain⟨rv,u,rfl,y,c,a⟩:=Rd (P:=P) G n g d F f B D E es.isEmpty;refine Sim.pure m (C rv ?_) y;rcases a with⟨e,rfl⟩|⟨j,u,e,rfl⟩
    .simp only[Instr.lookup,Sem.run_bind,run_underlying p,Result.andThen_ok,Sem.run_pure,getObj,Sem.run,t.1,c,e,Xu w n]
    .simp only[Instr.lookup,Sem.run_bind,run_underlying p,Result.andThen_ok,Sem.run_pure,getObj,Sem.run,t.1,c,e]
def B6{k:Nat}{x:AV}{b:Bool}{v u:Value}(a:eq1 k x x=some b)(c:R T X w x v)(d:R T X w x u):v=u/\∀n,Instr.sameBits n v v=true:=by
 rcases k with _|_|_|k
 .cases x<;>simp[eq1]at a
  rw[Wu c,Wu d];exact⟨rfl,λn=>by cases n<;>simp[Instr.sameBits]⟩
 .cases x<;>simp[eq1]at a
  rw[QS c,QS d];exact⟨rfl,λn=>by cases n<;>simp[Instr.sameBits]⟩
 .cases x<;>simp[eq1]at a
  rw[Yj c,Yj d];refine⟨rfl,λn=>?_⟩
  have:∀s:ByteArray,(s==s)=true:=λs=>by rw[beq_toListBytes];simp
  cases n<;>simp[Instr.sameBits,this]
 .simp[eq1]at a
def Rf:∀{c:List Nat}{a:List AV}{b:Bool}{vs us:List Value},ZE c a a=some b->Rs T X w a vs->Rs T X w a us->vs=us/\∀n,((vs.zip vs).all λ(x,y)=>Instr.sameBits n x y)=true
 |[],[],_,vs,us,_,hv,hu=>by rw[show vs=[]from hv,show us=[]from hu];simp
 |[],_::_,_,_,_,h,_,_=>by simp[ZE]at h
 |_::_,[],_,_,_,h,_,_=>by simp[ZE]at h
 |k::c,x::a,b,vs,us,h,hv,hu=>by
  simp only[ZE]at h;cases h1:eq1 k x x with
  |none=>rw[h1]at h;cases h
  |some o=>
   cases h2:ZE c a a with
   |none=>simp[h1,h2]at h
   |some p=>
    obtain⟨v,r,rfl,e,j⟩:=hv;obtain⟨u,q,rfl,l,g⟩:=hu;have⟨f,d⟩:=B6 h1 e l;have⟨m,i⟩:=Rf h2 j g;subst f m;exact⟨rfl,λn=>by simp only[List.zip_cons_cons,ZYi,d n,i n,ZY3]⟩
def B7{ag:Bool}{kk:List Nat}{k:AV}{b:Bool}{v u:Value}(c:Zz ag kk k k=some b)(f:R T X w k v)(g:R T X w k u)(w':World):(Instr.keyThatStays v u).run P w'=.ok u w'/\v=u:=by
 have d:v=u/\Instr.sameBits 10000 u u=true:=by
  cases ag with
  |true=>
   cases k<;>simp[Zz]at c
   obtain⟨vs,rfl,h1⟩:=f;obtain⟨us,rfl,h2⟩:=g;have⟨a,e⟩:=Rf c h1 h2;have:vs=us:=by apply ZYB;exact a
   subst this;refine⟨rfl,?_⟩;have:=e 9999;show Instr.sameBits (9999+1) (.agg vs) (.agg vs)=true
   simp only[Instr.sameBits,beq_self_eq_true,ZXk];exact this
  |false=>
   simp only[Zz]at c;have⟨a,e⟩:=Rf (vs:=[v]) (us:=[u]) c ⟨v,[],rfl,f,rfl⟩ ⟨u,[],rfl,g,rfl⟩;simp at a;subst a;refine⟨rfl,?_⟩;have:=e 10000;simpa using this
 obtain⟨rfl,h2⟩:=d;refine⟨?_,rfl⟩;simp only[Instr.keyThatStays,h2,if_true,Sem.run_pure]
def B8{l:List MapEntry}{es:Array MapEntry}{i j:Nat}{e:MapEntry}{f:MapEntry->MapEntry}(p:List.Perm l es.toList)(n:es[j]?=some e)(m:l[i]?=some e):List.Perm (l.set i<|f e) (es.modify j f).toList:=by
 have k:j<es.toList.length:=by
  have:=(ZYd.1 n).1;simpa using this
 have g:i<l.length:=(ZXu.1 m).1;have o:l=l.take i++e::l.drop (i+1):=by
  have h:l[i]=e:=(ZXu.1 m).2;rw[<-h,ZZy,ZYe]
 have b:es.toList[j]?=some e:=by rw[ZZi];exact n
 have d:es.toList=es.toList.take j++e::es.toList.drop (j+1):=by
  have h:es.toList[j]=e:=(ZXu.1 b).2;rw[<-h,ZZy,ZYe]
 have c:(es.modify j f).toList=es.toList.take j++f e::es.toList.drop (j+1):=by
  rw[Array.toList_modify];rw[List.modify_eq_take_cons_drop k];congr 3;exact(ZXu.1 b).2
 have a:l.set i (f e)=l.take i++f e::l.drop (i+1):=by
  rw[ZZ7,if_pos g]
 rw[c,a];have h1:List.Perm (e::(l.take i++l.drop (i+1))) (e::(es.toList.take j++es.toList.drop (j+1))):=by
  refine(ZZk.symm).trans ?_;rw[<-o];refine p.trans ?_
  conv=>lhs;rw[d]
  exact ZZk
 have h2:=h1.cons_inv;exact ZZk.trans<|(List.Perm.cons _ h2).trans ZZk.symm
def G8(w:World)(r:Nat)(o:Obj)(c:r<w.heap.size)(x:Nat):({w with heap:=w.heap.setIfInBounds r o}:World).heap[x]?=if x=r then some o else w.heap[x]?:=by
 show(w.heap.setIfInBounds r o)[x]?=_
 rw[Array.getElem?_setIfInBounds];by_cases a:r=x
 .subst a;simp[c]
 .have b:¬x=r:=λe=>a e.symm
  rw[if_neg a,if_neg b]
def ME{s:Sem Next}{mt kt vt:TypeId}{kk:List Nat}{x k y:AV}{v rk ry:Value}{res:Zt}(m:M T X h w)(ht:P.underlying mt=some (.map kt vt))(hk:tk P 20 kt=some kk)
 (hx:R T X w x v) (hr:R T X w k rk) (hy:R T X w y ry) (hs:∀w',(Instr.mapUpdate mt v rk ry).run P w=.ok () w'->s.run P w=.ok .skip w')
 (he:(match(generalizing:=false) x with
 | .mp b=>
  match h[b]? with
  |some (.map ks vs)=>Yo (ZF P kt) kk b ks vs k y
  |_=>none
 |_=>none)=some res):Sim P T X h w s res:=by
 cases x<;>(first|(simp only[reduceCtorEq]at he;done)|dsimp only at he|skip)
 case mp b=>
  cases hb:h[b]? with
  |none=>rw[hb]at he;cases he
  |some o=>
   rw[hb]at he;cases o<;>(first|(simp only[reduceCtorEq]at he;done)|dsimp only at he|skip)
   case map ks vs=>
    have⟨r,es,clock,l,hT,h4,hnd,h5,h6,h7⟩:=JS m hb;obtain⟨r2,hT2,rfl⟩:=hx;rw[hT]at hT2;cases hT2;have hrl:r<w.heap.size:=m.lt r ⟨b,_,hT,rfl⟩;unfold Yo at he;cases hd:Zz (ZF P kt) kk k k with
    |none=>rw[hd]at he;simp at he
    |some bb=>
     cases hf:ZW (ZF P kt) kk k ks 0 with
     |none=>rw[hd,hf]at he;simp at he
     |some q=>
      rw[hd,hf]at he;have hkf:=MD (P:=P) hk hf hr hnd h5 h6;have hck:=MC (P:=P) hk hd hr false w;have fin:∀(o':Obj)(ks' vs':List AV)(es':Array MapEntry)(clock':Nat)(l':List MapEntry),o'=.map es' clock'->ZoV es' clock'->ks'.Nodup->List.Perm l' es'.toList->Rs T X w ks' (l'.map (·.key))->Rs T X w vs' (l'.map (·.val))->
       (Instr.mapUpdate mt (.map<|some r) rk ry).run P w=.ok () {w with heap:=w.heap.setIfInBounds r o'}->res=(.bot,[b],some (b,.map ks' vs'))->Sim P T X h w s res:=by
       intro o' ks' vs' es' clock' l' ho' hbo' hnd' hp' hks' hvs' hrun hres;subst hres;have⟨st,hm⟩:=JV (w':={w with heap:=w.heap.setIfInBounds r o'}) (o:=.map ks' vs') (c':=.map r) m hT rfl rfl (.refl _) (KD hb) rfl rfl rfl (by simp)
        (λx hx=>by rw[G8 w r o' hrl,if_neg hx])
        (λst=>by
         rw[KC hT]at st⊢;exact⟨es',clock',l',⟨by rw[G8 w r o' hrl,if_pos rfl,ho'],hbo'⟩,hnd',hp',Yb st _ _ hks',Yb st _ _ hvs'⟩)
       rw[KC hT]at st hm;exact⟨T,_,undef,.inr ⟨hs _ hrun,rfl⟩,st,hm,trivial⟩
      cases q with
      |none=>
       simp only[Option.some.injEq]at he;have hrun:(Instr.findKey kt rk es.toList).run P w=.ok none w/\k ∉ ks:=by
        rcases hkf with h1|h1
        .exact h1
        .exact(h1.2 _ hd).elim
       refine fin (.map (es.push {key:=rk,val:=ry,born:=clock})<|clock+1) (ks++[k]) (vs++[y]) _ _ (l++[{key:=rk,val:=ry,born:=clock}]) rfl (Zq3 h4.2 _ _) ?_ ?_ ?_ ?_ ?_ he.symm
       .rw[ZYJ];exact⟨hnd,by simp,by intro a ha c hc;simp at hc;subst hc;exact λe=>hrun.2<|e▸ha⟩
       .simpa using h5.append_right _
       .simpa using QR h6 (show Rs T X w [k] [rk]from⟨rk,[],rfl,hr,rfl⟩)
       .simpa using QR h7 (show Rs T X w [y] [ry]from⟨ry,[],rfl,hy,rfl⟩)
       .simp only[Instr.mapUpdate,Sem.run_bind,run_underlying ht,Result.andThen_ok,getObj,Sem.run,h4.1,hck,hrun.1,setObj]
      |some i=>
       simp only[Option.some.injEq]at he;have⟨j,e,hrun,hej,hli,hki⟩:=hkf;have⟨u,hu,hR⟩:=Wp i h6 hki;rw[ZY8,hli]at hu;simp at hu;subst hu;have⟨hst,hkey⟩:=B7 (P:=P) hd hR hr w;refine fin (.map (es.modify j λe=>{e with key:=rk,val:=ry}) clock) ks (vs.set i y) _ _ (l.set i {e with key:=rk,val:=ry}) rfl (Zq4 h4.2 _ _<|λ_=>rfl) hnd ?_ ?_ ?_ ?_ he.symm
       .exact B8 (f:=λe=>{e with key:=rk,val:=ry}) h5 hej hli
       .rw[ZXJ];have:(l.map (·.key)).set i rk=l.map (·.key):=by
         have hg:(l.map (·.key))[i]?=some rk:=by rw[ZY8,hli];simp[hkey]
         apply ZYy;intro x;rw[List.getElem?_set];split
         .next hx=>
          subst hx;split
          .exact hg.symm
          .next hx=>rw[ZYP<|by omega]
         .rfl
        simp only[this];exact h6
       .rw[ZXJ];exact Cg i h7 hy
       .simp only[Instr.mapUpdate,Sem.run_bind,run_underlying ht,Result.andThen_ok,getObj,Sem.run,h4.1,hck,hrun,hej,ZXR,Option.getD_some,hst,setObj]
def B9{s:Sem Next}{t:TypeId}{aid:Nat}{rs:List Nat}(m:M T X h w)(d:∀r,X r->r<w.heap.size)(a:aid<=h.length)(b:T aid=none)
 (c:∀rv w',(Instr.makeMap t none).run P w=.ok rv w'->s.run P w=.ok (.value rv) w'):Sim P T X h w s (.mp aid,rs,some (aid,.map [] [])):=by
 refine⟨upd T aid<|.map w.heap.size,_,_,.inl<|c (.map<|some w.heap.size) (w.alloc<|.map #[] 0)<|by simp[Instr.makeMap],VD T w _ aid _ b (by simp[TC.real]),?_,⟨_,upd_same _ _ _,rfl⟩⟩
 exact JQ m d aid _ _ _ a b (by simp[TC.real]) ⟨#[],0,[],⟨Wo w _,Zq2 0⟩,ZZb,.nil,rfl,rfl⟩
def Ba{s:Sem Next}{t:TypeId}{x:AV}{v:Value}{aid:Nat}{res:Zt}(m:M T X h w)(e:∀r,X r->r<w.heap.size)(b:aid<=h.length)(c:T aid=none)(f:P.underlying t=some .string)(g:R T X w x v)
 (d:∀rv w',(Instr.range t v).run P w=.ok rv w'->s.run P w=.ok (.value rv) w')
 (a:(match(generalizing:=false) x with
 | .str s=>some (AV.it aid,[],some (aid,AObj.iter s 0))
 |_=>none)=some res):Sim P T X h w s res:=by
 cases x<;>(first|(simp only[reduceCtorEq]at a;done)|dsimp only at a|skip)
 case str st=>
  simp only[Option.some.injEq]at a;subst a;cases Yj g;refine⟨upd T aid<|.iter w.heap.size,_,_,.inl<|d (.pointer<|some ⟨w.heap.size,0,none⟩) (w.alloc<|.stringIter st 0)<|by simp[Instr.range,run_underlying f],VD T w _ aid _ c (by simp[TC.real]),?_,⟨_,upd_same _ _ _,rfl⟩⟩
  exact JQ m e aid _ _ _ b c (by simp[TC.real])<|Wo w _
def Bb{s:Sem Next}{t:TypeId}{x:AV}{v:Value}{res:Zt}(m:M T X h w)(l:R T X w x v)
 (q:∀rv w',(Instr.next v true t).run P w=.ok rv w'->s.run P w=.ok (.value rv) w')
 (c:(match(generalizing:=false) x with
 | .it b=>
  match h[b]? with
  |some (.iter s pos)=>
   bif Nat.blt pos s.size then
    some (AV.tup [.bool true,.int .i64 pos,.int .i32 (Utf8.decode s pos).1],[b],some (b,AObj.iter s<|pos+(Utf8.decode s pos).2))
   else some (AV.tup [.bool false],[b],none)
  |_=>none
 |_=>none)=some res):Sim P T X h w s res:=by
 cases x<;>(first|(simp only[reduceCtorEq]at c;done)|dsimp only at c|skip)
 case it b=>
  cases i:h[b]? with
  |none=>rw[i]at c;cases c
  |some o=>
   rw[i]at c;cases o<;>(first|(simp only[reduceCtorEq]at c;done)|dsimp only at c|skip)
   case iter st pos=>
    have⟨r,j,k⟩:=Ce m i;obtain⟨y,f,rfl⟩:=l;rw[j]at f;cases f;have e:r<w.heap.size:=m.lt r ⟨b,_,j,rfl⟩;cases d:Nat.blt pos st.size with
    |false=>
     rw[d]at c;simp only[cond_false,Option.some.injEq]at c;subst c;have n:¬pos<st.size:=by
      intro u;rw[show Nat.blt pos st.size=true from by simpa using u]at d
      cases d
     refine Sim.pure m (q (.tuple #[.bool false]) w ?_) ⟨_,rfl,⟨_,[],rfl,rfl,rfl⟩⟩;simp only[Instr.next,Sem.run_bind,getObj,Sem.run,k,Result.andThen_ok]
     rw[if_neg n];rfl
    |true=>
     rw[d]at c;simp only[cond_true,Option.some.injEq]at c;subst c;have n:pos<st.size:=by simpa using d
     obtain⟨w',a⟩:∃w':World,w'={w with heap:=w.heap.setIfInBounds r (.stringIter st<|pos+(Utf8.decode st pos).2)}:=⟨_,rfl⟩
     have⟨g,p⟩:=JV (w':=w') (o:=.iter st<|pos+(Utf8.decode st pos).2) (c':=.iter r) m j rfl rfl (.refl _) (KD i) (by rw[a]) (by rw[a]) (by rw[a]) (by rw[a];simp)
      (λx l=>by rw[a,G8 w r _ e,if_neg l])
      (λ_=>by
       show w'.heap[r]?=_
       rw[a,G8 w r _ e,if_pos rfl]) (hdr:=λ_=>by rw[a];exact ZXh _)
     rw[KC j]at g p;refine⟨T,w',_,.inl<|q (.tuple #[.bool true,.int .i64 pos,.int .i32 (Utf8.decode st pos).1]) w' ?_,g,p,⟨_,rfl,⟨_,_,rfl,rfl,⟨_,_,rfl,rfl,⟨_,_,rfl,rfl,rfl⟩⟩⟩⟩⟩;simp only[Instr.next,Sem.run_bind,getObj,Sem.run,k,Result.andThen_ok]
     rw[if_pos n];simp only[Sem.run_bind,setObj,Sem.run,k,Result.andThen_ok];rw[a];rfl
end Go.AM
namespace Go.AM
open Go
variable [Dr]
variable {P:Program} {E:Env} {T:Ty} {X:Xt} {w:World} {h:Hp} {fr:Fr} {a:Act}
def G9:Operand->Bool
 | .const (.slice none 0 0)=>true
 |_=>false
def isSlice(P:Program)(t:TypeId):Option TypeId:=
 match P.underlying t with
 |some (.slice e)=>some e
 |_=>none
def ZFF(P:Program)(t:TypeId):Bool:=
 match P.underlying t with
 |some (.pointer _)=>true
 |_=>false
def V3(P:Program)(t:TypeId):Bool:=
 match P.underlying t with
 |some .string=>true
 |_=>false
def isMap(P:Program)(t:TypeId):Option (TypeId×TypeId):=
 match P.underlying t with
 |some (.map k e)=>some (k,e)
 |_=>none
def V4(P:Program)(t:TypeId):Option (Nat×TypeId):=
 match P.underlying t with
 |some (.array n e)=>some (n,e)
 |_=>none
def V5(P:Program)(t:TypeId):Option (Array Field):=
 match P.underlying t with
 |some (.struct fs)=>some fs
 |_=>none
def MF(P:Program)(t:TypeId):Bool:=
 match P.underlying t with
 |some (.int _)=>true
 |_=>false
def KI(P:Program)(t:TypeId)(z:AV):Bool:=
 match YH P t with
 |some v=>Q3 v z
 |none=>false
def VI:Option Operand->Option Arg->Bool
 |none,none=>true
 |some x,some y=>Zr x y
 |_,_=>false
def Gb(P:Program):Op->AOp->Bool
 | .panic _,.bad=>true
 | .move x,.rel y=>Zr x y
 | .assign x,.rel y=>Zr x y
 | .move x,.mv y=>Zr x y
 | .assign x,.mv y=>Zr x y
 | .move x,.own sz=>G9 x&&decide (0<sz)
 | .assign x,.own sz=>G9 x&&decide (0<sz)
 | .pick c x y,.pick c' x' y'=>Zr c c'&&Zr x x'&&Zr y y'
 | .alloc t,.box sz (.c z)=>KI P t z&&decide (0<sz)
 | .box _ x,.box sz y=>Zr x y&&decide (0<sz)
 | .alloc t,.ibox sz (.c z)=>KI P t z&&decide (0<sz)
 | .box _ x,.ibox sz y=>Zr x y&&decide (0<sz)
 | .build t ps,.build z qs=>
  (match YH P t with|some v=>Wr v.cells.toList z|none=>false)&&
  (match V5 P t with
   |some a=>(KH P a.toList).isSome&&Xx (KG P a) ps.toList qs
   |none=>
    match V4 P t with
    |some (_,e)=>(match ZR P e with|some sz=>Xx (λi=>some (i*sz,sz)) ps.toList qs|none=>false)
    |none=>false)
 | .buildSlice t len ps,.bsl _ _ sz z len' qs=>
  match isSlice P t with
  |some e=>decide (len=len')&&decide (0<sz)&&decide (len*sz<=16777216)&&decide (ZR P e=some sz)&&KI P e z&&Xx (λi=>some (i*sz,sz)) ps.toList (qs.map λq=>(q.1*sz,sz,q.2))
  |none=>false
 | .load t x,.load n y=>Xv P t n&&Zr x y
 | .load t x,.ldr n _ y=>Xv P t (some n)&&Zr x y
 | .store t x y,.store n x' y'=>decide (ZR P t=some n)&&Zr x x'&&Zr y y'
 | .nilCheck x,.nilck y=>Zr x y
 | .binOp op t x (.const<|.pointer none) _,.isn neg y=>decide (op=if neg then .neq else .eql)&&ZFF P t&&Zr x y
 | .binOp op _ x y _,.bin op' x' y'=>decide (op=op')&&Zr x x'&&Zr y y'
 | .binOp op t x y _,.eqv neg ag ks x' y'=>decide (op=if neg then .neq else .eql)&&decide (tk P 20 t=some ks)&&decide (ZF P t=ag)&&!P.eqGuardType P.depth t&&Zr x x'&&Zr y y'
 | .unOp op _ x,.un op' y=>decide (op=op')&&Zr x y
 | .convert s d x,.conv k y=>
  Zr x y&&(match P.underlying s,P.underlying d,k with
   |some _,some<|.int k',some k=>decide (k=k')
   |some _,some .string,none=>true
   |_,_,_=>false)
 | .field t x i,.fld n off y=>
  match V5 P t with
  |some a=>(match a[i]? with|some f=>decide (f.offset=off)&&Xv P f.type n&&Zr x y|none=>false)
  |none=>false
 | .fieldAddr t x i,.fadr off y=>
  match V5 P t with
  |some a=>(match a[i]? with|some f=>decide (f.offset=off)&&(match ZR P f.type with|some n=>decide (n≠0)|none=>false)&&Zr x y|none=>false)
  |none=>false
 | .indexAddr t x i,.iadr sz y j=>
  match isSlice P t with
  |some e=>decide (ZR P e=some sz)&&Zr x y&&Zr i j
  |none=>false
 | .indexAddr t x i,.aadr sz len y j=>
  match V4 P t with
  |some (n,e)=>decide (n=len)&&decide (ZR P e=some sz)&&Zr x y&&Zr i j
  |none=>false
 | .index t x i,.sidx y j=>V3 P t&&Zr x y&&Zr i j
 | .index t x i,.aidx n sz len y j=>
  match V4 P t with
  |some (m,e)=>decide (m=len)&&decide (ZR P e=some sz)&&Xv P e n&&Zr x y&&Zr i j
  |none=>false
 | .extract x i,.ext y j=>decide (i=j)&&Zr x y
 | .makeFunc fn f c,.mkf fn' f' c'=>decide (fn=fn')&&Wt f.toList f'&&Wt c.toList c'
 | .makeMap _ r,.mkm=>r.isNone
 | .insert t m k v,.ins ag kk m' k' v'=>
  match isMap P t with
  |some (kt,_)=>decide (tk P 20 kt=some kk)&&decide (ZF P kt=ag)&&Zr m m'&&Zr k k'&&Zr v v'
  |none=>false
 | .mapUpdate t m k v,.mupd ag kk m' k' v'=>
  match isMap P t with
  |some (kt,_)=>decide (tk P 20 kt=some kk)&&decide (ZF P kt=ag)&&Zr m m'&&Zr k k'&&Zr v v'
  |none=>false
 | .lookup t m k ok,.lkp ag kk ok' z m' k'=>
  match isMap P t with
  |some (kt,vt)=>decide (tk P 20 kt=some kk)&&decide (ZF P kt=ag)&&decide (ok=ok')&&KI P vt z&&Zr m m'&&Zr k k'
  |none=>false
 | .makeSlice t l c,.mks sz z bytes l' c'=>
  match isSlice P t with
  |some e=>(match P.info? e with|some i=>decide (i.size=sz)&&decide (i.bytes=bytes)&&(match i.zero with|some v=>Q3 v z|none=>false)|none=>false)&&Zr l l'&&Zr c c'
  |none=>false
 | .slice t x lo hi mx,.slc sz y lo' hi' mx'=>
  match isSlice P t with
  |some e=>decide (ZR P e=some sz)&&Zr x y&&VI lo lo'&&VI hi hi'&&VI mx mx'
  |none=>false
 | .slice t x none (some hi) none,.asl n y hi'=>
  match V4 P t with
  |some (m,e)=>decide (m=n)&&decide (ZR P e=some 1)&&Zr x y&&Zr hi hi'
  |none=>false
 | .slice t x lo hi none,.ssl y lo' hi'=>V3 P t&&Zr x y&&VI lo lo'&&VI hi hi'
 | .call c,.len k y=>
  match c.callee,c.args.toList,c.argTypes.toList with
  | .builtin .len,[x],[t]=>(match k with|0=>V3 P t|1=>(isSlice P t).isSome|2=>(isMap P t).isSome|_=>false)&&Zr x y
  |_,_,_=>false
 | .call c,.app _ sz bytes s x=>
  match c.callee,c.args.toList,c.argTypes.toList with
  | .builtin .append,[s',x'],[t,t2]=>
   (match isSlice P t with
    |some e=>(match P.info? e with|some i=>decide (i.size=sz)&&decide (i.bytes=bytes)&&(match i.zero with|some v=>decide (v.cells.size=sz)|none=>false)|none=>false)
    |none=>false)&&(P.underlying t2).isSome&&!MF P t2&&Zr s' s&&Zr x' x
  |_,_,_=>false
 | .call c,.apr sz bytes s x=>
  match c.callee,c.args.toList,c.argTypes.toList with
  | .builtin .append,[s',x'],[t,t2]=>
   (match isSlice P t with
    |some e=>(match P.info? e with|some i=>decide (i.size=sz)&&decide (i.bytes=bytes)&&(match i.zero with|some v=>decide (v.cells.size=sz)|none=>false)|none=>false)
    |none=>false)&&(P.underlying t2).isSome&&!MF P t2&&Zr s' s&&Zr x' x
  |_,_,_=>false
 | .call c,.mm mx x y=>
  match c.callee,c.args.toList with
  | .builtin .min,[x',y']=>!mx&&Zr x' x&&Zr y' y
  | .builtin .max,[x',y']=>mx&&Zr x' x&&Zr y' y
  |_,_=>false
 | .range t x,.rng y=>V3 P t&&Zr x y
 | .next x true,.nxt y=>Zr x y
 | .makeInterface t x,.mkif t' y=>decide (t=t')&&Zr x y&&(match P.underlying t with|some (.interface _)=>false|some _=>true|none=>false)
 |_,_=>false
def KJ{t e:TypeId}(a:isSlice P t=some e):P.underlying t=some (.slice e):=by
 grind [isSlice]
def Gd{t:TypeId}(a:V3 P t=true):P.underlying t=some .string:=by
 grind [V3]
def Ge{t k e:TypeId}(a:isMap P t=some (k,e)):P.underlying t=some (.map k e):=by
 grind [isMap]
def Rg{t e:TypeId}{n:Nat}(a:V4 P t=some (n,e)):P.underlying t=some (.array n e):=by
 grind [V4]
def Rh{t:TypeId}{a:Array Field}(b:V5 P t=some a):P.underlying t=some (.struct a):=by
 grind [V5]
def Gf{t:TypeId}{z:AV}(a:KI P t z=true):∃v,YH P t=some v/\Q3 v z=true:=by
 grind [KI]
def JW(c:GlR E T X w)(d:FrR T X w fr a.tmps){x:Option Operand}{y:Option Arg}(b:VI x y=true):Xw T X w (y.map<|ev E fr) (x.map a.eval):=by
 cases x<;>cases y<;>simp[VI]at b
 .trivial
 .exact evR c d b
def MG{x:Operand}(a:G9 x=true):x=.const (.slice none 0 0):=by
 grind [G9]
def Qg{o:Oper}{s:Sem Value}(b:execOp a.eval o=(do Pure.pure (Next.value<|<-s))){rv:Value}{w':World}(c:s.run P w=.ok rv w'):(execOp a.eval o).run P w=.ok (.value rv) w':=by
 simp_all
def Ri{o:Oper}{s:Sem Unit}(b:execOp a.eval o=(do s;Pure.pure Next.skip)){w':World}(c:s.run P w=.ok () w'):(execOp a.eval o).run P w=.ok .skip w':=by
 simp_all
def MH{s:Sem Next}{aid sz:Nat}{rs:List Nat}(m:M T X h w)(a:aid<=h.length)(l:T aid=none)(i:0<sz)(g:s.run P w=.ok (.value<|.slice none 0 0) w):
 Sim P T X h w s (.sl aid 0 0 0 false,rs,some (aid,.row sz [])):=by
 have b:Step T w (upd T aid<|.row sz 0 none 0 0) w:=by
  refine⟨rfl,rfl,rfl,ZXh _,λx c d=>⟨c,by rw[upd_ne _ _<|by grind];grind,.refl _⟩,λ_ _ _=>rfl,λx d=>?_,λ_=>ZXh _⟩
  have⟨f,c',h1,h2⟩:=d;by_cases e:f=aid
  .subst e;rw[upd_same]at h1;cases h1;cases h2
  .rw[upd_ne _ _ e]at h1;exact .inl ⟨f,c',h1,h2⟩
 refine⟨upd T aid<|.row sz 0 none 0 0,w,_,.inl g,b,WZ m aid _ _ a b (λ_ _ _ _ _ _=>rfl) (λr j=>by cases j) ⟨rfl,rfl,i,ZXh _,rfl⟩,?_⟩
 exact⟨⟨_,_,_,rfl⟩,sz,0,none,0,0,upd_same _ _ _,ZXh _,ZXh _,λ_=>⟨0,ZXh _,ZXh _,(λk=>by grind),.inr ⟨rfl,none,rfl,λ_=>rfl⟩⟩⟩
def MI{a:BinOp}{t:TypeId}{x y:Operand}{v u:Value}(e:∀vs us,v=.agg vs->u=.agg us->P.eqGuardType P.depth t=false)(d:v≠.nilIface\/u≠.nilIface):(eqGuard a t x y v u).run P w=.ok () w:=by
 by_cases c:a=.eql\/a=.neq
 .by_cases b:∃vs us,v=.agg vs/\u=.agg us
  .obtain⟨vs,us,rfl,rfl⟩:=b
   simp_all[run_eqGuard_agg]
  .rcases c with rfl|rfl
   all_goals
    cases v<;>cases u<;>first|rfl|exact(b ⟨_,_,rfl,rfl⟩).elim|grind
 .cases a<;>first|rfl|exact(c<|.inl rfl).elim|grind
end Go.AM
