/- The abstract machine and its soundness, part 1: what it computes, the program computes. No condition. -/
import Derived.WalkKit
import Derived.RangeFuncLeaves
import Derived.Below
import Derived.Laws.CopyRow
import Derived.ChangeKeysEq
import Derived.Room.Entries
set_option linter.unusedVariables false
set_option linter.unusedSimpArgs false
set_option linter.unusedSectionVars false
set_option linter.defProp false
namespace Go.AM
def ZWQ:=@List.length_map
def ZWR:=@Bool.true_and
def ZWS:=@Bool.not_true
def ZWT:=@Bool.and_eq_true
def ZWU:=@Bool.not_false
def ZWV:=@Bool.false_and
def ZWW:=@Bool.and_true
def ZWX:=@Bool.and_false
def ZWY:=@Bool.true_or
def ZWZ:=@Bool.false_or
def ZX0:=@Nat.le_refl
def ZX1:=@List.map_nil
def ZX2:=@Bool.false_eq_true
def ZX3:=@List.map_cons
def ZX4:=@List.map_append
def ZX5:=@List.getElem?_eq_getElem
def ZX6:=@List.map_set
def ZX7:=@List.length_append
def ZX8:=@Bool.and_self
def ZX9:=@Bool.or_false
def ZXa:=@Bool.or_true
def ZXb:=@Nat.zero_le
def ZXc:=@List.length_set
def ZXd:=@Bool.or_self
def ZXe:=@List.append_nil
def ZXf:=@Nat.zero_add
def ZXg:=@List.getElem?_eq_some_iff
def ZXh:=@List.length_singleton
def ZXi:=@Option.map_eq_some_iff
def ZXj:=@List.cons_append
def ZXk:=@List.mem_of_getElem?
def ZXl:=@List.all_eq_true
def ZXm:=@List.nil_append
def ZXn:=@Bool.not_eq_true'
def ZXo:=@Option.map_some
def ZXp:=@List.take_of_length_le
def ZXq:=@Bool.eq_iff_iff
def ZXr:=@List.length_cons
def ZXs:=@Nat.le_of_ble_eq_true
def ZXt:=@List.length_nil
def ZXu:=@List.take_length
def ZXv:=@List.mem_cons
def ZXw:=@Nat.add_mul
def ZXx:=@List.append_assoc
def ZXy:=@List.getElem?_cons_zero
def ZXz:=@List.all_cons
def ZXA:=@Nat.mul_one
def ZXB:=@List.mem_singleton
def ZXC:=@Array.getD_eq_getD_getElem?
def ZXD:=@Array.length_toList
def ZXE:=@Nat.add_zero
def ZXF:=@List.mem_append
def ZXG:=@Nat.le_trans
def ZXH:=@Array.getElem?_eq_getElem
def ZXI:=@Int.toNat_natCast
def ZXJ:=@List.getElem?_map
def ZXK:=@List.getElem?_append_left
def ZXL:=@List.length_take
def ZXM:=@Nat.add_assoc
def ZXN:=@Array.getElem?_eq_some_iff
def ZXO:=@List.drop_zero
def ZXP:=@List.mem_map
def ZXQ:=@List.getElem?_eq_none
def ZXR:=@List.any_cons
def ZXS:=@List.getElem?_cons_succ
def ZXT:=@Nat.blt_eq
def ZXU:=@Nat.le_of_lt
def ZXV:=@Array.ext'
def ZXW:=@List.take_append_drop
def ZXX:=@Nat.mod_lt
def ZXY:=@List.set_set
def ZXZ:=@List.drop_drop
def ZY0:=@List.getElem?_append_right
def ZY1:=@List.any_nil
def ZY2:=@Array.getElem?_toList
def ZY3:=@Nat.lt_of_lt_of_le
def ZY4:=@List.drop_eq_getElem_cons
def ZY5:=@Bool.eq_false_iff
def ZY6:=@Bool.and_assoc
def ZY7:=@Nat.mul_le_mul_right
def ZY8:=@List.nodup_cons
def ZY9:=@Nat.lt_or_ge
def ZYa:=@List.mem_cons_self
def ZYb:=@Bool.not_eq_false'
def ZYc:=@Nat.succ_mul
def ZYd:=@List.getElem?_drop
def ZYe:=@List.foldl_cons
def ZYf:=@List.not_mem_nil
def ZYg:=@List.all_nil
def ZYh:=@Option.ite_none_left_eq_some
def ZYi:=@List.replicate_succ
def ZYj:=@Bool.not_eq_true
def ZYk:=@Nat.zero_mul
def ZYl:=@List.mem_of_mem_take
def ZYm:=@List.mem_append_left
def ZYn:=@List.mem_range
def ZYo:=@Nat.ble_eq_true_of_le
def ZYp:=@List.ext_getElem?
def ZYq:=@Option.ite_none_right_eq_some
def ZYr:=@List.flatten_cons
def ZYs:=@List.mem_iff_getElem?
def ZYt:=@List.getElem_mem
def ZYu:=@List.getElem?_take_of_lt
def ZYv:=@List.getElem?_toArray
def ZYw:=@Array.eq_empty_of_size_eq_zero
def ZYx:=@List.take_add_one
def ZYy:=@Bool.or_eq_true
def ZYz:=@List.length_eq_zero_iff
def ZYA:=@Nat.le_succ
def ZYB:=@Option.isSome_iff_exists
def ZYC:=@Option.bind_eq_some_iff
def ZYD:=@List.find?_some
def ZYE:=@List.pairwise_cons
def ZYF:=@Nat.add_one_ne_zero
def ZYG:=@List.any_eq_false
def ZYH:=@Bool.not_not
def ZYI:=@List.take_left'
def ZYJ:=@List.mem_of_mem_drop
def ZYK:=@Option.getD_some
def ZYL:=@List.getElem?_replicate
def ZYM:=@List.mem_of_find?_eq_some
def ZYN:=@List.all_map
def ZYO:=@List.take_succ_cons
def ZYP:=@List.drop_left'
def ZYQ:=@List.eq_of_mem_replicate
def ZYR:=@List.isEmpty_iff
def ZYS:=@List.mem_flatMap
def ZYT:=@List.nodup_nil
def ZYU:=@List.perm_middle
def ZYV:=@List.mem_cons_of_mem
def ZYW:=@List.getD_eq_getElem?_getD
def ZYX:=@List.mem_append_right
def ZYY:=@List.take_succ_eq_append_getElem
def ZYZ:=@List.take_zero
def ZZ0:=@List.length_range
def ZZ1:=@Int.lt_trichotomy
def ZZ2:=@List.mem_range'_1
def ZZ3:=@Int.toNat_of_nonneg
def ZZ4:=@Bool.or_eq_false_iff
def ZZ5:=@List.nodup_append
def ZZ6:=@Array.getElem?_modify
def ZZ7:=@List.getElem_cons_drop
def ZZ8:=@List.take_length_add_append
def ZZ9:=@List.drop_append_of_le_length
def ZZa:=@List.mem_or_eq_of_mem_set
def ZZb:=@List.singleton_append
def ZZc:=@Array.getElem?_append_left
def ZZd:=@Array.size_setIfInBounds
def ZZe:=@List.length_eq_one_iff
def ZZf:=@List.length_replicate
def ZZg:=@Nat.lt_trichotomy
def ZZh:=@List.map_congr_left
def ZZi:=@List.drop_eq_nil_of_le
def ZZj:=@List.foldl_append
def ZZk:=@List.set_getElem_self
def ZZl:=@List.getElem?_set_ne
def ZZm:=@List.set_eq_take_append_cons_drop
def ZZn:=@Array.getElem?_setIfInBounds_self_of_lt
def ZZo:=@Array.getElem?_setIfInBounds_ne
end Go.AM
namespace Go.AM
open Go
inductive AV where
 |bot
 |bool (b:Bool)
 |int (k:IntKind) (n:Int)
 |str (s:ByteArray)
 |nilp|nilsl|nilmap|nilfn|nilif
 |agg (cs:List AV)
 |tup (vs:List AV)
 |iptr (bw:Bool) (cs:List AV)
 |isl (bw ex:Bool) (sz:Nat) (es:List AV)
 |imap (bw:Bool) (ks vs:List AV)
 |ifc (t:TypeId) (v:AV)
 |clo (fn:Fn) (first cap:List AV)
 |ptr (b i off g:Nat)
 |sl (b g off len:Nat) (ex:Bool)
 |mp (b:Nat)
 |it (b:Nat)
 |yld (b:Nat)
 deriving Inhabited
def AV.cells:AV->List AV
 | .agg cs=>cs
 |v=>[v]
inductive Arg where
 |t (n:Nat)
 |c (v:AV)
 |f (fid:Nat)
 |g (gid:Nat)
 deriving Inhabited
inductive AOp where
 |mv (x:Arg)
 |own (sz:Nat)
 |pick (c a b:Arg)
 |box (sz:Nat) (x:Arg)
 |ibox (sz:Nat) (x:Arg)
 |build (z:List AV) (ps:List<|Nat×Nat×Arg)
 |bsl (fz ex:Bool) (sz:Nat) (z:AV) (len:Nat) (ps:List<|Nat×Arg)
 |load (n:Option Nat) (x:Arg)
 |ldr (n c:Nat) (x:Arg)
 |apr (sz bytes:Nat) (s x:Arg)
 |apa (sz bytes:Nat) (s x:Arg)
 |store (n:Nat) (a x:Arg)
 |nilck (x:Arg)
 |isn (neg:Bool) (x:Arg)
 |bin (op:BinOp) (x y:Arg)
 |eqv (neg ag:Bool) (ks:List Nat) (x y:Arg)
 |un (op:UnOp) (x:Arg)
 |conv (k:Option IntKind) (x:Arg)
 |fld (n:Option Nat) (off:Nat) (x:Arg)
 |fadr (off:Nat) (x:Arg)
 |iadr (sz:Nat) (x i:Arg)
 |aadr (sz len:Nat) (x i:Arg)
 |sidx (x i:Arg)
 |aidx (n:Option Nat) (sz len:Nat) (x i:Arg)
 |ext (x:Arg) (i:Nat)
 |mkf (fn:Fn) (first cap:List Arg)
 |mkm
 |ins (ag:Bool) (ks:List Nat) (m k v:Arg)
 |mupd (ag:Bool) (ks:List Nat) (m k v:Arg)
 |lkp (ag:Bool) (ks:List Nat) (ok:Bool) (z:AV) (m k:Arg)
 |mks (sz:Nat) (z:AV) (bytes:Nat) (len cap:Arg)
 |slc (sz:Nat) (x:Arg) (lo hi mx:Option Arg)
 |ssl (x:Arg) (lo hi:Option Arg)
 |len (k:Nat) (x:Arg)
 |app (fz:Bool) (sz bytes:Nat) (s x:Arg)
 |rng (x:Arg)
 |nxt (x:Arg)
 |mkif (t:TypeId) (x:Arg)
 |mm (mx:Bool) (x y:Arg)
 |rel (x:Arg)
 |call (pure:Bool) (f:Nat) (args:List Arg)
 |callv (pure:Bool) (f:Arg) (args:List Arg)
 |bad
 deriving Inhabited
structure AOper where
 dst:Option Nat
 op:AOp
 guard:Option<|Nat×Bool
 deriving Inhabited
inductive ACode where
 |skip
 |region (ops:List AOper)
 |draw (un:List<|List Nat) (p1 p2:List AOper)
 |seq (a b:ACode)
 |cond (c:Arg) (thn els:ACode)
 |block (id:Nat) (body:ACode)
 |loop (live:List Nat) (body:ACode)
 |rangeFunc (f:Arg) (params:List Nat) (assign body:ACode)
 |keep (live:List Nat) (body:ACode)
 |zbox (d sz:Nat) (z:AV) (ps:List<|Nat×Nat)
 |nils (s d off:Nat) (p:Arg)
 |ghost (d off s:Nat) (body:ACode)
 |exit (id:Nat)
 |ret
 |bad
 deriving Inhabited
inductive AExit where
 |normal
 |exit (id:Nat)
 |ret
 deriving DecidableEq
abbrev Fr:=List<|Nat×AV
inductive AObj where
 |dead
 |gone
 |row (sz:Nat) (es:List AV)
 |map (ks vs:List AV)
 |iter (s:ByteArray) (pos:Nat)
 |loop (st:LoopState) (pend:AExit) (fr:Fr) (ps:List Nat) (assign body:ACode)
 deriving Inhabited
inductive TC where
 |row (sz g:Nat) (r:Option Nat) (C B:Nat)
 |map (r:Nat)
 |iter (r:Nat)
 |loop (r:Nat)
abbrev Ty:=Nat->Option TC
def TC.real:TC->Option Nat
 | .row _ _ r _ _=>r
 | .map r=>some r
 | .iter r=>some r
 | .loop r=>some r
structure Xt where
 p:Nat->Prop
 cr:Nat->Code->ACode->Prop
instance:CoeFun Xt (λ_=>Nat->Prop):=⟨Xt.p⟩
def Ty.rng(T:Ty)(r:Nat):Prop:=∃b c,T b=some c/\c.real=some r
mutual
def clean:AV->Bool
 | .agg cs=>Z4 cs
 | .tup cs=>Z4 cs
 | .iptr bw _=>!bw
 | .isl bw _ _ _=>!bw
 | .imap bw _ _=>!bw
 | .ifc _ v=>clean v
 | .clo _ first cap=>Z4 first&&Z4 cap
 | .ptr .. | .sl .. | .mp _| .it _| .yld _=>false
 |_=>true
def Z4:List AV->Bool
 |[]=>true
 |v::r=>clean v&&Z4 r
end
mutual
def Zy:AV->Bool
 | .agg cs=>Zi cs
 | .tup cs=>Zi cs
 | .ifc _ v=>Zy v
 | .clo _ first cap=>Zi first&&Zi cap
 | .ptr .. | .sl .. | .mp _| .it _| .yld _=>false
 |_=>true
def Zi:List AV->Bool
 |[]=>true
 |v::r=>Zy v&&Zi r
end
def okc:Bool->List AV->Bool
 |false,cs=>Z4 cs
 |true,cs=>Zi cs
def World.at(w:World)(r o:Nat):Option Value:=w.cell? ⟨r,o,none⟩
def ZoV(es:Array MapEntry)(clock:Nat):Prop:=(∀x∈es.toList,x.born<clock)/\(es.toList.map (·.born)).Nodup
def Zpj(w:World)(r:Nat)(es:Array MapEntry)(clock:Nat):Prop:=w.heap[r]?=some (.map es clock)/\ZoV es clock
def Zq2(clock:Nat):ZoV #[] clock:=⟨by simp,by simp⟩
def Zq3{es:Array MapEntry}{clock:Nat}(h:ZoV es clock)(key val:Value):ZoV (es.push {key,val,born:=clock}) (clock+1):=by
 obtain⟨h1,h2⟩:=h;refine⟨?_,?_⟩
 .intro x hx;simp only[Array.toList_push,ZXF,ZXB]at hx;rcases hx with hx|rfl
  .exact Nat.lt_succ_of_lt<|h1 x hx
  .exact Nat.lt_succ_self _
 .simp only[Array.toList_push,ZX4,ZX3,ZX1];refine ZZ5.2 ⟨h2,by simp,?_⟩
  intro a ha b hb;simp only[ZXB]at hb;subst hb;obtain⟨x,hx,rfl⟩:=ZXP.1 ha;exact Nat.ne_of_lt<|h1 x hx
def Zq4{es:Array MapEntry}{clock:Nat}(h:ZoV es clock)(i:Nat)(f:MapEntry->MapEntry)(hb:∀e,(f e).born=e.born):ZoV (es.modify i f) clock:=by
 have hm:(es.modify i f).toList.map (·.born)=es.toList.map (·.born):=by
  apply ZYp;intro j;simp only[ZXJ,ZY2,ZZ6];split
  .cases es[j]? with
   |none=>rfl
   |some e=>simp[hb]
  .rfl
 refine⟨λx hx=>?_,by rw[hm];exact h.2⟩
 have:x.born∈(es.modify i f).toList.map (·.born):=ZXP.2 ⟨x,hx,rfl⟩;rw[hm]at this;obtain⟨y,hy,e⟩:=ZXP.1 this;rw[<-e];exact h.1 y hy
mutual
def R(T:Ty)(X:Xt)(w:World):AV->Value->Prop
 | .bot,_=>True
 | .bool b,v=>v=.bool b
 | .int k n,v=>v=.int k n
 | .str s,v=>v=.string s
 | .nilp,v=>v=.pointer none
 | .nilsl,v=>v=.slice none 0 0
 | .nilmap,v=>v=.map none
 | .nilfn,v=>v=.nilFunc
 | .nilif,v=>v=.nilIface
 | .agg cs,v=>∃vs:Array Value,v=.agg vs/\Rs T X w cs vs.toList
 | .tup cs,v=>∃vs:Array Value,v=.tuple vs/\Rs T X w cs vs.toList
 | .iptr bw cs,v=>∃r o,v=.pointer (some ⟨r,o,none⟩)/\¬T.rng r/\(bw=false->¬X r)/\okc bw cs=true/\r<w.heap.size/\ZV T X w r cs o
 | .isl bw ex sz es,v=>∃a len cap,v=.slice a len cap/\len=es.length/\len<=cap/\(ex=true->cap=len)/\okc bw es=true/\
  (es=[]\/∃r o,a=some ⟨r,o,none⟩/\¬T.rng r/\(bw=false->¬X r)/\r<w.heap.size/\ZA T X w sz r es o)
 | .imap bw ks vs,v=>∃r es clock l,v=.map (some r)/\¬T.rng r/\(bw=false->¬X r)/\(okc bw ks=true/\okc bw vs=true)/\Zpj w r es clock/\ks.Nodup/\List.Perm l es.toList/\
  Rs T X w ks (l.map (·.key))/\Rs T X w vs (l.map (·.val))
 | .ifc t x,v=>∃u,v=.iface t u/\R T X w x u
 | .clo fn first cap,v=>∃f c:Array Value,v=.func fn f c/\Rs T X w first f.toList/\Rs T X w cap c.toList
 | .ptr b i off g,v=>(∃p,v=.pointer p)/\∃sz g' r C B,T b=some (.row sz g' r C B)/\g<=g'/\(g=g'->∃r',r=some r'/\i<g/\v=.pointer (some ⟨r',(B+i)*sz+off,none⟩))
 | .sl b g off len ex,v=>(∃p l c,v=.slice p l c)/\∃sz g' r C B,T b=some (.row sz g' r C B)/\g<=g'/\off+len<=g/\
  (g=g'->∃cap,len<=cap/\B+off+cap<=C/\(ex=true->cap=len)/\((∃r',r=some r'/\v=.slice (some ⟨r',(B+off)*sz,none⟩) len cap)\/(cap=0/\∃p,v=.slice p 0 0/\(r=none->p=none))))
 | .mp b,v=>∃r,T b=some (.map r)/\v=.map (some r)
 | .it b,v=>∃r,T b=some (.iter r)/\v=.pointer (some ⟨r,0,none⟩)
 | .yld b,v=>∃r,T b=some (.loop r)/\v=.func (.yield r) #[] #[]
def Rs(T:Ty)(X:Xt)(w:World):List AV->List Value->Prop
 |[],vs=>vs=[]
 |a::as,vs=>∃v vr,vs=v::vr/\R T X w a v/\Rs T X w as vr
def ZV(T:Ty)(X:Xt)(w:World)(r:Nat):List AV->Nat->Prop
 |[],_=>True
 |a::as,o=>(∃v,World.at w r o=some v/\R T X w a v)/\ZV T X w r as (o+1)
def ZA(T:Ty)(X:Xt)(w:World)(sz r:Nat):List AV->Nat->Prop
 |[],_=>True
 | .agg cs::es,o=>cs.length=sz/\ZV T X w r cs o/\ZA T X w sz r es (o+sz)
 |a::es,o=>sz=1/\(∃v,World.at w r o=some v/\R T X w a v)/\ZA T X w sz r es (o+sz)
end
def get:Fr->Nat->AV
 |[],_=>.bot
 |(k,v)::r,t=>bif k==t then v else get r t
def put(fr:Fr)(t:Nat)(v:AV):Fr:=(t,v)::fr
def ZB(fr:Fr)(d:Option Nat)(v:AV):Fr:=
 match d with
 |some t=>put fr t v
 |none=>fr
def Z2(live:List Nat)(fr:Fr):Fr:=live.map λt=>(t,get fr t)
inductive ResVar where
 |tmp (t:Nat)
 |cell (t:Nat) (n:Option Nat)
structure AFun where
 res:List ResVar
 body:ACode
abbrev Hp:=List AObj
structure Env where
 fn:Nat->Option AFun
 gl:Nat->AV
 sum:Nat->Option (List AV->Hp->Option (AV×Hp))
 rs:Nat->Option (List AV->Nat->List AV->Option (List AV)):=λ_=>none
def ev(E:Env)(fr:Fr):Arg->AV
 | .t n=>get fr n
 | .c v=>v
 | .f f=>.clo (.func f) [] []
 | .g g=>E.gl g
def takeC:Option Nat->List AV->Option AV
 |none,c::_=>some c
 |none,[]=>none
 |some n,cs=>bif Nat.ble n cs.length then some (.agg<|cs.take n)else none
def Q2(h:Hp):AV->Option (List AV)
 | .nilsl=>some []
 | .isl _ _ _ es=>some es
 | .sl b g off len _=>
  match h[b]? with
  |some (.row _ es)=>bif es.length==g then some ((es.drop off).take len)else none
  |_=>none
 |_=>none
def Zs:AV->List Nat
 | .sl b _ _ _ _=>[b]
 | .ptr b _ _ _=>[b]
 | .mp b=>[b]
 | .it b=>[b]
 |_=>[]
def Z3(a b:ByteArray):Bool:=a.data.toList==b.data.toList
def WW(a b:ByteArray):Bool:=Op.bytesLess a.data.toList b.data.toList
def eq1:Nat->AV->AV->Option Bool
 |0,.bool a,.bool b=>some<|a==b
 |1,.int k a,.int j b=>if k=j then some (a==b)else none
 |2,.str a,.str b=>some<|Z3 a b
 |_,_,_=>none
def ZE:List Nat->List AV->List AV->Option Bool
 |[],[],[]=>some true
 |k::ks,x::xs,y::ys=>
  match eq1 k x y with
  |none=>none
  |some a=>
   match ZE ks xs ys with
   |none=>none
   |some b=>some<|a&&b
 |_,_,_=>none
def Zz(ag:Bool)(ks:List Nat)(x y:AV):Option Bool:=
 match ag with
 |true=>
  match x,y with
  | .agg a,.agg b=>ZE ks a b
  |_,_=>none
 |false=>ZE ks [x] [y]
def JO(op:BinOp)(k:IntKind)(a b:Int):Option AV:=
 match op with
 | .add=>some<|.int k<|k.wrap<|a+b
 | .sub=>some<|.int k<|k.wrap<|a-b
 | .mul=>some<|.int k<|k.wrap<|a*b
 | .quo=>if b=0 then none else some<|.int k<|k.wrap<|a.tdiv b
 | .rem=>if b=0 then none else some<|.int k<|a.tmod b
 | .and=>some<|.int k<|k.wrap (BitVec.ofInt k.bits a &&& BitVec.ofInt k.bits b).toNat
 | .or=>some<|.int k<|k.wrap (BitVec.ofInt k.bits a ||| BitVec.ofInt k.bits b).toNat
 | .xor=>some<|.int k<|k.wrap (BitVec.ofInt k.bits a ^^^ BitVec.ofInt k.bits b).toNat
 | .eql=>some<|.bool<|a==b
 | .neq=>some<|.bool<|a != b
 | .lss=>some<|.bool<|decide (a<b)
 | .leq=>some<|.bool<|decide (a<=b)
 | .gtr=>some<|.bool<|decide (a>b)
 | .geq=>some<|.bool<|decide (a>=b)
 |_=>none
def UR(op:BinOp)(a b:ByteArray):Option AV:=
 match op with
 | .add=>if a.size+b.size<=4611686018427387904 then some (.str<|a++b)else none
 | .eql=>some<|.bool<|Z3 a b
 | .neq=>some<|.bool<|!Z3 a b
 | .lss=>some<|.bool<|WW a b
 | .leq=>some<|.bool<|WW a b||Z3 a b
 | .gtr=>some<|.bool<|!(WW a b||Z3 a b)
 | .geq=>some<|.bool<|!WW a b
 |_=>none
def YZ(op:BinOp):AV->AV->Option AV
 | .int k a,.int j b=>
  match op with
  | .shl=>if b<0 then none else some<|.int k<|k.wrap<|a*2 ^ (min b.toNat k.bits)
  | .shr=>if b<0 then none else some<|.int k<|a.fdiv<|2 ^ (min b.toNat k.bits)
  |_=>if k=j then JO op k a b else none
 | .str a,.str b=>UR op a b
 |_,_=>none
def Vy(op:UnOp):AV->Option AV
 | .bool b=>match op with| .not=>some (.bool !b)|_=>none
 | .int k n=>match op with| .neg=>some (.int k<|k.wrap<|0-n)|_=>none
 |_=>none
def scalar:AV->Bool
 | .bot| .agg _| .tup _=>false
 |_=>true
def fits(sz:Nat):AV->Bool
 | .agg cs=>cs.length==sz&&cs.all scalar
 |v=>scalar v&&sz==1
def fill(cells:List AV):List (Nat×Nat×AV)->Option (List AV)
 |[]=>some cells
 |(off,sz,v)::r=>
  let cs:=v.cells
  bif fits sz v&&Nat.ble (off+sz) cells.length then fill (cells.take off++cs++cells.drop (off+sz)) r else none
def YC(sz:Nat)(es:List AV):List (Nat×AV)->Option (List AV)
 |[]=>some es
 |(i,v)::r=>bif fits sz v&&Nat.blt i es.length then YC sz (es.set i v) r else none
def ZW(ag:Bool)(ks:List Nat)(k:AV):List AV->Nat->Option (Option Nat)
 |[],_=>some none
 |a::r,i=>
  match Zz ag ks k a with
  |none=>none
  |some b=>
   match ZW ag ks k r (i+1)with
   |none=>none
   |some x=>some<|bif b then some i else x
def numOf:AV->Option Nat
 | .int _ n=>if 0<=n then some n.toNat else none
 |_=>none
def Vz:Option AV->Option (Option Nat)
 |none=>some none
 |some v=>(numOf v).map some
def Wl(len:Nat)(mx:Option AV):Option AV->Option Nat
 |none=>bif mx.isNone then some len else none
 |some v=>numOf v
def VA:Option AV->Option Nat
 |none=>some 0
 |some v=>numOf v
def VB(h len:Nat):Option Nat->Bool
 |none=>true
 |some m=>Nat.ble h m&&Nat.ble m len
def bounds(lo hi mx:Option AV)(len:Nat):Option (Nat×Nat×Option Nat):=
 match Vz mx,Wl len mx hi,VA lo with
 |some m,some h,some l=>bif Nat.ble l h&&Nat.ble h len&&VB h len m then some (l,h,m)else none
 |_,_,_=>none
abbrev Zt:=AV×List Nat×Option (Nat×AObj)
def Zl(v:Option AV):Option Zt:=v.map λv=>(v,[],none)
def QW(ag:Bool)(kk:List Nat)(ok:Bool)(z:AV)(rs:List Nat)(ks vs:List AV)(k:AV):Option Zt:=
 match Zz ag kk k k,ZW ag kk k ks 0 with
 |some _,some none=>some (bif ok then .tup [z,.bool false]else z,rs,none)
 |some _,some (some i)=>(vs[i]?).map λv=>(bif ok then .tup [v,.bool true]else v,rs,none)
 |_,_=>none
def Yo(ag:Bool)(kk:List Nat)(b:Nat)(ks vs:List AV)(k v:AV):Option Zt:=
 match Zz ag kk k k,ZW ag kk k ks 0 with
 |some _,some none=>some (.bot,[b],some (b,.map (ks++[k])<|vs++[v]))
 |some _,some (some i)=>some (.bot,[b],some (b,.map ks<|vs.set i v))
 |_,_=>none
def VC:Nat->AV->Bool
 |0,.str _=>true
 |1,.nilsl=>true
 |1,.isl _ _ _ _=>true
 |1,.sl _ _ _ _ _=>true
 |2,.nilmap=>true
 |2,.imap _ _ _=>true
 |2,.mp _=>true
 |_,_=>false
def X1(h:Hp)(x:AV):Option Zt:=
 match x with
 | .str s=>Zl<|some<|.int .i64 s.size
 | .nilsl=>Zl<|some<|.int .i64 0
 | .nilmap=>Zl<|some<|.int .i64 0
 | .isl _ _ _ es=>Zl<|some<|.int .i64 es.length
 | .imap _ ks _=>Zl<|some<|.int .i64 ks.length
 | .sl b g _ len _=>
  match h[b]? with
  |some (.row _ es)=>bif es.length==g then some (.int .i64 len,[b],none)else none
  |_=>none
 | .mp b=>
  match h[b]? with
  |some (.map ks _)=>some (.int .i64 ks.length,[b],none)
  |_=>none
 |_=>none
def Qq(h:Hp)(sz:Nat):AV->Bool
 | .isl _ _ z es=>z==sz||es.isEmpty
 | .sl b _ _ _ _=>
  match h[b]? with
  |some (.row z _)=>z==sz
  |_=>false
 |_=>true
def Yp(aid:Nat)(fz:Bool)(sz:Nat)(all:List AV)(rs:List Nat):Option Zt:=
 bif fz then(bif Z4 all then some (.isl false false sz all,rs,none)else none)
 else some (.sl aid all.length 0 all.length false,rs,some (aid,.row sz all))
def Qt(h:Hp)(aid:Nat)(fz:Bool)(sz bytes:Nat)(s x:AV):Option Zt:=
 match Q2 h s,Q2 h x with
 |some es,some ys=>
  if Qq h sz s=true/\Qq h sz x=true/\0<sz/\0<bytes/\(es.length+ys.length)*bytes<=140737488355328 then
   bif ys.isEmpty then some (s,Zs s++Zs x,none)
   else
    match s with
    | .nilsl=>Yp aid fz sz (es++ys)<|Zs s++Zs x
    | .isl _ true _ _=>Yp aid fz sz (es++ys)<|Zs s++Zs x
    | .sl _ _ _ _ true=>Yp aid fz sz (es++ys)<|Zs s++Zs x
    | .sl b g off len false=>
     match h[b]? with
     |some (.row sz' all)=>bif off==0&&len==g&&ys.all (fits sz)then some (.sl b (g+ys.length) 0 (g+ys.length) false,b::Zs x,some (b,.row sz'<|all++ys))else none
     |_=>none
    |_=>none
  else none
 |_,_=>none
def ZvE(h:Hp):Zt->Option Zt
 |(.sl b g off len ex,rs,some (b',.row sz es))=>bif b'==b&&(es.length==g&&Z4 es)then some (.isl false ex sz<|(es.drop off).take len,rs,some (b,.gone))else none
 |(.sl b g off len ex,rs,none)=>
  match h[b]? with
  |some (.row sz es)=>bif es.length==g&&Z4 es then some (.isl false ex sz<|(es.drop off).take len,rs,some (b,.gone))else none
  |_=>none
 |(.isl bw ex sz es,rs,none)=>some (.isl bw ex sz es,rs,none)
 |_=>none
def ZvH(h:Hp)(b:Nat)(c:Nat):AV->Option Zt
 | .agg cs=>
  match cs[c]? with
  |some (.sl b2 g off len ex)=>
   bif b2==b+1 then
    match h[b+1]? with
    |some (.row sz es)=>bif es.length==g&&Z4 es then some (.agg<|cs.set c<|.isl false ex sz<|(es.drop off).take len,[b,b+1],some (b+1,.gone))else none
    |_=>none
   else none
  |_=>none
 |_=>none
def Z8(E:Env)(fr:Fr)(h:Hp)(aid:Nat):AOp->Option Zt
 | .mv x=>Zl<|some<|ev E fr x
 | .own sz=>some (.sl aid 0 0 0 false,[],some (aid,.row sz []))
 | .pick c a b=>
  match ev E fr c with
  | .bool true=>Zl<|some<|ev E fr a
  | .bool false=>Zl<|some<|ev E fr b
  |_=>none
 | .box sz x=>bif fits sz (ev E fr x)then some (.ptr aid 0 0 1,[],some (aid,.row sz [ev E fr x]))else none
 | .ibox sz x=>bif fits sz (ev E fr x)then(bif Z4 (ev E fr x).cells then Zl (some<|.iptr false (ev E fr x).cells)else bif Zi (ev E fr x).cells then Zl (some<|.iptr true (ev E fr x).cells)else some (.ptr aid 0 0 1,[],some (aid,.row sz [ev E fr x])))else none
 | .build z ps=>Zl<|(fill z<|ps.map λp=>(p.1,p.2.1,ev E fr p.2.2)).map .agg
 | .bsl fz ex sz z len ps=>
  match YC sz (List.replicate len z) (ps.map λp=>(p.1,ev E fr p.2))with
  |some es=>
   bif fits sz z then
    bif fz then(bif Z4 es then Zl (some<|.isl false ex sz es)else none)
    else some (.sl aid len 0 len<|!ex,[],some (aid,.row sz es))
   else none
  |none=>none
 | .load n x=>
  match ev E fr x with
  | .iptr _ cs=>Zl<|takeC n cs
  | .ptr b i off g=>
   match h[b]? with
   |some (.row _ es)=>
    bif es.length==g then
     match es[i]? with
     |some e=>(takeC n<|e.cells.drop off).map λv=>(v,[b],none)
     |none=>none
    else none
   |_=>none
  |_=>none
 | .ldr n c x=>
  match ev E fr x with
  | .ptr b i off g=>
   match h[b]? with
   |some (.row _ es)=>
    bif es.length==g then
     match es[i]? with
     |some e=>
      match takeC (some n) (e.cells.drop off)with
      |some u=>ZvH h b c u
      |none=>none
     |none=>none
    else none
   |_=>none
  |_=>none
 | .store n a x=>
  match ev E fr a with
  | .ptr b i off g=>
   match h[b]? with
   |some (.row sz es)=>
    let cs:=(ev E fr x).cells
    bif es.length==g&&fits n (ev E fr x)then
     match es[i]? with
     |some (.agg old)=>
      bif Nat.ble (off+n) old.length then some (.bot,[b],some (b,.row sz<|es.set i<|.agg<|old.take off++cs++old.drop (off+n)))else none
     |some _=>
      match cs with
      |[c]=>bif off==0 then some (.bot,[b],some (b,.row sz<|es.set i c))else none
      |_=>none
     |none=>none
    else none
   |_=>none
  |_=>none
 | .nilck x=>
  match ev E fr x with
  | .iptr bw cs=>Zl<|some<|.iptr bw cs
  | .ptr b i off g=>
   match h[b]? with
   |some (.row _ es)=>bif es.length==g then some (.ptr b i off g,[b],none)else none
   |_=>none
  | .clo (.func f) first cap=>Zl<|some<|.clo (.func f) first cap
  |_=>none
 | .isn neg x=>
  match ev E fr x with
  | .nilp=>Zl<|some<|.bool !neg
  | .iptr _ _=>Zl<|some<|.bool neg
  | .ptr b _ _ g=>
   match h[b]? with
   |some (.row _ es)=>bif es.length==g then some (.bool neg,[b],none)else none
   |_=>none
  |_=>none
 | .bin op x y=>Zl<|YZ op (ev E fr x)<|ev E fr y
 | .eqv neg ag ks x y=>Zl<|(Zz ag ks (ev E fr x)<|ev E fr y).map λb=>.bool (if neg then !b else b)
 | .un op x=>Zl<|Vy op<|ev E fr x
 | .conv k x=>
  match k,ev E fr x with
  |some k,.int _ n=>Zl<|some<|.int k<|k.wrap n
  |none,.str s=>Zl<|some<|.str s
  |_,_=>none
 | .fld n off x=>
  match ev E fr x with
  | .agg cs=>Zl<|takeC n<|cs.drop off
  |_=>none
 | .fadr o x=>
  match ev E fr x with
  | .iptr bw cs=>Zl<|some<|.iptr bw<|cs.drop o
  | .ptr b i off g=>
   match h[b]? with
   |some (.row _ es)=>bif es.length==g then some (.ptr b i (off+o) g,[b],none)else none
   |_=>none
  |_=>none
 | .iadr sz x i=>
  match ev E fr x,ev E fr i with
  | .isl bw _ sz' es,.int _ n=>
   if 0<=n then
    match es[n.toNat]? with
    |some e=>bif sz'==sz then Zl (some<|.iptr bw e.cells)else none
    |none=>none
   else none
  | .sl b g off len _,.int _ n=>
   if 0<=n/\n<(len:Int)then
    match h[b]? with
    |some (.row sz' es)=>bif sz'==sz&&es.length==g then some (.ptr b (off+n.toNat) 0 g,[b],none)else none
    |_=>none
   else none
  |_,_=>none
 | .aadr sz len x i=>
  match ev E fr x,ev E fr i with
  | .iptr bw cs,.int _ n=>if 0<=n/\n<(len:Int)then Zl (some<|.iptr bw<|cs.drop<|n.toNat*sz)else none
  | .ptr b j off g,.int _ n=>
   match h[b]? with
   |some (.row _ es)=>bif es.length==g then(if 0<=n/\n<(len:Int)then some (.ptr b j (off+n.toNat*sz) g,[b],none)else none)else none
   |_=>none
  |_,_=>none
 | .sidx x i=>
  match ev E fr x,ev E fr i with
  | .str s,.int _ n=>if 0<=n then Zl ((s.data[n.toNat]?).map λb=>.int .u8 b.toNat)else none
  |_,_=>none
 | .aidx n sz len x i=>
  match ev E fr x,ev E fr i with
  | .agg cs,.int _ k=>if 0<=k/\k<(len:Int)then Zl (takeC n<|cs.drop<|k.toNat*sz)else none
  |_,_=>none
 | .ext x i=>
  match ev E fr x with
  | .tup vs=>Zl vs[i]?
  |_=>none
 | .mkf fn first cap=>Zl<|some<|.clo fn (first.map<|ev E fr)<|cap.map<|ev E fr
 | .mkm=>some (.mp aid,[],some (aid,.map [] []))
 | .ins ag kk m k v| .mupd ag kk m k v=>
  match ev E fr m with
  | .mp b=>
   match h[b]? with
   |some (.map ks vs)=>
    Yo ag kk b ks vs (ev E fr k) (ev E fr v)
   |_=>none
  |_=>none
 | .lkp ag kk ok z m k=>
  match ev E fr m with
  | .nilmap=>QW ag kk ok z [] [] []<|ev E fr k
  | .imap _ ks vs=>QW ag kk ok z [] ks vs<|ev E fr k
  | .mp b=>
   match h[b]? with
   |some (.map ks vs)=>QW ag kk ok z [b] ks vs<|ev E fr k
   |_=>none
  |_=>none
 | .mks sz z bytes len cap=>
  match ev E fr len,ev E fr cap with
  | .int .i64 n,.int .i64 c=>
   if 0<=n/\n<=c/\c*bytes<=70368744177664/\c<9223372036854775807/\fits sz z=true/\0<sz then
    some (.sl aid n.toNat 0 n.toNat<|n==c,[],some (aid,.row sz<|List.replicate n.toNat z))
   else none
  |_,_=>none
 | .slc sz x lo hi mx=>
  match ev E fr x with
  | .nilsl=>
   match bounds (lo.map<|ev E fr) (hi.map<|ev E fr) (mx.map<|ev E fr) 0 with
   |some _=>Zl<|some .nilsl
   |none=>none
  | .isl bw ex sz' es=>
   match bounds (lo.map<|ev E fr) (hi.map<|ev E fr) (mx.map<|ev E fr) es.length with
   |some (l,hh,m)=>bif sz'==sz then Zl (some<|.isl bw (match m with|none=>ex&&hh==es.length|some m=>m==hh) sz<|(es.drop l).take (hh-l))else none
   |none=>none
  | .sl b g off len ex=>
   match bounds (lo.map<|ev E fr) (hi.map<|ev E fr) (mx.map<|ev E fr) len with
   |some (l,hh,m)=>
    match h[b]? with
    |some (.row sz' es)=>bif sz'==sz&&es.length==g then some (.sl b g (off+l) (hh-l) (match m with|none=>ex&&hh==len|some m=>m==hh),[b],none)else none
    |_=>none
   |none=>none
  |_=>none
 | .ssl x lo hi=>
  match ev E fr x with
  | .str s=>
   match bounds (lo.map<|ev E fr) (hi.map<|ev E fr) none s.size with
   |some (l,hh,_)=>Zl<|some<|.str<|s.extract l hh
   |none=>none
  |_=>none
 | .len k x=>bif VC k (ev E fr x)then X1 h (ev E fr x)else none
 | .app fz sz bytes s x=>Qt h aid fz sz bytes (ev E fr s)<|ev E fr x
 | .apr sz bytes s x=>
  match Qt h aid false sz bytes (ev E fr s) (ev E fr x)with
  |some r=>ZvE h r
  |none=>none
 | .rng x=>
  match ev E fr x with
  | .str s=>some (.it aid,[],some (aid,.iter s 0))
  |_=>none
 | .nxt x=>
  match ev E fr x with
  | .it b=>
   match h[b]? with
   |some (.iter s pos)=>
    bif Nat.blt pos s.size then
     some (.tup [.bool true,.int .i64 pos,.int .i32 (Utf8.decode s pos).1],[b],some (b,.iter s<|pos+(Utf8.decode s pos).2))
    else some (.tup [.bool false],[b],none)
   |_=>none
  |_=>none
 | .mkif t x=>Zl<|some<|.ifc t<|ev E fr x
 | .rel x=>
  match ev E fr x with
  | .sl b g off len ex=>
   match h[b]? with
   |some (.row sz es)=>bif es.length==g&&Z4 es then some (.isl false ex sz<|(es.drop off).take len,[b],some (b,.gone))else none
   |_=>none
  |v=>bif Zs v |>.isEmpty then Zl (some v)else none
 | .mm mx x y=>
  match ev E fr x,ev E fr y with
  | .int k a,.int _ b=>Zl<|some<|.int k<|bif mx then(if b>a then b else a)else(if b<a then b else a)
  |_,_=>none
 |_=>none
def setH(h:Hp)(b:Nat)(o:AObj):Hp:=bif Nat.blt b h.length then h.set b o else h++[o]
def ZH(h:Hp):Option (Nat×AObj)->Hp
 |none=>h
 |some (b,o)=>setH h b o
mutual
def freeze(bw:Bool)(h:Hp):Nat->AV->Option AV
 |0,_=>none
 |n+1,v=>
  bif clean v then some v else
  match v with
  | .agg cs=>(ZC bw h n cs).map .agg
  | .tup cs=>(ZC bw h n cs).map .tup
  | .ifc t x=>(freeze bw h n x).map (.ifc t)
  | .clo fn first cap=>
   match ZC bw h n first,ZC bw h n cap with
   |some f,some c=>some<|.clo fn f c
   |_,_=>none
  | .iptr true cs=>bif bw then some (.iptr true cs)else none
  | .isl true ex sz es=>bif bw then some (.isl true ex sz es)else none
  | .imap true ks vs=>bif bw then some (.imap true ks vs)else none
  | .ptr b i off g=>
   match h[b]? with
   |some (.row _ es)=>
    bif es.length==g then
     match es[i]? with
     |some e=>(ZC bw h n<|e.cells.drop off).map (.iptr bw)
     |none=>none
    else none
   |_=>none
  | .sl b g off len ex=>
   match h[b]? with
   |some (.row sz es)=>bif es.length==g then(ZC bw h n<|(es.drop off).take len).map (.isl bw (bw&&ex) sz)else none
   |_=>none
  | .mp b=>
   match h[b]? with
   |some (.map ks vs)=>
    bif Z4 ks then(ZC bw h n vs).map (.imap bw ks)else none
   |_=>none
  |_=>none
def ZC(bw:Bool)(h:Hp):Nat->List AV->Option (List AV)
 |0,_=>none
 |n+1,l=>
  bif Z4 l then some l else
  match l with
  |[]=>some []
  |v::r=>
   match freeze bw h n v,ZC bw h n r with
   |some a,some b=>some<|a::b
   |_,_=>none
end
def WX(fr:Fr)(h:Hp):ResVar->Option AV
 | .tmp t=>some<|get fr t
 | .cell t n=>
  match get fr t with
  | .ptr b i off g=>
   match h[b]? with
   |some (.row _ es)=>
    bif es.length==g then
     match es[i]? with
     |some e=>takeC n<|e.cells.drop off
     |none=>none
    else none
   |_=>none
  | .iptr _ cs=>takeC n cs
  |_=>none
def YD(fr:Fr)(h:Hp):List ResVar->Option (List AV)
 |[]=>some []
 |r::rs=>
  match WX fr h r,YD fr h rs with
  |some v,some vs=>some<|v::vs
  |_,_=>none
def QO(fr:Fr)(h:Hp)(rs:List ResVar):Option AV:=
 match YD fr h rs with
 |some [v]=>some v
 |some vs=>some<|.tup vs
 |none=>none
def ZJ(fr:Fr)(g:Option<|Nat×Bool):Option Bool:=
 match g with
 |none=>some true
 |some (t,b)=>
  match get fr t with
  | .bool c=>some<|c==b
  | .tup []=>some false
  |_=>none
def QP:Nat->List AV->Fr
 |_,[]=>[]
 |i,v::r=>(i,v)::QP (i+1) r
def Ql(h:Hp)(args:List AV):Option (List AV):=
 bif Z4 args then some args else ZC true h 40 args
def YE(h:Hp)(v:AV):Option AV:=bif clean v then some v else freeze false h 40 v
def AOp.isCall:AOp->Bool
 | .call .. | .callv .. | .apa ..=>true
 |_=>false
def Arg.slots:Arg->List Nat
 | .t n=>[n]
 |_=>[]
def Ko:Option Arg->List Nat
 |some x=>x.slots
 |none=>[]
def Xp:List Arg->List Nat
 |[]=>[]
 |x::r=>x.slots++Xp r
def AOp.slots:AOp->List Nat
 | .mv x| .box _ x| .ibox _ x| .load _ x| .ldr _ _ x| .nilck x| .isn _ x| .un _ x| .conv _ x| .fld _ _ x| .fadr _ x| .ext x _| .rel x| .len _ x| .rng x| .nxt x| .mkif _ x=>x.slots
 | .own _| .mkm| .bad=>[]
 | .pick c a b=>c.slots++a.slots++b.slots
 | .build _ ps=>Xp (ps.map (·.2.2))
 | .bsl _ _ _ _ _ ps=>Xp (ps.map (·.2))
 | .store _ a x| .mm _ a x| .bin _ a x| .eqv _ _ _ a x| .iadr _ a x| .aadr _ _ a x| .sidx a x| .aidx _ _ _ a x| .mks _ _ _ a x| .app _ _ _ a x| .apr _ _ a x| .apa _ _ a x=>a.slots++x.slots
 | .mkf _ f c=>Xp f++Xp c
 | .ins _ _ m k v| .mupd _ _ m k v=>m.slots++k.slots++v.slots
 | .lkp _ _ _ _ m k=>m.slots++k.slots
 | .slc _ x lo hi mx=>x.slots++Ko lo++Ko hi++Ko mx
 | .ssl x lo hi=>x.slots++Ko lo++Ko hi
 | .call _ _ args=>Xp args
 | .callv _ f args=>f.slots++Xp args
structure DRec where
 all:Bool
 rs:List Nat
 wr:Option Nat
 ik:Option<|AV×AV
def sh1:AV->List Nat
 | .sl b _ _ _ _=>[b]
 |_=>[]
def ZOG:List AV->List Nat
 |[]=>[]
 |v::r=>sh1 v++ZOG r
def sh2:AV->List Nat
 | .agg cs=>ZOG cs
 |v=>sh1 v
def ZOz:List AV->List Nat
 |[]=>[]
 |v::r=>sh2 v++ZOz r
def shr(h:Hp)(b:Nat):Bool:=match h[b]? with|some (.row _ es)=>Z4 es|_=>false
def so1(h:Hp):AV->Bool
 | .sl b _ _ _ _=>shr h b
 |v=>Zy v
def ZOH(h:Hp):List AV->Bool
 |[]=>true
 |v::r=>so1 h v&&ZOH h r
def so2(h:Hp):AV->Bool
 | .agg cs=>ZOH h cs
 |v=>so1 h v
def ZOl(h:Hp):List AV->Bool
 |[]=>true
 |v::r=>so2 h v&&ZOl h r
def cRc(h:Hp)(args:List AV):Bool->DRec
 |true=>⟨false,[],none,none⟩
 |false=>bif ZOl h args then⟨false,ZOz args,none,none⟩else⟨true,[],none,none⟩
def ZOd(h:Hp)(args:List AV):DRec:=cRc h args<|Zi args
def YF:AV->AV->Bool
 | .int k a,.int j b=>decide (k=j)&&a != b
 | .str a,.str b=>!Z3 a b
 |_,_=>false
def Kp(x y:DRec):Bool:=
 match x.ik,y.ik with
 |some (k,_),some (j,_)=>YF k j
 |_,_=>false
def Qy(x y:DRec):Bool:=
 (match x.wr with
  |none=>true
  |some b=>!y.all&&!y.rs.contains b&&(!(y.wr==some b)||Kp x y))&&
 (match y.wr with
  |none=>true
  |some b=>!x.all&&!x.rs.contains b)
def Zv(x:DRec)(recs:List DRec):List Nat->Bool
 |[]=>true
 |j::r=>(match recs[j]? with|some y=>Qy x y|none=>false)&&Zv x recs r
def opT(E:Env)(fr:Fr):AOp->List Nat
 | .load _ x| .nilck x| .isn _ x| .fadr _ x| .len _ x| .nxt x| .rel x=>Zs<|ev E fr x
 | .ldr _ _ x=>match ev E fr x with| .ptr b _ _ _=>[b,b+1]|_=>[]
 | .store _ x _| .iadr _ x _| .aadr _ _ x _| .slc _ x _ _ _| .ins _ _ x _ _| .mupd _ _ x _ _| .lkp _ _ _ _ x _=>Zs<|ev E fr x
 | .app _ _ _ s x| .apr _ _ s x=>Zs (ev E fr s)++Zs (ev E fr x)
 |_=>[]
def Wm(E:Env)(fr:Fr)(h:Hp):AOp->Option (AV×AV)
 | .ins ag kk m k v=>
  match ev E fr m with
  | .mp b=>
   match h[b]? with
   |some (.map ks _)=>
    match ZW ag kk (ev E fr k) ks 0 with
    |some none=>bif YF (ev E fr k) (ev E fr k)then none else some (ev E fr k,ev E fr v)
    |_=>none
   |_=>none
  |_=>none
 |_=>none
def QG(E:Env)(fr:Fr)(h:Hp)(op:AOp)(wr:Option<|Nat×AObj):DRec:=
 match Wm E fr h op with
 |some p=>⟨false,[],wr.map (·.1),some p⟩
 |none=>⟨false,opT E fr op,wr.map (·.1),none⟩
def X3:AOp->Bool
 | .mv _| .pick .. | .load .. | .nilck _| .isn .. | .bin .. | .eqv .. | .un .. | .conv .. | .fld .. | .fadr .. | .iadr .. | .aadr .. | .sidx .. | .aidx .. | .ext .. | .mkf .. | .build .. | .lkp .. | .slc .. | .ssl .. | .len .. | .mkif .. | .mm ..=>true
 | .bsl fz _ _ _ _ _=>fz
 | .call p _ _=>p
 | .callv p _ _=>p
 |_=>false
def Ya(h:Hp):Option (Nat×AObj)->Bool
 |none=>true
 |some (b,_)=>Nat.ble b h.length
def QH(ex:AOper->Fr->Hp->Option (AV×DRec×Option (Nat×AObj))):List AOper->List (List Nat)->Fr->Hp->List DRec->Option (Fr×Hp)
 |[],_,fr,h,_=>some (fr,h)
 |_::_,[],_,_,_=>none
 |o::r,u::us,fr,h,recs=>
  match ex o fr h with
  |some (v,d,wr)=>bif Zv d recs u&&Ya h wr then QH ex r us (ZB fr o.dst v) (ZH h wr) (recs++[d])else none
  |none=>none
mutual
def bel(n:Nat):AV->Bool
 | .agg cs=>Zd n cs
 | .tup cs=>Zd n cs
 | .ifc _ v=>bel n v
 | .clo _ first cap=>Zd n first&&Zd n cap
 | .ptr b _ _ _=>Nat.blt b n
 | .sl b _ _ _ _=>Nat.blt b n
 | .mp b=>Nat.blt b n
 | .it b=>Nat.blt b n
 | .yld b=>Nat.blt b n
 |_=>true
def Zd(n:Nat):List AV->Bool
 |[]=>true
 |v::r=>bel n v&&Zd n r
end
def Zj(n:Nat):AObj->Bool
 | .row _ es=>Zd n es
 | .map ks vs=>Zd n ks&&Zd n vs
 | .loop _ _ fr _ _ _=>Zd n (fr.map (·.2))
 |_=>true
def noP:List AV->Bool
 | .ptr ..::_=>false
 |_=>true
def ZE8(s:List AV->Nat->List AV->Option (List AV))(h:Hp):List AV->Option (AV×Option (Nat×AObj))
 | .sl b g off len ex::r=>
  match h[b]? with
  |some (.row sz es)=>bif es.length==g&&(off==0&&(len==g&&noP r))then(s r sz es).map λes'=>(.sl b g off len ex,some (b,.row sz es'))else none
  |_=>none
 | .isl bw ex sz []::r=>
  bif noP r then
   match s r sz []with
   |some []=>some (.isl bw ex sz [],none)
   |_=>none
  else none
 | .ptr b 0 0 1::r=>
  match h[b]?,h[b+1]?,h[b-1]? with
  |some (.row sz [e]),some<|.row sz2 es,some (.map ks vs)=>
   bif Z4 ks&&Z4 vs then
    match s (.ptr b 0 0 sz2::r) sz (e::es)with
    |some [e',v]=>some (v,some (b,.row sz [e']))
    |_=>none
   else none
  |_,_,_=>none
 |_=>none
def ZEZ:List AV->List Nat
 | .sl b _ _ _ _::_=>[b]
 | .ptr b _ _ _::_=>[b,b+1,b-1]
 |_=>[]
def ZEn(s:List AV->Nat->List AV->Option (List AV))(h:Hp)(args:List AV):Option (AV×DRec×Option (Nat×AObj)):=
 (ZE8 s h args).map λr=>(r.1,⟨false,ZEZ args,r.2.map (·.1),none⟩,r.2)
def X4(n:Nat):List AObj->Bool
 |[]=>true
 |o::r=>Zj n o&&X4 n r
def Xq(n:Nat)(fr:Fr)(h:Hp):Hp:=bif Zd n (fr.map (·.2))&&X4 n (h.take n)then h.take n else h
def Zw7:Nat->List AV->List (Nat×Nat)->List AV
 |_,cs,[]=>cs
 |b,cs,(o,_)::r=>Zw7 (b+1) (cs.set o<|.sl b 0 0 0 false) r
def Zvr(b:Nat)(ps:List<|Nat×Nat):AV->AV
 | .agg cs=>.agg<|Zw7 b cs ps
 |_=>.sl b 0 0 0 false
def ZE9(h:Hp)(sz bytes:Nat)(s x:AV):Option (AV×Hp):=
 match s with
 | .sl b g off len false=>
  match h[b]?,Q2 h x with
  |some (.row sz' es),some ys=>
   bif (es.length==g&&sz'==sz)&&((off+len==g)&&(Qq h sz x&&(ys.all (fits sz)&&(Nat.blt 0 ys.length&&(Nat.blt 0 sz&&(Nat.blt 0 bytes&&Nat.ble ((len+ys.length)*bytes) 140737488355328))))))
   then some (.sl h.length (len+ys.length) 0 (len+ys.length) false,setH h b .gone++[.row sz<|es.drop off++ys])else none
  |_,_=>none
 |_=>(Qt h h.length false sz bytes s x).map λr=>(r.1,ZH h r.2.2)
def Zvo(ps:List<|Nat×Nat):List AObj:=ps.map λp=>.row p.2 []
def ghW(d off s:Nat)(fr:Fr)(h:Hp):Option Hp:=
 match get fr d with
 | .ptr b 0 0 1=>
  match h[b]? with
  |some (.row sz [.agg cs])=>
   match cs[off]? with
   |some .nilsl=>bif Nat.blt 0 s then some (setH h b (.row sz [.agg<|cs.set off<|.sl h.length 0 0 0 false])++[.row s []])else none
   |_=>none
  |_=>none
 |_=>none
def ZvU(E:Env)(s d off:Nat)(p:Arg)(fr:Fr)(h:Hp):Option (AExit×Fr×Hp):=
 match Z8 E fr h h.length (.fadr off p)with
 |some (v,_,none)=>
  match Z8 E (put fr d v) (h++[.row s []]) (h.length+1) (.store 1 (.t d)<|.c<|.sl h.length 0 0 0 false)with
  |some r=>some (.normal,put fr d v,ZH (h++[.row s []]) r.2.2)
  |none=>none
 |_=>none
def WY:List Nat->List AV->Fr->Option Fr
 |[],[],fr=>some fr
 |p::ps,v::vs,fr=>WY ps vs<|put fr p v
 |_,_,_=>none
mutual
def Qz(E:Env):Nat->Nat->List AV->Hp->Option (AV×Hp)
 |0,_,_,_=>none
 |n+1,f,args,h=>
  match E.sum f with
  |some s=>s args h
  |none=>QX E n f args h
termination_by structural n=>n
def QX(E:Env):Nat->Nat->List AV->Hp->Option (AV×Hp)
 |0,_,_,_=>none
 |n+1,f,args,h=>
  match E.fn f with
  |none=>none
  |some fn=>
   match Ze E n fn.body (QP 0 args) h with
   |some (.normal,fr,h')=>(QO fr h' fn.res).map λv=>(v,h')
   |some (.ret,fr,h')=>(QO fr h' fn.res).map λv=>(v,h')
   |_=>none
termination_by structural n=>n
def Qm(E:Env):Nat->Bool->Nat->List AV->Hp->Option (AV×Hp)
 |0,_,_,_,_=>none
 |n+1,true,f,args,h=>
  match Ql h args with
  |some as=>
   match Qz E n f as []with
   |some (v,h')=>(YE h' v).map λv=>(v,h)
   |none=>none
  |none=>none
 |n+1,false,f,args,h=>Qz E n f args h
termination_by structural n=>n
def YG(E:Env):Nat->Nat->List AV->Hp->Option (AV×Hp)
 |0,_,_,_=>none
 |n+1,b,args,h=>
  match h[b]? with
  |some (.loop .ready .normal fr ps assign body)=>
   match WY ps args fr with
   |some fr0=>
    match Ze E n assign fr0 h with
    |some (.normal,fr1,h1)=>
     match h1[b]? with
     |some (.loop .ready .normal fr2 ps2 assign2 body2)=>
      match Ze E n body fr1 (setH h1 b<|.loop .busy .normal fr2 ps2 assign2 body2)with
      |some (e,_,h2)=>
       match h2[b]? with
       |some (.loop _ _ fr3 ps3 assign3 body3)=>
        match e with
        | .normal=>some (.bool true,setH h2 b<|.loop .ready .normal fr3 ps3 assign3 body3)
        |e=>some (.bool false,setH h2 b<|.loop .done e fr3 ps3 assign3 body3)
       |_=>none
      |none=>none
     |_=>none
    |_=>none
   |none=>none
  |_=>none
termination_by structural n=>n
def QQ(E:Env):Nat->Bool->AV->List AV->Hp->Option (AV×Hp)
 |0,_,_,_,_=>none
 |n+1,p,f,args,h=>
  match f with
  | .clo (.func g) first cap=>Qm E n p g (first++args++cap) h
  | .yld b=>bif p then none else YG E n b args h
  |_=>none
termination_by structural n=>n
def Q5(E:Env):Nat->AOper->Fr->Hp->Option (Fr×Hp)
 |0,_,_,_=>none
 |n+1,o,fr,h=>
  match ZJ fr o.guard with
  |none=>none
  |some false=>some (ZB fr o.dst<|.tup [],h)
  |some true=>
   match o.op with
   | .call p f args=>(Qm E n p f (args.map<|ev E fr) h).map λr=>(ZB fr o.dst r.1,r.2)
   | .callv p x args=>(QQ E n p (ev E fr x) (args.map<|ev E fr) h).map λr=>(ZB fr o.dst r.1,r.2)
   | .apa sz bytes s x=>(ZE9 h sz bytes (ev E fr s)<|ev E fr x).map λr=>(ZB fr o.dst r.1,r.2)
   |op=>(Z8 E fr h h.length op).map λr=>(ZB fr o.dst r.1,ZH h r.2.2)
termination_by structural n=>n
def ZS(E:Env):Nat->List AOper->Fr->Hp->Option (Fr×Hp)
 |0,_,_,_=>none
 |_+1,[],fr,h=>some (fr,h)
 |n+1,o::r,fr,h=>
  match Q5 E n o fr h with
  |some (fr,h)=>ZS E n r fr h
  |none=>none
termination_by structural n=>n
def Zk(E:Env):Nat->AOper->Fr->Hp->Option (AV×DRec×Option (Nat×AObj))
 |0,_,_,_=>none
 |n+1,o,fr,h=>
  match ZJ fr o.guard with
  |none=>none
  |some false=>some (.tup [],⟨false,[],none,none⟩,none)
  |some true=>
   match o.op with
   | .call p f args=>
    bif p then
     match Qm E n true f (args.map<|ev E fr) h with
     |some (v,_)=>some (v,ZOd h<|args.map<|ev E fr,none)
     |none=>none
    else
     match E.rs f with
     |some s=>ZEn s h<|args.map<|ev E fr
     |none=>none
   | .callv p x args=>
    bif p then
     match ev E fr x with
     | .clo (.func g) first cap=>
      match Qm E n true g (first++args.map (ev E fr)++cap) h with
      |some (v,_)=>some (v,⟨!Zi (first++args.map (ev E fr)++cap),[],none,none⟩,none)
      |none=>none
     |_=>none
    else none
   |op=>(Z8 E (Z2 op.slots fr) h h.length op).map λr=>(r.1,QG E (Z2 op.slots fr) h op r.2.2,r.2.2)
termination_by structural n=>n
def Ze(E:Env):Nat->ACode->Fr->Hp->Option (AExit×Fr×Hp)
 |0,_,_,_=>none
 |n+1,c,fr,h=>
  match c with
  | .skip=>some (.normal,fr,h)
  | .region ops=>(ZS E n ops fr h).map λr=>(.normal,r.1,r.2)
  | .draw un p1 p2=>
   match QH (λo fr h=>Zk E n o fr h) p1 un fr h []with
   |some (fr,h)=>(ZS E n p2 fr h).map λr=>(.normal,r.1,r.2)
   |none=>none
  | .seq a b=>
   match Ze E n a fr h with
   |some (.normal,fr,h)=>Ze E n b fr h
   |r=>r
  | .cond x a b=>
   match ev E fr x with
   | .bool true=>Ze E n a fr h
   | .bool false=>Ze E n b fr h
   |_=>none
  | .block id b=>
   match Ze E n b fr h with
   |some (.exit i,fr,h)=>bif i==id then some (.normal,fr,h)else some (.exit i,fr,h)
   |r=>r
  | .loop live b=>
   match Ze E n b (Z2 live fr) h with
   |some (.normal,fr,h)=>Ze E n (.loop live b) fr h
   |r=>r
  | .rangeFunc f ps assign body=>
   match ev E fr f with
   | .clo (.func g) first cap=>
    match QX E n g (first++[.yld h.length]++cap) (h++[.loop .ready .normal fr ps assign body])with
    |some (_,h')=>
     match h'[h.length]? with
     |some (.loop .busy _ _ _ _ _)=>none
     |some (.loop _ pend fr' ps assign body)=>some (pend,fr,setH h' h.length<|.loop .exhausted pend fr' ps assign body)
     |_=>none
    |none=>none
   |_=>none
  | .keep live b=>
   match Ze E n b fr h with
   |some (e,fr',h')=>some (e,Z2 live fr',Xq h.length (Z2 live fr') h')
   |none=>none
  | .zbox d sz z ps=>bif fits sz (Zvr h.length ps z)then some (.normal,put fr d<|.ptr (h.length+ps.length) 0 0 1,h++Zvo ps++[.row sz [Zvr h.length ps z]])else none
  | .nils s d off p=>ZvU E s d off p fr h
  | .ghost d off s b=>
   match Ze E n b fr h with
   |some (.normal,fr',h')=>(ghW d off s fr' h').map λh2=>(.normal,fr',h2)
   |_=>none
  | .exit id=>some (.exit id,fr,h)
  | .ret=>some (.ret,fr,h)
  | .bad=>none
termination_by structural n=>n
end
def Zzb{h:Hp}{b:Nat}(o o':AObj)(hb:b<=h.length):setH (setH h b o) b o'=setH h b o'/\(setH h b o)[b]?=some o:=by
 unfold setH;rcases Nat.lt_or_eq_of_le hb with c|c
 .have e:Nat.blt b h.length=true:=by simpa using c
  rw[e,cond_true,cond_true,ZXc,e,cond_true];exact⟨by rw[ZXY],by simp[c]⟩
 .subst c;have e:Nat.blt h.length h.length=false:=by rw[ZY5];intro hh;simp at hh
  have e2:Nat.blt h.length (h++[o]).length=true:=by simp
  rw[e,cond_false,cond_false,e2,cond_true];exact⟨by rw[List.set_append_right _ _<|ZX0 _];simp,by simp⟩
def ZwA{aid sz:Nat}{fz:Bool}{all:List AV}{rs:List Nat}{r:Zt}(he:Yp aid fz sz all rs=some r):∀b o,r.2.2=some (b,o)->b=aid:=by
 unfold Yp at he;cases fz with
 |true=>
  cases hc:Z4 all with
  |true=>rw[hc]at he;cases he;intro b o hh;cases hh
  |false=>rw[hc]at he;cases he
 |false=>cases he;intro b o hh;cases hh;rfl
def ZxP{aid sz bytes:Nat}{fz:Bool}{s x:AV}{r:Zt}{h:Hp}(hid:aid<=h.length)(he:Qt h aid fz sz bytes s x=some r):∀b o,r.2.2=some (b,o)->b<=h.length:=by
 intro b o hh;unfold Qt at he;split at he
 .split at he
  .rename_i es ys _ _ _;cases hy:ys.isEmpty with
   |true=>rw[hy]at he;cases he;cases hh
   |false=>
    rw[hy,cond_false]at he;split at he
    .rw[ZwA he b o hh];exact hid
    .rw[ZwA he b o hh];exact hid
    .rw[ZwA he b o hh];exact hid
    .split at he
     .rename_i hb;simp only[cond]at he;split at he
      .cases he;cases hh;exact ZXU (ZXg.1 hb).1
      .cases he
     .cases he
    .cases he
  .cases he
 .cases he
def Zzc{h:Hp}{aid sz bytes:Nat}{s x v:AV}{rs:List Nat}(he:Qt h aid false sz bytes s x=some (v,rs,none)):v=s:=by
 unfold Qt at he;split at he
 .split at he
  .rename_i es ys _ _ _;cases hy:ys.isEmpty with
   |true=>rw[hy]at he;cases he;rfl
   |false=>
    rw[hy,cond_false]at he;split at he
    .cases he
    .cases he
    .cases he
    .split at he
     .simp only[cond]at he;split at he
      .cases he
      .cases he
     .cases he
    .cases he
  .cases he
 .cases he
def Zzd{h:Hp}{r res:Zt}(hw:∀b o,r.2.2=some (b,o)->b<=h.length)(he:ZvE h r=some res):∀b o,res.2.2=some (b,o)->b<=h.length:=by
 intro b o hh;unfold ZvE at he;split at he
 .next b1 g off len ex rs' b' sz es=>
  simp only[cond]at he;split at he
  .rename_i hc;cases he;cases hh;simp only[ZWT,beq_iff_eq]at hc;exact hw b (.row sz es)<|by rw[hc.1]
  .cases he
 .next b1 g off len ex rs'=>
  split at he
  .next sz es hb=>
   simp only[cond]at he;split at he
   .cases he;cases hh;exact ZXU (ZXg.1 hb).1
   .cases he
  .cases he
 .cases he;cases hh
 .cases he
def XS:TC->TC->Prop
 | .row sz g r C B,.row sz' g' r' C' B'=>sz=sz'/\((g'=g/\r'=r/\C'=C/\B'=B)\/g<g')
 | .map r,.map r'=>r=r'
 | .iter r,.iter r'=>r=r'
 | .loop r,.loop r'=>r=r'
 |_,_=>False
def XS.refl(c:TC):XS c c:=by cases c<;>simp[XS]
def XS.trans{a b c:TC}(h:XS a b)(k:XS b c):XS a c:=by
 cases a with
 |map r=>
  cases b with
  |map r'=>cases h;exact k
  |_=>exact h.elim
 |iter r=>
  cases b with
  |iter r'=>cases h;exact k
  |_=>exact h.elim
 |loop r=>
  cases b with
  |loop r'=>cases h;exact k
  |_=>exact h.elim
 |row sz g r C B=>
  cases b with
  |map _=>exact h.elim
  |iter _=>exact h.elim
  |loop _=>exact h.elim
  |row sz' g' r' C' B'=>
   cases c with
   |map _=>exact k.elim
   |iter _=>exact k.elim
   |loop _=>exact k.elim
   |row sz2 g2 r2 C2 B2=>
    obtain⟨e1,h⟩:=h;obtain⟨e2,k⟩:=k;refine⟨e1.trans e2,?_⟩;rcases h with⟨rfl,rfl,rfl,rfl⟩|h
    .exact k
    .rcases k with⟨rfl,rfl,rfl,rfl⟩|k
     .exact .inr h
     .exact .inr<|by omega
class Dr where
 d:Prop
variable [Dr]
structure Step(T:Ty)(w:World)(T':Ty)(w':World):Prop where
 os:w'.os=w.os
 tape:w'.tape=w.tape
 output:w'.output=w.output
 size:w.heap.size<=w'.heap.size
 le:∀b c,T b=some c->∃c',T' b=some c'/\XS c c'
 keep:∀b,b<w.heap.size->¬T.rng b->w'.heap[b]?=w.heap[b]?
 rng:∀b,T'.rng b->T.rng b\/w.heap.size<=b
 drawn:Dr.d->w.drawn<=w'.drawn
def Step.refl(T:Ty)(w:World):Step T w T w:=
 ⟨rfl,rfl,rfl,ZX0 _,λ_ c h=>⟨c,h,.refl c⟩,λ_ _ _=>rfl,λ_ h=>.inl h,λ_=>ZX0 _⟩
def Step.trans{T T' T'':Ty}{w w' w'':World}(h:Step T w T' w')(k:Step T' w' T'' w''):Step T w T'' w'' where
 os:=k.os.trans h.os
 tape:=k.tape.trans h.tape
 output:=k.output.trans h.output
 size:=ZXG h.size k.size
 le b c hb:=by
  obtain⟨c',h1,h2⟩:=h.le b c hb;obtain⟨c'',h3,h4⟩:=k.le b c' h1;exact⟨c'',h3,h2.trans h4⟩
 keep b hb hr:=by
  rw[k.keep b (ZY3 hb h.size)<|λhr'=>(h.rng b hr').elim hr (by omega),h.keep b hb hr]
 rng b hb:=by
  rcases k.rng b hb with h1|h1
  .rcases h.rng b h1 with h2|h2
   .exact .inl h2
   .exact .inr h2
  .exact .inr<|ZXG h.size h1
 drawn d:=ZXG (h.drawn d)<|k.drawn d
def Step.drew{T T':Ty}{w w':World}(h:Step T w T' w')(k:Nat)(hk:Dr.d->w.drawn<=k):Step T w T' {w' with drawn:=k}:=
 ⟨h.os,h.tape,h.output,h.size,h.le,h.keep,h.rng,hk⟩
def at_eq{w w':World}{r o:Nat}(h:w'.heap[r]?=w.heap[r]?):World.at w' r o=World.at w r o:=by
 simp only[World.at,World.cell?,h]
structure Stp(T:Ty)(w:World)(T':Ty)(w':World):Prop where
 size:w.heap.size<=w'.heap.size
 le:∀b c,T b=some c->∃c',T' b=some c'/\XS c c'
 cell:∀b,b<w.heap.size->¬T.rng b->∀o,World.at w' b o=World.at w b o
 map:∀b es c,b<w.heap.size->¬T.rng b->w.heap[b]?=some (.map es c)->w'.heap[b]?=some (.map es c)
 rng:∀b,T'.rng b->T.rng b\/w.heap.size<=b
def Step.stp{T T':Ty}{w w':World}(st:Step T w T' w'):Stp T w T' w':=
 ⟨st.size,st.le,λb hb hr o=>at_eq<|st.keep b hb hr,λb _ _ hb hr h=>(st.keep b hb hr).trans h,st.rng⟩
mutual
def Kq{T T':Ty}{X:Xt}{w w':World}(st:Stp T w T' w'):(a:AV)->(v:Value)->R T X w a v->R T' X w' a v
 | .bot,_,_=>trivial
 | .bool _,_,h=>h
 | .int _ _,_,h=>h
 | .str _,_,h=>h
 | .nilp,_,h=>h
 | .nilsl,_,h=>h
 | .nilmap,_,h=>h
 | .nilfn,_,h=>h
 | .nilif,_,h=>h
 | .agg cs,v,h=>by
  obtain⟨vs,rfl,h⟩:=h;exact⟨vs,rfl,XT st cs _ h⟩
 | .tup cs,v,h=>by
  obtain⟨vs,rfl,h⟩:=h;exact⟨vs,rfl,XT st cs _ h⟩
 | .iptr bw cs,v,h=>by
  obtain⟨r,o,rfl,h1,h2,h3,h4,h5⟩:=h;exact⟨r,o,rfl,λhr=>(st.rng r hr).elim h1 (by omega),h2,h3,ZY3 h4 st.size,US st r (st.cell r h4 h1) cs o h5⟩
 | .isl bw ex sz es,v,h=>by
  obtain⟨a,len,cap,rfl,h1,h2,h3,h4,h5⟩:=h;refine⟨a,len,cap,rfl,h1,h2,h3,h4,?_⟩;rcases h5 with h5|⟨r,o,h6,h7,h8,h9,h10⟩
  .exact .inl h5
  .exact .inr ⟨r,o,h6,λhr=>(st.rng r hr).elim h7 (by omega),h8,ZY3 h9 st.size,JP st sz r (st.cell r h9 h7) es o h10⟩
 | .imap bw ks vs,v,h=>by
  obtain⟨r,es,clock,l,rfl,h1,h2,h3,h4,hnd,h5,h6,h7⟩:=h;have hlt:r<w.heap.size:=(ZXN.1 h4.1).1;exact⟨r,es,clock,l,rfl,λhr=>(st.rng r hr).elim h1 (by omega),h2,h3,⟨st.map r _ _ hlt h1 h4.1,h4.2⟩,hnd,h5,XT st ks _ h6,XT st vs _ h7⟩
 | .ifc t x,v,h=>by
  obtain⟨u,rfl,h⟩:=h;exact⟨u,rfl,Kq st x u h⟩
 | .clo fn first cap,v,h=>by
  obtain⟨f,c,rfl,h1,h2⟩:=h;exact⟨f,c,rfl,XT st first _ h1,XT st cap _ h2⟩
 | .ptr b i off g,v,h=>by
  obtain⟨hk,sz,g',r,C,B,hT,hg,hv⟩:=h;obtain⟨c',hT',hle⟩:=st.le b _ hT;cases c' with
  |map _=>exact hle.elim
  |iter _=>exact hle.elim
  |loop _=>exact hle.elim
  |row sz2 g2 r2 C2 B2=>
   obtain⟨rfl,hle⟩:=hle;rcases hle with⟨rfl,rfl,rfl,rfl⟩|hle
   .exact⟨hk,_,_,_,_,_,hT',hg,hv⟩
   .exact⟨hk,_,_,_,_,_,hT',by omega,λe=>by omega⟩
 | .sl b g off len ex,v,h=>by
  obtain⟨hk,sz,g',r,C,B,hT,hg,hl,hv⟩:=h;obtain⟨c',hT',hle⟩:=st.le b _ hT;cases c' with
  |map _=>exact hle.elim
  |iter _=>exact hle.elim
  |loop _=>exact hle.elim
  |row sz2 g2 r2 C2 B2=>
   obtain⟨rfl,hle⟩:=hle;rcases hle with⟨rfl,rfl,rfl,rfl⟩|hle
   .exact⟨hk,_,_,_,_,_,hT',hg,hl,hv⟩
   .exact⟨hk,_,_,_,_,_,hT',by omega,hl,λe=>by omega⟩
 | .mp b,v,h=>by
  obtain⟨r,hT,rfl⟩:=h;obtain⟨c',hT',hle⟩:=st.le b _ hT;cases c' with
  |map r'=>exact⟨r,by rw[hT',show r=r' from hle],rfl⟩
  |iter _=>exact hle.elim
  |loop _=>exact hle.elim
  |row _ _ _ _ _=>exact hle.elim
 | .it b,v,h=>by
  obtain⟨r,hT,rfl⟩:=h;obtain⟨c',hT',hle⟩:=st.le b _ hT;cases c' with
  |map r'=>exact hle.elim
  |iter r'=>exact⟨r,by rw[hT',show r=r' from hle],rfl⟩
  |loop _=>exact hle.elim
  |row _ _ _ _ _=>exact hle.elim
 | .yld b,v,h=>by
  obtain⟨r,hT,rfl⟩:=h;obtain⟨c',hT',hle⟩:=st.le b _ hT;cases c' with
  |map r'=>exact hle.elim
  |iter _=>exact hle.elim
  |loop r'=>exact⟨r,by rw[hT',show r=r' from hle],rfl⟩
  |row _ _ _ _ _=>exact hle.elim
def XT{T T':Ty}{X:Xt}{w w':World}(st:Stp T w T' w'):(as:List AV)->(vs:List Value)->Rs T X w as vs->Rs T' X w' as vs
 |[],_,h=>h
 |a::as,vs,h=>by
  obtain⟨v,vr,rfl,h1,h2⟩:=h;exact⟨v,vr,rfl,Kq st a v h1,XT st as vr h2⟩
def US{T T':Ty}{X:Xt}{w w':World}(st:Stp T w T' w')(r:Nat)(hk:∀o,World.at w' r o=World.at w r o):(as:List AV)->(o:Nat)->ZV T X w r as o->ZV T' X w' r as o
 |[],_,_=>trivial
 |a::as,o,h=>by
  obtain⟨⟨v,h1,h2⟩,h3⟩:=h;exact⟨⟨v,(hk _).trans h1,Kq st a v h2⟩,US st r hk as (o+1) h3⟩
def JP{T T':Ty}{X:Xt}{w w':World}(st:Stp T w T' w')(sz r:Nat)(hk:∀o,World.at w' r o=World.at w r o):(as:List AV)->(o:Nat)->ZA T X w sz r as o->ZA T' X w' sz r as o
 |[],_,_=>trivial
 |a::as,o,h=>by
  cases a with
  |agg cs=>
   obtain⟨h1,h2,h3⟩:=h;exact⟨h1,US st r hk cs o h2,JP st sz r hk as (o+sz) h3⟩
  |_=>
   obtain⟨h1,⟨v,h2,h3⟩,h4⟩:=h;exact⟨h1,⟨v,(hk _).trans h2,Kq st _ v h3⟩,JP st sz r hk as (o+sz) h4⟩
end
def HR{T T':Ty}{X:Xt}{w w':World}(st:Step T w T' w')(a:AV)(v:Value)(h:R T X w a v):R T' X w' a v:=Kq st.stp a v h
def Yb{T T':Ty}{X:Xt}{w w':World}(st:Step T w T' w')(as:List AV)(vs:List Value)(h:Rs T X w as vs):Rs T' X w' as vs:=XT st.stp as vs h
def HS{T T':Ty}{X:Xt}{w w':World}(st:Step T w T' w')(sz r:Nat)(hk:w'.heap[r]?=w.heap[r]?)(as:List AV)(o:Nat)(h:ZA T X w sz r as o):ZA T' X w' sz r as o:=JP st.stp sz r (λ_=>at_eq hk) as o h
end Go.AM
namespace Go.AM
open Go
variable [Dr]
def FrR(T:Ty)(X:Xt)(w:World)(fr:Fr)(tmps:Array Value):Prop:=∀t,R T X w (get fr t)<|tmps.getD t undef
def XU:AExit->Option Code
 | .normal=>none
 | .exit id=>some<|.exit id
 | .ret=>some .ret
def Wn(T:Ty)(w:World)(D:Nat):Prop:=D<w.heap.size/\¬T.rng D/\w.heap[D]?=some (.deferred<|some [])
def Md{T T':Ty}{w w':World}(st:Step T w T' w'){D:Nat}(hd:Wn T w D):Wn T' w' D:=
 ⟨ZY3 hd.1 st.size,λhr=>(st.rng D hr).elim hd.2.1 (λhh=>by have:=hd.1;omega),(st.keep D hd.1 hd.2.1).trans hd.2.2⟩
def Me{T T':Ty}{X:Xt}{w w':World}(st:Stp T w T' w'){fr:Fr}{tmps:Array Value}(hf:FrR T X w fr tmps):FrR T' X w' fr tmps:=λt=>Kq st _ _<|hf t
def Kr{T T':Ty}{X:Xt}{w w':World}(st:Step T w T' w'){fr:Fr}{tmps:Array Value}(hf:FrR T X w fr tmps):FrR T' X w' fr tmps:=λt=>HR st _ _<|hf t
def YR(T:Ty)(X:Xt)(w:World):Option AObj->Option TC->Prop
 |none,none=>True
 |some .dead,none=>True
 |some .gone,some (.row _ _ none _ _)=>True
 |some (.row sz es),some (.row sz' g r C B)=>sz=sz'/\es.length=g/\0<sz/\B+g<=C/\
  (match r with
   |none=>C=0
   |some r=>∃cs el,w.heap[r]?=some (.cells cs el (0,0))/\cs.size=C*sz/\ZA T X w sz r es (B*sz))
 |some (.map ks vs),some (.map r)=>∃es clock l,Zpj w r es clock/\ks.Nodup/\List.Perm l es.toList/\Rs T X w ks (l.map (·.key))/\Rs T X w vs (l.map (·.val))
 |some (.iter s pos),some (.iter r)=>w.heap[r]?=some (.stringIter s pos)
 |some (.loop st pend fr ps as bd),some (.loop r)=>∃L:Loop,w.heap[r]?=some (.loop L)/\L.state=st/\L.pending=XU pend/\L.params.toList=ps/\FrR T X w fr L.tmps/\
  X.cr L.tmps.size L.assign as/\X.cr L.tmps.size L.body bd/\∀p∈ps,p<L.tmps.size
 |_,_=>False
structure M(T:Ty)(X:Xt)(h:Hp)(w:World):Prop where
 inj:∀b c b' c' r,T b=some c->T b'=some c'->c.real=some r->c'.real=some r->b=b'
 lt:∀r,T.rng r->r<w.heap.size
 notX:∀r,T.rng r->¬X r
 obj:∀b,YR T X w h[b]?<|T b
def Mf{T T':Ty}{X:Xt}{w w':World}(st:Stp T w T' w')(o:Option AObj)(c:Option TC)
 (hk:∀t r,c=some t->t.real=some r->w'.heap[r]?=w.heap[r]?) (h:YR T X w o c):YR T' X w' o c:=by
 cases o with
 |none=>cases c<;>exact h
 |some o=>
  cases o with
  |dead=>cases c<;>exact h
  |gone=>
   cases c with
   |none=>exact h
   |some c=>
    cases c with
    |row _ _ r _ _=>cases r<;>exact h
    |map _=>exact h
    |iter _=>exact h
    |loop _=>exact h
  |row sz es=>
   cases c with
   |none=>exact h
   |some c=>
    cases c with
    |map _=>exact h
    |iter _=>exact h
    |loop _=>exact h
    |row sz' g r C B=>
     obtain⟨rfl,h1,h2,h3,h4⟩:=h;refine⟨rfl,h1,h2,h3,?_⟩;cases r with
     |none=>exact h4
     |some r=>
      obtain⟨cs,el,h5,h6,h7⟩:=h4;have hr:=hk _ r rfl rfl;exact⟨cs,el,hr.trans h5,h6,JP st _ r (λ_=>at_eq hr) es (B*sz) h7⟩
  |map ks vs=>
   cases c with
   |none=>exact h
   |some c=>
    cases c with
    |row _ _ _ _ _=>exact h
    |iter _=>exact h
    |loop _=>exact h
    |map r=>
     obtain⟨es,clock,l,h1,hnd,h2,h3,h4⟩:=h;exact⟨es,clock,l,⟨(hk _ r rfl rfl).trans h1.1,h1.2⟩,hnd,h2,XT st ks _ h3,XT st vs _ h4⟩
  |iter s pos=>
   cases c with
   |none=>exact h
   |some c=>
    cases c with
    |row _ _ _ _ _=>exact h
    |map _=>exact h
    |loop _=>exact h
    |iter r=>exact(hk _ r rfl rfl).trans h
  |loop lst pend fr ps as bd=>
   cases c with
   |none=>exact h
   |some c=>
    cases c with
    |row _ _ _ _ _=>exact h
    |map _=>exact h
    |iter _=>exact h
    |loop r=>
     obtain⟨L,h1,h2,h3,h4,h5,h6,h7,h8⟩:=h;exact⟨L,(hk _ r rfl rfl).trans h1,h2,h3,h4,Me st h5,h6,h7,h8⟩
def Mg{T T':Ty}{X:Xt}{w w':World}(st:Step T w T' w')(o:Option AObj)(c:Option TC)
 (hk:∀t r,c=some t->t.real=some r->w'.heap[r]?=w.heap[r]?) (h:YR T X w o c):YR T' X w' o c:=Mf st.stp o c hk h
def Xr{T:Ty}{X:Xt}{h:Hp}{w w':World}(m:M T X h w)(st:Step T w T w')(hk:∀r,T.rng r->w'.heap[r]?=w.heap[r]?):M T X h w' where
 inj:=m.inj
 lt r hr:=ZY3 (m.lt r hr) st.size
 notX:=m.notX
 obj b:=Mg st _ _ (λt r ht hr=>hk r ⟨b,t,ht,hr⟩)<|m.obj b
def upd(T:Ty)(b:Nat)(c:TC):Ty:=λx=>if x=b then some c else T x
def upd_same(T:Ty)(b:Nat)(c:TC):upd T b c b=some c:=by simp[upd]
def upd_ne(T:Ty){b x:Nat}(c:TC)(h:x≠b):upd T b c x=T x:=by simp[upd,h]
def Ks(h:Hp)(b:Nat)(o:AObj)(hb:b<=h.length)(x:Nat):(setH h b o)[x]?=if x=b then some o else h[x]?:=by
 unfold setH;by_cases hlt:b<h.length
 .have:Nat.blt b h.length=true:=by simpa using hlt
  simp only[this,cond_true];rw[List.getElem?_set];by_cases hx:b=x
  .subst hx;simp[hlt]
  .have hx':¬x=b:=λe=>hx e.symm
   rw[if_neg hx,if_neg hx']
 .have e:b=h.length:=by omega
  subst e;have:Nat.blt h.length h.length=false:=by rw[ZY5];intro hh;simp at hh
  simp only[this,cond_false];by_cases hx:x=h.length
  .subst hx;simp
  .rw[if_neg hx];by_cases hlx:x<h.length
   .rw[ZXK hlx]
   .rw[ZXQ (by simp;omega),ZXQ<|by omega]
def WZ{T:Ty}{X:Xt}{h:Hp}{w w':World}(m:M T X h w)(b:Nat)(o:AObj)(c:TC)(hb:b<=h.length)
 (st:Step T w (upd T b c) w')
 (hoth:∀b' c' r',b'≠b->T b'=some c'->c'.real=some r'->w'.heap[r']?=w.heap[r']?)
 (hreal:∀r,c.real=some r->r<w'.heap.size/\¬X r/\∀b' c',b'≠b->T b'=some c'->c'.real≠some r)
 (hobj:YR (upd T b c) X w' (some o)<|some c):M (upd T b c) X (setH h b o) w' where
 inj b1 c1 b2 c2 r h1 h2 h3 h4:=by
  by_cases e1:b1=b<;>by_cases e2:b2=b
  .omega
  .subst e1;rw[upd_same]at h1;cases h1;rw[upd_ne _ _ e2]at h2;exact((hreal r h3).2.2 b2 c2 e2 h2 h4).elim
  .subst e2;rw[upd_same]at h2;cases h2;rw[upd_ne _ _ e1]at h1;exact((hreal r h4).2.2 b1 c1 e1 h1 h3).elim
  .rw[upd_ne _ _ e1]at h1;rw[upd_ne _ _ e2]at h2;exact m.inj b1 c1 b2 c2 r h1 h2 h3 h4
 lt r hr:=by
  obtain⟨b',c',hT,hr⟩:=hr;by_cases e:b'=b
  .subst e;rw[upd_same]at hT;cases hT;exact(hreal r hr).1
  .rw[upd_ne _ _ e]at hT;exact ZY3 (m.lt r ⟨b',c',hT,hr⟩) st.size
 notX r hr:=by
  obtain⟨b',c',hT,hr⟩:=hr;by_cases e:b'=b
  .subst e;rw[upd_same]at hT;cases hT;exact(hreal r hr).2.1
  .rw[upd_ne _ _ e]at hT;exact m.notX r ⟨b',c',hT,hr⟩
 obj x:=by
  rw[Ks h b o hb x];by_cases e:x=b
  .subst e;rw[if_pos rfl,upd_same];exact hobj
  .rw[if_neg e,upd_ne _ _ e];exact Mg st _ _ (λt r ht hr=>hoth x t r e ht hr)<|m.obj x
def alloc_old(w:World)(o:Obj){k:Nat}(h:k<w.heap.size):(w.alloc o).heap[k]?=w.heap[k]?:=RowKit.Below.heap_alloc w o k h
def Wo(w:World)(o:Obj):(w.alloc o).heap[w.heap.size]?=some o:=by show(w.heap.push o)[w.heap.size]?=some o;simp
def VD(T:Ty)(w:World)(ro:Obj)(b:Nat)(c:TC)(hT:T b=none)(hc:∀r,c.real=some r->r=w.heap.size):Step T w (upd T b c) (w.alloc ro) where
 os:=rfl
 tape:=rfl
 output:=rfl
 size:=by rw[World.size_alloc];omega
 le x c' hx:=⟨c',by rw[upd_ne _ _<|by rintro rfl;rw[hT]at hx;cases hx];exact hx,.refl _⟩
 keep x hx _:=alloc_old w ro hx
 rng x hx:=by
  obtain⟨b',c',h1,h2⟩:=hx;by_cases e:b'=b
  .subst e;rw[upd_same]at h1;cases h1;exact .inr<|by rw[hc x h2];omega
  .rw[upd_ne _ _ e]at h1;exact .inl ⟨b',c',h1,h2⟩
 drawn _:=ZX0 _
def UT(T:Ty)(w:World)(ro:Obj):Step T w T (w.alloc ro) where
 os:=rfl
 tape:=rfl
 output:=rfl
 size:=by rw[World.size_alloc];omega
 le x c' hx:=⟨c',hx,.refl _⟩
 keep x hx _:=alloc_old w ro hx
 rng x hx:=.inl hx
 drawn _:=ZX0 _
def JQ{T:Ty}{X:Xt}{h:Hp}{w:World}(m:M T X h w)(hX:∀r,X r->r<w.heap.size)(b:Nat)(o:AObj)(c:TC)(ro:Obj)(hb:b<=h.length)(hT:T b=none)
 (hc:∀r,c.real=some r->r=w.heap.size) (hobj:YR (upd T b c) X (w.alloc ro) (some o)<|some c):M (upd T b c) X (setH h b o) (w.alloc ro):=
 WZ m b o c hb (VD T w ro b c hT hc)
  (λb' c' r' _ h1 h2=>alloc_old w ro<|m.lt r' ⟨b',c',h1,h2⟩)
  (λr hr=>by
   have:=hc r hr;subst this;exact⟨by rw[World.size_alloc];omega,λhx=>by have:=hX _ hx;omega,λb' c' _ h1 h2=>by have:=m.lt _ ⟨b',c',h1,h2⟩;omega⟩)
  hobj
def JR{T:Ty}{X:Xt}{h:Hp}{w:World}(m:M T X h w){b:Nat}(hb:h[b]?=none\/h[b]?=some .dead):T b=none:=by
 have:=m.obj b;rcases hb with hb|hb<;>rw[hb]at this<;>cases hT:T b with
 |none=>rfl
 |some c=>rw[hT]at this;exact this.elim
def XV{T:Ty}{X:Xt}{h:Hp}{w:World}(m:M T X h w){b sz:Nat}{es:List AV}(hb:h[b]?=some (.row sz es)):
 ∃r C B,T b=some (.row sz es.length r C B)/\0<sz/\B+es.length<=C/\(match r with
  |none=>C=0
  |some r=>∃cs el,w.heap[r]?=some (.cells cs el (0,0))/\cs.size=C*sz/\ZA T X w sz r es (B*sz)):=by
 have:=m.obj b;rw[hb]at this;cases hT:T b with
 |none=>rw[hT]at this;exact this.elim
 |some c=>
  rw[hT]at this;cases c with
  |map _=>exact this.elim
  |iter _=>exact this.elim
  |loop _=>exact this.elim
  |row sz' g r C B=>
   obtain⟨rfl,rfl,h1,h2,h3⟩:=this;exact⟨r,C,B,rfl,h1,h2,h3⟩
def JS{T:Ty}{X:Xt}{h:Hp}{w:World}(m:M T X h w){b:Nat}{ks vs:List AV}(hb:h[b]?=some (.map ks vs)):
 ∃r es clock l,T b=some (.map r)/\Zpj w r es clock/\ks.Nodup/\List.Perm l es.toList/\Rs T X w ks (l.map (·.key))/\Rs T X w vs (l.map (·.val)):=by
 have:=m.obj b;rw[hb]at this;cases hT:T b with
 |none=>rw[hT]at this;exact this.elim
 |some c=>
  rw[hT]at this;cases c with
  |row _ _ _ _ _=>exact this.elim
  |iter _=>exact this.elim
  |loop _=>exact this.elim
  |map r=>
   obtain⟨es,clock,l,h1⟩:=this;exact⟨r,es,clock,l,rfl,h1⟩
def Ce{T:Ty}{X:Xt}{h:Hp}{w:World}(m:M T X h w){b:Nat}{s:ByteArray}{pos:Nat}(hb:h[b]?=some (.iter s pos)):
 ∃r,T b=some (.iter r)/\w.heap[r]?=some (.stringIter s pos):=by
 have:=m.obj b;rw[hb]at this;cases hT:T b with
 |none=>rw[hT]at this;exact this.elim
 |some c=>
  rw[hT]at this;cases c with
  |row _ _ _ _ _=>exact this.elim
  |map _=>exact this.elim
  |loop _=>exact this.elim
  |iter r=>exact⟨r,rfl,this⟩
def Cf{T:Ty}{X:Xt}{h:Hp}{w:World}(m:M T X h w){b:Nat}{lst:LoopState}{pend:AExit}{fr:Fr}{ps:List Nat}{as bd:ACode}(hb:h[b]?=some (.loop lst pend fr ps as bd)):
 ∃r,T b=some (.loop r)/\∃L:Loop,w.heap[r]?=some (.loop L)/\L.state=lst/\L.pending=XU pend/\L.params.toList=ps/\FrR T X w fr L.tmps/\
  X.cr L.tmps.size L.assign as/\X.cr L.tmps.size L.body bd/\∀p∈ps,p<L.tmps.size:=by
 have:=m.obj b;rw[hb]at this;cases hT:T b with
 |none=>rw[hT]at this;exact this.elim
 |some c=>
  rw[hT]at this;cases c with
  |row _ _ _ _ _=>exact this.elim
  |map _=>exact this.elim
  |iter _=>exact this.elim
  |loop r=>exact⟨r,rfl,this⟩
variable {P:Program} {E:Env} {T:Ty} {X:Xt} {w:World}
def Qr:∀{as:List AV}{vs:List Value},Rs T X w as vs->as.length=vs.length
 |[],vs,h=>by rw[show vs=[]from h];rfl
 |a::as,vs,h=>by
  obtain⟨v,vr,rfl,_,h2⟩:=h;simp[Qr h2]
def Wp:∀{as:List AV}{vs:List Value}(i:Nat){a:AV},Rs T X w as vs->as[i]?=some a->∃v,vs[i]?=some v/\R T X w a v
 |[],_,i,a,_,h=>by simp at h
 |b::as,vs,i,a,h,hi=>by
  obtain⟨v,vr,rfl,h1,h2⟩:=h;cases i with
  |zero=>simp at hi;subst hi;exact⟨v,by simp,h1⟩
  |succ i=>simp at hi;obtain⟨v',h3,h4⟩:=Wp i h2 hi;exact⟨v',by simpa using h3,h4⟩
def QR{as bs:List AV}{vs us:List Value}(h:Rs T X w as vs)(k:Rs T X w bs us):Rs T X w (as++bs) (vs++us):=by
 induction as generalizing vs with
 |nil=>rw[show vs=[]from h];exact k
 |cons a as ih=>
  obtain⟨v,vr,rfl,h1,h2⟩:=h;exact⟨v,vr++us,rfl,h1,ih h2⟩
def Kt{as:List AV}{vs:List Value}(n:Nat)(h:Rs T X w as vs):Rs T X w (as.take n) (vs.take n):=by
 induction as generalizing vs n with
 |nil=>rw[show vs=[]from h];simp[Rs]
 |cons a as ih=>
  obtain⟨v,vr,rfl,h1,h2⟩:=h;cases n with
  |zero=>simp[Rs]
  |succ n=>exact⟨v,vr.take n,by simp,h1,ih n h2⟩
def VE{as:List AV}{vs:List Value}(n:Nat)(h:Rs T X w as vs):Rs T X w (as.drop n) (vs.drop n):=by
 induction as generalizing vs n with
 |nil=>rw[show vs=[]from h];simp[Rs]
 |cons a as ih=>
  obtain⟨v,vr,rfl,h1,h2⟩:=h;cases n with
  |zero=>exact⟨v,vr,rfl,h1,h2⟩
  |succ n=>simpa using ih n h2
def Cg{as:List AV}{vs:List Value}(i:Nat){a:AV}{v:Value}(h:Rs T X w as vs)(hv:R T X w a v):Rs T X w (as.set i a) (vs.set i v):=by
 induction as generalizing vs i with
 |nil=>rw[show vs=[]from h];simp[Rs]
 |cons b as ih=>
  obtain⟨u,vr,rfl,h1,h2⟩:=h;cases i with
  |zero=>exact⟨v,vr,by simp,hv,h2⟩
  |succ i=>exact⟨u,vr.set i v,by simp,h1,ih i h2⟩
def Ku{cs:List AV}{r o:Nat}(n:Nat)(h:ZV T X w r cs o):ZV T X w r (cs.drop n) (o+n):=by
 induction cs generalizing n o with
 |nil=>simp[ZV]
 |cons c cs ih=>
  cases n with
  |zero=>exact h
  |succ n=>have:=ih n h.2;rw[show o+(n+1)=o+1+n by omega];simpa using this
def Mh{cs:List AV}{r o:Nat}(n:Nat)(h:ZV T X w r cs o):ZV T X w r (cs.take n) o:=by
 induction cs generalizing n o with
 |nil=>simp[ZV]
 |cons c cs ih=>
  cases n with
  |zero=>simp[ZV]
  |succ n=>exact⟨h.1,ih n h.2⟩
def Kv{cs:List AV}{r o:Nat}(h:ZV T X w r cs o):∃vs:List Value,(∀j v,vs[j]?=some v->World.at w r (o+j)=some v)/\Rs T X w cs vs:=by
 induction cs generalizing o with
 |nil=>exact⟨[],by simp,rfl⟩
 |cons c cs ih=>
  obtain⟨⟨v,h1,h2⟩,h3⟩:=h;obtain⟨vs,h4,h5⟩:=ih h3;refine⟨v::vs,λj u hu=>?_,v,vs,rfl,h2,h5⟩
  cases j with
  |zero=>simp at hu;subst hu;exact h1
  |succ j=>simp at hu;rw[show o+(j+1)=o+1+j by omega];exact h4 j u hu
def Xs{cs:List AV}{vs:List Value}{r o:Nat}(h:Rs T X w cs vs)(hv:∀j v,vs[j]?=some v->World.at w r (o+j)=some v):ZV T X w r cs o:=by
 induction cs generalizing vs o with
 |nil=>trivial
 |cons c cs ih=>
  obtain⟨v,vr,rfl,h1,h2⟩:=h;exact⟨⟨v,by simpa using hv 0 v (by simp),h1⟩,ih h2<|λj u hu=>by rw[show o+1+j=o+(j+1)by omega];exact hv (j+1) u<|by simpa using hu⟩
def Ck{cs ds:List AV}{r o:Nat}(h:ZV T X w r cs o)(k:ZV T X w r ds<|o+cs.length):ZV T X w r (cs++ds) o:=by
 induction cs generalizing o with
 |nil=>simpa using k
 |cons c cs ih=>exact⟨h.1,ih h.2<|by rw[show o+1+cs.length=o+(cs.length+1)by omega];exact k⟩
def Kw:∀{es:List AV}{sz r o:Nat}(i:Nat){e:AV},ZA T X w sz r es o->es[i]?=some e->e.cells.length=sz/\ZV T X w r e.cells (o+i*sz)
 |[],_,_,_,i,_,_,h=>by simp at h
 |a::es,sz,r,o,i,e,h,hi=>by
  cases i with
  |zero=>
   simp at hi;subst hi;cases a with
   |agg cs=>exact⟨h.1,by simpa[AV.cells]using h.2.1⟩
   |_=>exact⟨h.1.symm,by simpa[AV.cells,ZV]using h.2.1⟩
  |succ i=>
   simp at hi;have h2:ZA T X w sz r es (o+sz):=by cases a<;>exact h.2.2
   have:=Kw i h2 hi;rw[show o+(i+1)*sz=o+sz+i*sz by rw[ZYc];omega]
   exact this
def UU{es:List AV}{sz r o:Nat}(n:Nat)(h:ZA T X w sz r es o):ZA T X w sz r (es.drop n) (o+n*sz):=by
 induction es generalizing n o with
 |nil=>simp[ZA]
 |cons a es ih=>
  cases n with
  |zero=>simpa using h
  |succ n=>
   have h2:ZA T X w sz r es (o+sz):=by cases a<;>exact h.2.2
   have:=ih n h2;rw[show o+(n+1)*sz=o+sz+n*sz by rw[ZYc];omega]
   simpa using this
def UV{es:List AV}{sz r o:Nat}(n:Nat)(h:ZA T X w sz r es o):ZA T X w sz r (es.take n) o:=by
 induction es generalizing n o with
 |nil=>simp[ZA]
 |cons a es ih=>
  cases n with
  |zero=>simp[ZA]
  |succ n=>
   cases a with
   |agg cs=>exact⟨h.1,h.2.1,ih n h.2.2⟩
   |_=>exact⟨h.1,h.2.1,ih n h.2.2⟩
def flat(es:List AV):List AV:=es.flatMap AV.cells
def Kx{es:List AV}{sz r o:Nat}(h:ZA T X w sz r es o):ZV T X w r (flat es) o/\(flat es).length=es.length*sz/\∀e∈es,e.cells.length=sz:=by
 induction es generalizing o with
 |nil=>simp[flat,ZV]
 |cons a es ih=>
  have h2:ZA T X w sz r es (o+sz):=by cases a<;>exact h.2.2
  obtain⟨h3,h4,h5⟩:=ih h2;obtain⟨h6,h7⟩:=Kw (es:=a::es) (e:=a) 0 h<|by simp
  have e:flat (a::es)=a.cells++flat es:=by simp[flat]
  rw[e];refine⟨Ck (by simpa using h7) (by rw[h6];exact h3),by simp[h6,h4,ZYc];omega,?_⟩
  intro x hx;rcases ZXv.1 hx with rfl|hx
  .exact h6
  .exact h5 x hx
def Wq{es:List AV}{sz r o:Nat}(hs:∀e∈es,e.cells.length=sz)(h:ZV T X w r (flat es) o):ZA T X w sz r es o:=by
 induction es generalizing o with
 |nil=>trivial
 |cons a es ih=>
  have e:flat (a::es)=a.cells++flat es:=by simp[flat]
  rw[e]at h;have hl:=hs a<|by simp
  have h2:=Ku a.cells.length h;rw[List.drop_left,hl]at h2;have h1:=Mh a.cells.length h;rw[List.take_left]at h1;have h3:=ih (λx hx=>hs x<|by simp[hx]) h2
  cases a with
  |agg cs=>exact⟨hl,h1,h3⟩
  |_=>exact⟨hl.symm,h1.1,h3⟩
def HT{a:AV}{v:Value}(hs:scalar a=true)(h:R T X w a v):v.oneCell'=true/\a.cells=[a]/\v.cells = #[v]:=by
 cases a<;>simp[scalar]at hs<;>simp only[R]at h
 case bool=>subst h;exact⟨rfl,rfl,rfl⟩
 case int=>subst h;exact⟨rfl,rfl,rfl⟩
 case str=>subst h;exact⟨rfl,rfl,rfl⟩
 case nilp=>subst h;exact⟨rfl,rfl,rfl⟩
 case nilsl=>subst h;exact⟨rfl,rfl,rfl⟩
 case nilmap=>subst h;exact⟨rfl,rfl,rfl⟩
 case nilfn=>subst h;exact⟨rfl,rfl,rfl⟩
 case nilif=>subst h;exact⟨rfl,rfl,rfl⟩
 case iptr=>obtain⟨r,o,rfl,_⟩:=h;exact⟨rfl,rfl,rfl⟩
 case isl=>obtain⟨r,o,c,rfl,_⟩:=h;exact⟨rfl,rfl,rfl⟩
 case imap=>obtain⟨r,o,c,l,rfl,_⟩:=h;exact⟨rfl,rfl,rfl⟩
 case ifc=>obtain⟨u,rfl,_⟩:=h;exact⟨rfl,rfl,rfl⟩
 case clo=>obtain⟨f,c,rfl,_⟩:=h;exact⟨rfl,rfl,rfl⟩
 case ptr=>obtain⟨⟨p,rfl⟩,_⟩:=h;exact⟨rfl,rfl,rfl⟩
 case sl=>obtain⟨⟨p,l,c,rfl⟩,_⟩:=h;exact⟨rfl,rfl,rfl⟩
 case mp=>obtain⟨r,_,rfl⟩:=h;exact⟨rfl,rfl,rfl⟩
 case it=>obtain⟨r,_,rfl⟩:=h;exact⟨rfl,rfl,rfl⟩
 case yld=>obtain⟨r,_,rfl⟩:=h;exact⟨rfl,rfl,rfl⟩
end Go.AM
namespace Go.AM
open Go
variable [Dr]
variable {P:Program} {E:Env} {T:Ty} {X:Xt} {w:World} {h:Hp} {fr:Fr} {a:Act}
mutual
def Q3:Value->AV->Bool
 |_,.bot=>true
 | .bool b,.bool c=>b==c
 | .int k n,.int j m=>decide (k=j)&&n==m
 | .string s,.str t=>Z3 s t
 | .pointer none,.nilp=>true
 | .slice none 0 0,.nilsl=>true
 | .slice none 0 0,.isl _ _ _ []=>true
 | .map none,.nilmap=>true
 | .nilFunc,.nilfn=>true
 | .nilIface,.nilif=>true
 | .iface t v,.ifc u x=>t==u&&Q3 v x
 | .agg vs,.agg cs=>Wr vs.toList cs
 |_,_=>false
def Wr:List Value->List AV->Bool
 |[],[]=>true
 |v::vs,c::cs=>Q3 v c&&Wr vs cs
 |_,_=>false
end
def Ky(a b:ByteArray):Z3 a b=true↔a=b:=by
 unfold Z3;constructor
 .intro h;have:=eq_of_beq h;cases a;cases b;simp at this;rw[this]
 .rintro rfl;simp
mutual
def Ws:(v:Value)->(c:AV)->Q3 v c=true->R T X w c v
 |v,.bot,_=>trivial
 |v,.bool c,h=>by cases v<;>simp[Q3]at h;subst h;rfl
 |v,.int j m,h=>by
  cases v<;>simp[Q3]at h
  obtain⟨rfl,rfl⟩:=h;rfl
 |v,.str t,h=>by
  cases v<;>simp[Q3]at h
  rw[Ky]at h;subst h;rfl
 |v,.nilp,h=>by
  cases v with
  |pointer a=>cases a<;>simp[Q3]at h;rfl
  |_=>simp[Q3]at h
 |v,.nilsl,h=>by
  cases v with
  |slice a l c=>
   cases a<;>cases l<;>cases c<;>simp[Q3]at h
   rfl
  |_=>simp[Q3]at h
 |v,.nilmap,h=>by
  cases v with
  |map a=>cases a<;>simp[Q3]at h;rfl
  |_=>simp[Q3]at h
 |v,.nilfn,h=>by cases v<;>simp[Q3]at h;rfl
 |v,.nilif,h=>by cases v<;>simp[Q3]at h;rfl
 |v,.ifc u x,h=>by
  cases v<;>simp[Q3]at h
  obtain⟨rfl,h⟩:=h;exact⟨_,rfl,Ws _ x h⟩
 |v,.agg cs,h=>by
  cases v<;>simp[Q3]at h
  exact⟨_,rfl,HU _ cs h⟩
 |v,.tup _,h=>by cases v<;>simp[Q3]at h
 |v,.iptr _ _,h=>by cases v<;>simp[Q3]at h
 |v,.isl bw ex sz es,h=>by
  cases v with
  |slice a l c=>
   cases a<;>cases l<;>cases c<;>cases es<;>simp[Q3]at h
   exact⟨none,0,0,rfl,rfl,ZX0 _,λ_=>rfl,by cases bw<;>rfl,.inl rfl⟩
  |_=>simp[Q3]at h
 |v,.imap _ _ _,h=>by cases v<;>simp[Q3]at h
 |v,.clo _ _ _,h=>by cases v<;>simp[Q3]at h
 |v,.ptr _ _ _ _,h=>by cases v<;>simp[Q3]at h
 |v,.sl _ _ _ _ _,h=>by cases v<;>simp[Q3]at h
 |v,.mp _,h=>by cases v<;>simp[Q3]at h
 |v,.it _,h=>by cases v<;>simp[Q3]at h
 |v,.yld _,h=>by cases v<;>simp[Q3]at h
def HU:(vs:List Value)->(cs:List AV)->Wr vs cs=true->Rs T X w cs vs
 |[],[],_=>rfl
 |[],_::_,h=>by simp[Wr]at h
 |_::_,[],h=>by simp[Wr]at h
 |v::vs,c::cs,h=>by
  simp[Wr]at h;exact⟨v,vs,rfl,Ws v c h.1,HU vs cs h.2⟩
end
def Zr:Operand->Arg->Bool
 | .tmp t,.t n=>t==n
 | .const v,.c c=>Q3 v c
 | .func f,.f g=>f==g
 | .global g,.g k=>g==k
 |_,_=>false
def GlS(w:World)(g:Nat):AV->Prop
 | .iptr _ cs=>∃c t f,w.heap[g]?=some (.cells c t f)/\c.size=cs.length
 |_=>True
def GlR(E:Env)(T:Ty)(X:Xt)(w:World):Prop:=∀g,R T X w (E.gl g) (.pointer<|some ⟨g,0,none⟩)/\GlS w g (E.gl g)
structure Ctx(E:Env)(T:Ty)(X:Xt)(h:Hp)(w:World):Prop where
 m:M T X h w
 gl:GlR E T X w
 hX:∀r,X r->r<w.heap.size
def evR(gl:GlR E T X w)(hf:FrR T X w fr a.tmps){x:Operand}{y:Arg}(hc:Zr x y=true):R T X w (ev E fr y) (a.eval x):=by
 cases x<;>cases y<;>simp[Zr]at hc
 .subst hc;exact hf _
 .exact Ws _ _ hc
 .subst hc;exact(gl _).1
 .subst hc;exact⟨#[],#[],rfl,rfl,rfl⟩
def Wt:List Operand->List Arg->Bool
 |[],[]=>true
 |x::xs,y::ys=>Zr x y&&Wt xs ys
 |_,_=>false
def VF(gl:GlR E T X w)(hf:FrR T X w fr a.tmps):∀{xs:List Operand}{ys:List Arg},Wt xs ys=true->Rs T X w (ys.map<|ev E fr) (xs.map a.eval)
 |[],[],_=>rfl
 |[],_::_,h=>by simp[Wt]at h
 |_::_,[],h=>by simp[Wt]at h
 |x::xs,y::ys,h=>by
  simp[Wt]at h;exact⟨_,_,rfl,evR gl hf h.1,VF gl hf h.2⟩
def Sim(P:Program)(T:Ty)(X:Xt)(h:Hp)(w:World)(s:Sem Next)(res:Zt):Prop:=
 ∃T' w' rv,(s.run P w=.ok (.value rv) w'\/(s.run P w=.ok .skip w'/\rv=undef))/\Step T w T' w'/\M T' X (ZH h res.2.2) w'/\R T' X w' res.1 rv
def Sim.pure{s:Sem Next}{v:AV}{rv:Value}{rs:List Nat}(m:M T X h w)(hr:s.run P w=.ok (.value rv) w)(hv:R T X w v rv):Sim P T X h w s (v,rs,none):=
 ⟨T,w,rv,.inl hr,.refl _ _,m,hv⟩
def ZY{v:Option AV}{res:Zt}(h:Zl v=some res):∃u,v=some u/\res=(u,[],none):=by
 cases v<;>simp[Zl]at h
 exact⟨_,rfl,h.symm⟩
def Wu{v:Value}{b:Bool}(h:R T X w (.bool b) v):v=.bool b:=h
def QS{v:Value}{k:IntKind}{n:Int}(h:R T X w (.int k n) v):v=.int k n:=h
def Yj{v:Value}{s:ByteArray}(h:R T X w (.str s) v):v=.string s:=h
def Cl(s:Sem Value)(w:World){rv:Value}{w':World}(hs:s.run P w=.ok rv w'):(do Pure.pure (Next.value<|<-s):Sem Next).run P w=.ok (.value rv) w':=by
 simp[hs]
def Cm(s:Sem Unit)(w:World){w':World}(hs:s.run P w=.ok () w'):(do s;Pure.pure Next.skip:Sem Next).run P w=.ok .skip w':=by
 simp[hs]
def toList_data(s:ByteArray):s.toList=s.data.toList:=by
 exact ByteArray.toList_eq s
def Cn{op:BinOp}{k:IntKind}{x y:Int}{v:AV}(hv:JO op k x y=some v):
 ∃rv,R T X w v rv/\∀ty,(binOp op ty (.int k x)<|.int k y).run P w=.ok rv w:=by
 cases op<;>simp only[JO,reduceCtorEq,Option.some.injEq,ZYh]at hv
 case quo=>obtain⟨h0,rfl⟩:=hv;exact⟨_,rfl,λty=>by simp[binOp,Op.intDiv,h0]⟩
 case rem=>obtain⟨h0,rfl⟩:=hv;exact⟨_,rfl,λty=>by simp[binOp,Op.intDiv,h0]⟩
 all_goals
  subst hv;exact⟨_,rfl,λty=>by simp[binOp,Op.intArith,Op.intBits,Op.intCmp]⟩
def Co{op:BinOp}{x y:ByteArray}{v:AV}(hv:UR op x y=some v):
 ∃rv,R T X w v rv/\∀ty,(binOp op ty (.string x)<|.string y).run P w=.ok rv w:=by
 cases op<;>simp only[UR,reduceCtorEq,Option.some.injEq,ZYq]at hv
 case add=>
  obtain⟨h0,rfl⟩:=hv;refine⟨_,rfl,λty=>?_⟩
  have hm:¬(((x.size+y.size:Nat):Int)>IntKind.i64.max):=by
   have:IntKind.i64.max=9223372036854775807:=by decide
   omega
  simp only[binOp,Op.stringOp,if_neg hm];rfl
 all_goals
  subst hv;exact⟨_,rfl,λty=>by simp[binOp,Op.stringOp,Z3,WW,toList_data]⟩
def Cp{op:BinOp}{x y v:AV}{rx ry:Value}(hv:YZ op x y=some v)(hx:R T X w x rx)(hy:R T X w y ry):
 ∃rv,R T X w v rv/\∀ty,(binOp op ty rx ry).run P w=.ok rv w:=by
 cases x<;>try (simp[YZ]at hv;done)
 case int k m=>
  cases y<;>try (simp[YZ]at hv;done)
  case int j n=>
   cases QS hx;cases QS hy;by_cases hs:op=.shl
   .subst hs;simp only[YZ,ZYh,Option.some.injEq]at hv;obtain⟨h0,rfl⟩:=hv;exact⟨_,rfl,λty=>by simp[binOp,Op.shift,h0]⟩
   by_cases hs2:op=.shr
   .subst hs2;simp only[YZ,ZYh,Option.some.injEq]at hv;obtain⟨h0,rfl⟩:=hv;exact⟨_,rfl,λty=>by simp[binOp,Op.shift,h0]⟩
   have hv':(if k=j then JO op k m n else none)=some v:=by
    cases op<;>first|exact hv|exact(hs rfl).elim|exact(hs2 rfl).elim
   rw[ZYq]at hv';obtain⟨rfl,hv'⟩:=hv';exact Cn hv'
 case str s=>
  cases y<;>try (simp[YZ]at hv;done)
  case str t=>
   cases Yj hx;cases Yj hy;exact Co hv
def Cq{op:UnOp}{x v:AV}{rx:Value}(hv:Vy op x=some v)(hx:R T X w x rx):
 ∃rv,R T X w v rv/\(Op.unary op rx).run P w=.ok rv w:=by
 cases x<;>try (simp[Vy]at hv;done)
 case bool b=>
  cases Wu hx;cases op<;>simp[Vy]at hv
  subst hv;exact⟨_,rfl,by simp[Op.unary]⟩
 case int k n=>
  cases QS hx;cases op<;>simp[Vy]at hv
  subst hv;exact⟨_,rfl,by simp[Op.unary,Op.intArith]⟩
end Go.AM
namespace Go.AM
open Go
variable [Dr]
variable {P:Program} {E:Env} {T:Ty} {X:Xt} {w:World} {h:Hp} {fr:Fr} {a:Act}
def ZF(P:Program)(t:TypeId):Bool:=
 match P.underlying t with
 |some (.struct _)|some (.array _ _)=>true
 |_=>false
def ZR(P:Program)(t:TypeId):Option Nat:=(P.info? t).map (·.size)
mutual
def tk(P:Program):Nat->TypeId->Option (List Nat)
 |0,_=>none
 |d+1,t=>
  match P.underlying t with
  |some .bool=>some [0]
  |some (.int _)=>some [1]
  |some .string=>some [2]
  |some (.struct fs)=>if P.stoodInHeld t then none else tkf P d fs.toList 0
  |some (.array n e)=>
   match tk P d e with
   |some l=>if ZR P e=some l.length then some (List.replicate n l).flatten else none
   |none=>none
  |_=>none
def tkf(P:Program):Nat->List Field->Nat->Option (List Nat)
 |0,_,_=>none
 |_+1,[],_=>some []
 |d+1,f::fs,off=>
  if f.name = "_"\/f.offset≠off then none else
  match tk P d f.type with
  |some l=>if ZR P f.type=some l.length then(tkf P d fs<|off+l.length).map (l++·)else none
  |none=>none
end
def mkV(P:Program)(t:TypeId)(vs:List Value):Value:=if ZF P t then .agg vs.toArray else vs.headD undef
def V1{t:TypeId}(w:World){d:TypeDesc}(ht:P.underlying t=some d):(isAgg t).run P w=.ok (ZF P t) w:=by
 simp only[isAgg,Sem.run_bind,run_underlying ht,Result.andThen_ok,ZF,ht];cases d<;>rfl
def QY{t:TypeId}(w:World){n:Nat}(hn:ZR P t=some n):(sizeOf t).run P w=.ok n w:=by
 unfold ZR at hn;cases hi:P.info? t with
 |none=>rw[hi]at hn;cases hn
 |some i=>
  rw[hi]at hn;simp at hn;simp[sizeOf,typeInfo,hi,hn]
def JT{t:TypeId}(w:World){d:TypeDesc}(ht:P.underlying t=some d){n off:Nat}(hn:ZR P t=some n)(cs:Array Value)(h1:ZF P t=false->n=1)(hl:off+n<=cs.size):
 (part t cs off).run P w=.ok (mkV P t<|(cs.toList.drop off).take n) w:=by
 simp only[part,Sem.run_bind,V1 w ht,Result.andThen_ok];cases hb:ZF P t with
 |true=>
  simp only[if_true,Sem.run_bind,QY w hn,Result.andThen_ok,mkV,hb];simp only[Sem.run_pure];congr 2;apply ZXV;simp
 |false=>
  have:=h1 hb;subst this;have hlt:off<cs.size:=by omega
  simp only[ZX2,if_false,mkV,hb];rw[ZXH hlt];simp only[Sem.run_pure];congr 1;have:(List.drop off cs.toList)=cs[off]::List.drop (off+1) cs.toList:=by
   rw[ZY4<|by simpa using hlt]
   simp
  rw[this];simp
def UW(P:Program)(d:Nat)(t:TypeId)(x y:Value)(b:Bool):Prop:=∀w:World,(Op.equalIn d t x y).run P w=.ok b w
def Mi:∀{l ks:List Nat}{cx cy:List AV}{b:Bool},ZE (l++ks) cx cy=some b->∃b1 b2,ZE l (cx.take l.length) (cy.take l.length)=some b1/\ZE ks (cx.drop l.length) (cy.drop l.length)=some b2/\b=(b1&&b2):=by
 intro l;induction l with
 |nil=>intro ks cx cy b h;exact⟨true,b,by simp[ZE],by simpa using h,by simp⟩
 |cons k l ih=>
  intro ks cx cy b h;cases cx with
  |nil=>simp[ZE]at h
  |cons x cx=>
   cases cy with
   |nil=>simp[ZE]at h
   |cons y cy=>
    simp only[ZXj,ZE]at h;cases h1:eq1 k x y with
    |none=>rw[h1]at h;cases h
    |some b0=>
     rw[h1]at h;simp only at h;cases h2:ZE (l++ks) cx cy with
     |none=>rw[h2]at h;cases h
     |some b'=>
      rw[h2]at h;simp only[Option.some.injEq]at h;obtain⟨b1,b2,h3,h4,rfl⟩:=ih h2;refine⟨b0&&b1,b2,?_,by simpa using h4,by rw[<-h,ZY6]⟩
      simp only[ZXr,ZYO,ZE,h1,h3]
def X5:∀{ks:List Nat}{cx cy:List AV}{b:Bool},ZE ks cx cy=some b->cx.length=ks.length/\cy.length=ks.length:=by
 intro ks;induction ks with
 |nil=>intro cx cy b h;cases cx<;>cases cy<;>simp[ZE]at h<;>simp
 |cons k ks ih=>
  intro cx cy b h;cases cx with
  |nil=>simp[ZE]at h
  |cons x cx=>
   cases cy with
   |nil=>simp[ZE]at h
   |cons y cy=>
    simp only[ZE]at h;cases h1:eq1 k x y with
    |none=>rw[h1]at h;cases h
    |some b0=>
     rw[h1]at h;cases h2:ZE ks cx cy with
     |none=>simp[h2]at h
     |some b'=>have:=ih h2;simp[this.1,this.2]
def Cr{d:Nat}{t:TypeId}{k:Nat}{desc:TypeDesc}{x y:AV}{vx vy:Value}{b:Bool}(ht:P.underlying t=some desc)
 (hk:(desc=.bool/\k=0)\/((∃q,desc=.int q)/\k=1)\/(desc=.string/\k=2)) (he:eq1 k x y=some b) (hx:R T X w x vx) (hy:R T X w y vy):UW P (d+1) t vx vy b:=by
 intro w';rcases hk with⟨rfl,rfl⟩|⟨⟨q,rfl⟩,rfl⟩|⟨rfl,rfl⟩
 .cases x<;>cases y<;>simp[eq1]at he
  subst he;cases Wu hx;cases Wu hy;simp[Op.equalIn,run_underlying ht]
 .cases x<;>cases y<;>simp[eq1]at he
  obtain⟨rfl,rfl⟩:=he;cases QS hx;cases QS hy;simp[Op.equalIn,run_underlying ht]
 .cases x<;>cases y<;>simp[eq1]at he
  subst he;cases Yj hx;cases Yj hy;simp[Op.equalIn,run_underlying ht,Z3,beq_toListBytes,toList_data]
def UX{d:Nat}{t:TypeId}{l:List Nat}(h:tk P d t=some l)(hb:ZF P t=false):l.length=1:=by
 cases d with
 |zero=>simp[tk]at h
 |succ d=>
  unfold tk at h;unfold ZF at hb;cases hu:P.underlying t with
  |none=>rw[hu]at h;simp at h
  |some desc=>
   rw[hu]at h hb;cases desc<;>simp at h hb<;>subst h<;>rfl
def VG{d:Nat}{t:TypeId}{l:List Nat}(h:tk P d t=some l):∃desc,P.underlying t=some desc:=by
 cases d with
 |zero=>simp[tk]at h
 |succ d=>
  unfold tk at h;cases hu:P.underlying t with
  |none=>rw[hu]at h;simp at h
  |some desc=>exact⟨desc,rfl⟩
def UY{cs:List AV}{vs:List Value}(h:Rs T X w cs vs)(off n:Nat):Rs T X w ((cs.drop off).take n) ((vs.drop off).take n):=Kt n<|VE off h
def Cs{d':Nat}{e:TypeId}{l:List Nat}{cx cy:List AV}{xs ys:Array Value}(hund:∃desc,P.underlying e=some desc)(hsz:ZR P e=some l.length)(h1:ZF P e=false->l.length=1)
 (ih:∀(cx cy:List AV)(vx vy:List Value)(b:Bool),ZE l cx cy=some b->Rs T X w cx vx->Rs T X w cy vy->UW P d' e (mkV P e vx) (mkV P e vy) b)
 (hx:Rs T X w cx xs.toList) (hy:Rs T X w cy ys.toList):
 ∀(n s:Nat)(b:Bool),ZE (List.replicate n l).flatten (cx.drop<|s*l.length) (cy.drop<|s*l.length)=some b->∀w':World,(Op.eqItems d' e l.length xs ys<|List.range' s n).run P w'=.ok b w':=by
 intro n;obtain⟨desc,hund⟩:=hund;induction n with
 |zero=>
  intro s b hb w';simp only[List.replicate_zero,List.flatten_nil]at hb;have hb':b=true:=by
   have hl:=X5 hb;generalize cx.drop (s*l.length)=u at hb hl;generalize cy.drop (s*l.length)=v at hb hl;cases u<;>cases v<;>simp[ZE]at hb hl⊢
   exact hb
  subst hb';simp[Op.eqItems]
 |succ n ihn=>
  intro s b hb w';rw[ZYi,ZYr]at hb;obtain⟨b1,b2,hb1,hb2,rfl⟩:=Mi hb;rw[ZXZ,ZXZ]at hb2;have hlx:=(X5 hb1).1;have hly:=(X5 hb1).2;have lx:=Qr hx;have ly:=Qr hy;simp only[ZXL,List.length_drop]at hlx hly;have pl:l.length=0\/s*l.length+l.length<=xs.size/\s*l.length+l.length<=ys.size:=by
   simp only[ZXD]at lx ly;omega
  have px:(part e xs<|s*l.length).run P w'=.ok (mkV P e<|(xs.toList.drop<|s*l.length).take l.length) w':=by
   rcases pl with pl|pl
   .have ha:ZF P e=true:=by
     cases hh:ZF P e with
     |true=>rfl
     |false=>have:=h1 hh;omega
    simp only[part,Sem.run_bind,V1 w' hund,Result.andThen_ok,ha,if_true,QY w' hsz,mkV,Sem.run_pure,pl];simp
   .exact JT w' hund hsz xs h1 pl.1
  have py:(part e ys<|s*l.length).run P w'=.ok (mkV P e<|(ys.toList.drop<|s*l.length).take l.length) w':=by
   rcases pl with pl|pl
   .have ha:ZF P e=true:=by
     cases hh:ZF P e with
     |true=>rfl
     |false=>have:=h1 hh;omega
    simp only[part,Sem.run_bind,V1 w' hund,Result.andThen_ok,ha,if_true,QY w' hsz,mkV,Sem.run_pure,pl];simp
   .exact JT w' hund hsz ys h1 pl.2
  have he:=ih _ _ _ _ b1 hb1 (UY hx _ _) (UY hy _ _) w';rw[List.range'_succ];simp only[Op.eqItems,Sem.run_bind,px,py,he,Result.andThen_ok];cases b1 with
  |false=>simp
  |true=>
   simp only[ZWS,ZX2,if_false,ZWR];exact ihn (s+1) b2 (by rw[ZYc];exact hb2) w'
def Ct(d:Nat):(∀(d':Nat)(t:TypeId)(ks:List Nat),d<=d'->tk P d t=some ks->∀(cx cy:List AV)(vx vy:List Value)(b:Bool),ZE ks cx cy=some b->Rs T X w cx vx->Rs T X w cy vy->UW P d' t (mkV P t vx) (mkV P t vy) b)/\
 (∀(d':Nat)(fs:List Field)(off:Nat)(ks:List Nat),d<=d'+1->tkf P d fs off=some ks->∀(cx cy:List AV)(xs ys:Array Value)(b:Bool),ZE ks (cx.drop off) (cy.drop off)=some b->Rs T X w cx xs.toList->Rs T X w cy ys.toList->∀w':World,(Op.eqFields d' xs ys fs).run P w'=.ok b w'):=by
 induction d with
 |zero=>exact⟨λd' t ks _ h=>by simp[tk]at h,λd' fs off ks _ h=>by simp[tkf]at h⟩
 |succ d ih=>
  constructor
  .intro d' t ks hd h cx cy vx vy b hb hx hy;obtain⟨d',rfl⟩:∃k,d'=k+1:=⟨d'-1,by omega⟩
   have h0:=h;unfold tk at h;obtain⟨desc,hu⟩:=VG h0;rw[hu]at h;have hlx:=(X5 hb).1;have hly:=(X5 hb).2;have one:∀k,ks=[k]->ZF P t=false->((desc=.bool/\k=0)\/((∃q,desc=.int q)/\k=1)\/(desc=.string/\k=2))->UW P (d'+1) t (mkV P t vx) (mkV P t vy) b:=by
    intro k hk ha hkk;subst hk;cases cx with
    |nil=>simp[ZE]at hb
    |cons x cx=>
     cases cy with
     |nil=>simp[ZE]at hb
     |cons y cy=>
      obtain⟨v,vr,rfl,hv,_⟩:=hx;obtain⟨u,ur,rfl,huu,_⟩:=hy;simp only[ZE]at hb;cases h1:eq1 k x y with
      |none=>rw[h1]at hb;cases hb
      |some b0=>
       rw[h1]at hb;cases cx<;>cases cy<;>simp[ZE]at hb
       subst hb;have e:=Cr (P:=P) (d:=d') hu hkk h1 hv huu;simpa[mkV,ha]using e
   cases desc with
   |bool=>simp at h;exact one 0 h.symm (by simp[ZF,hu])<|.inl ⟨rfl,rfl⟩
   |int q=>simp at h;exact one 1 h.symm (by simp[ZF,hu])<|.inr<|.inl ⟨⟨q,rfl⟩,rfl⟩
   |string=>simp at h;exact one 2 h.symm (by simp[ZF,hu])<|.inr<|.inr ⟨rfl,rfl⟩
   |struct fs=>
    simp only[ZYh,ZYj]at h;obtain⟨hst,h⟩:=h;intro w';have ha:ZF P t=true:=by simp[ZF,hu]
    have hf:P.fieldsOf t=fs:=by simp[Program.fieldsOf,hu]
    simp only[mkV,ha,if_true];rw[run_equalIn_struct w' d' t _ _ (by rw[hf];exact hu) hst,hf]
    exact ih.2 d' fs.toList 0 ks (by omega) h cx cy _ _ b (by simpa using hb) (by simpa using hx) (by simpa using hy) w'
   |array n e=>
    simp only at h;cases he:tk P d e with
    |none=>rw[he]at h;cases h
    |some l=>
     rw[he]at h;simp only[ZYq,Option.some.injEq]at h;obtain⟨hsz,rfl⟩:=h;intro w';have ha:ZF P t=true:=by simp[ZF,hu]
     simp only[mkV,ha,if_true];obtain⟨i,hi,hsi⟩:∃i,P.info? e=some i/\i.size=l.length:=by
      unfold ZR at hsz;cases hi:P.info? e with
      |none=>rw[hi]at hsz;cases hsz
      |some i=>rw[hi]at hsz;simp at hsz;exact⟨i,rfl,hsz⟩
     have hc:P.cellsOf e=l.length:=by simp[Program.cellsOf,hi,hsi]
     rw[run_equalIn_array w' d' _ _ hu hi,hc,List.range_eq_range'];exact Cs (VG he) hsz (UX he) (λcx cy vx vy b=>ih.1 d' e l (by omega) he cx cy vx vy b) (by simpa using hx) (by simpa using hy) n 0 b (by simpa using hb) w'
   |_=>simp at h
  .intro d' fs off ks hd h cx cy xs ys b hb hx hy w';cases fs with
   |nil=>
    simp[tkf]at h;subst h;have hb':b=true:=by
     have hl:=X5 hb;generalize cx.drop off=u at hb hl;generalize cy.drop off=v at hb hl;cases u<;>cases v<;>simp[ZE]at hb hl⊢
     exact hb
    subst hb';simp[Op.eqFields]
   |cons f fs=>
    unfold tkf at h;simp only[ZYh,not_or,Decidable.not_not]at h;obtain⟨⟨hn,ho⟩,h⟩:=h;cases he:tk P d f.type with
    |none=>rw[he]at h;cases h
    |some l=>
     rw[he]at h;simp only[ZYq,ZXi]at h;obtain⟨hsz,ks',h',rfl⟩:=h;obtain⟨b1,b2,hb1,hb2,rfl⟩:=Mi hb;rw[ZXZ,ZXZ]at hb2;have hlx:=(X5 hb1).1;have hly:=(X5 hb1).2;have lx:=Qr hx;have ly:=Qr hy;simp only[ZXL,List.length_drop]at hlx hly;obtain⟨desc,hund⟩:=VG he;have h1:=λhh=>UX he hh
     have pt:∀(zs:Array Value),(l.length=0\/off+l.length<=zs.size)->(part f.type zs off).run P w'=.ok (mkV P f.type<|(zs.toList.drop off).take l.length) w':=by
      intro zs pl;rcases pl with pl|pl
      .have ha:ZF P f.type=true:=by
        cases hh:ZF P f.type with
        |true=>rfl
        |false=>have:=h1 hh;omega
       simp only[part,Sem.run_bind,V1 w' hund,Result.andThen_ok,ha,if_true,QY w' hsz,mkV,Sem.run_pure,pl];simp;omega
      .exact JT w' hund hsz zs h1 pl
     simp only[ZXD]at lx ly;have px:=pt xs<|by omega
     have py:=pt ys<|by omega
     have e:=ih.1 d' f.type l (by omega) he _ _ _ _ b1 hb1 (UY hx _ _) (UY hy _ _) w'
     subst ho;simp only[Op.eqFields,ne_eq,hn,not_false_eq_true,if_true,Sem.run_bind,px,py,e,Result.andThen_ok];cases b1 with
     |false=>simp
     |true=>
      simp only[ZWS,ZX2,if_false,ZWR];exact ih.2 d' fs _ ks' (by omega) h' cx cy xs ys b2 hb2 hx hy w'
def HV{t:TypeId}{ks:List Nat}{x y:AV}{vx vy:Value}{b:Bool}(hk:tk P 20 t=some ks)(he:Zz (ZF P t) ks x y=some b)(hx:R T X w x vx)(hy:R T X w y vy):(Op.equal t vx vy).run P w=.ok b w:=by
 have key:=(Ct (P:=P) (T:=T) (X:=X) (w:=w) 20).1 Op.maxDepth t ks (by decide) hk
 cases ha:ZF P t with
 |true=>
  rw[ha]at he;cases x<;>cases y<;>simp[Zz]at he
  obtain⟨vs,rfl,hx⟩:=hx;obtain⟨us,rfl,hy⟩:=hy;have:=key _ _ _ _ b he hx hy w;simpa[mkV,ha,Op.equal]using this
 |false=>
  rw[ha]at he;simp only[Zz]at he;have:=key _ _ [vx] [vy] b he ⟨vx,[],rfl,hx,rfl⟩ ⟨vy,[],rfl,hy,rfl⟩ w;simpa[mkV,ha,Op.equal]using this
end Go.AM
namespace Go.AM
open Go
variable [Dr]
variable {P:Program} {E:Env} {T:Ty} {X:Xt} {w:World} {h:Hp} {fr:Fr} {a:Act}
def YH(P:Program)(t:TypeId):Option Value:=(P.info? t).bind (·.zero)
def Xu{t:TypeId}(w:World){v:Value}(hz:YH P t=some v):(zeroValue t).run P w=.ok v w:=by
 unfold YH at hz;cases hi:P.info? t with
 |none=>rw[hi]at hz;cases hz
 |some i=>
  rw[hi]at hz;simp at hz;simp[zeroValue,typeInfo,hi,hz]
def Kz{sz:Nat}{x:AV}{v:Value}(hf:fits sz x=true)(hx:R T X w x v):x.cells.length=sz/\v.cells.size=sz/\Rs T X w x.cells v.cells.toList/\(∀c∈v.cells.toList,c.oneCell'=true)/\(∀c∈x.cells,scalar c=true):=by
 cases x with
 |agg cs=>
  simp only[fits,ZWT,beq_iff_eq,ZXl]at hf;obtain⟨vs,rfl,hx⟩:=hx;refine⟨hf.1,?_,hx,?_,hf.2⟩
  .have:=Qr hx;simp only[Value.cells,AV.cells]at*;simp only[ZXD]at this;omega
  .intro c hc;obtain⟨i,hi⟩:=ZYs.1 hc;have hl:=Qr hx;have hlt:i<cs.length:=by rw[hl];exact(ZXg.1 hi).1
   obtain⟨u,hu,hr⟩:=Wp i hx<|ZX5 hlt;simp only[Value.cells]at hi;rw[hu]at hi;cases hi;exact(HT (hf.2 _<|ZYt hlt) hr).1
 |_=>
  simp only[fits,ZWT,beq_iff_eq]at hf;obtain⟨h1,h2,h3⟩:=HT hf.1 hx;rw[h2,h3,hf.2];exact⟨rfl,rfl,⟨_,_,rfl,hx,rfl⟩,by simpa using h1,by simpa using hf.1⟩
def KA(w:World)(cs:Array Value)(e:TypeId)(j:Nat):World.at (w.alloc<|.cells cs e) w.heap.size j=cs[j]?:=by
 have:(w.alloc<|.cells cs e).heap[w.heap.size]?=some (.cells cs e):=Wo w _;simp only[World.at,World.cell?,this];simp
def HW{s:Sem Next}{aid sz:Nat}{es:List AV}{cs:Array Value}{e:TypeId}{C:Nat}{rv:Value}{v:AV}{rs:List Nat}(m:M T X h w)(hX:∀r,X r->r<w.heap.size)
 (hid:aid<=h.length) (hT:T aid=none) (h0:0<sz) (hC:es.length<=C) (hcs:cs.size=C*sz) (hsz:∀x∈es,x.cells.length=sz)
 (hr:∃us,Rs T X w (flat es) us/\∀(j:Nat)(u:Value),us[j]?=some u->cs[j]?=some u)
 (hrun:s.run P w=.ok (.value rv) (w.alloc<|.cells cs e))
 (hv:R (upd T aid<|.row sz es.length (some w.heap.size) C 0) X (w.alloc<|.cells cs e) v rv):
 Sim P T X h w s (v,rs,some (aid,.row sz es)):=by
 refine⟨upd T aid<|.row sz es.length (some w.heap.size) C 0,w.alloc<|.cells cs e,rv,.inl hrun,VD T w _ aid _ hT (by simp[TC.real]),?_,hv⟩
 refine JQ m hX aid _ _ _ hid hT (by simp[TC.real]) ⟨rfl,rfl,h0,by rw[ZXf];exact hC,cs,e,Wo w _,hcs,?_⟩
 have st:=VD T w (.cells cs e) aid (.row sz es.length (some w.heap.size) C 0) hT<|by simp[TC.real]
 obtain⟨us,h1,h2⟩:=hr;rw[ZYk];exact Wq hsz<|Xs (Yb st _ _ h1)<|λj u hu=>by rw[KA,ZXf];exact h2 j u hu
def Cu(x:AV):flat [x]=x.cells:=by simp[flat]
def UZ{s:Sem Next}{aid sz:Nat}{x:AV}{v:Value}{e:TypeId}{rs:List Nat}(m:M T X h w)(hX:∀r,X r->r<w.heap.size)(hid:aid<=h.length)(hT:T aid=none)(h0:0<sz)
 (hf:fits sz x=true) (hx:R T X w x v) (hrun:s.run P w=.ok (.value<|.pointer<|some ⟨w.heap.size,0,none⟩) (w.alloc<|.cells v.cells e)):
 Sim P T X h w s (.ptr aid 0 0 1,rs,some (aid,.row sz [x])):=by
 obtain⟨h1,h2,h3,h4,h5⟩:=Kz hf hx;refine HW (C:=1) (e:=e) m hX hid hT h0 (by simp) (by simpa using h2) (by simpa using h1) ⟨v.cells.toList,by rw[Cu];exact h3,by simp⟩ hrun ?_
 exact⟨⟨_,rfl⟩,sz,1,some w.heap.size,1,0,upd_same _ _ _,ZX0 _,λ_=>⟨w.heap.size,rfl,by omega,by simp⟩⟩
def KB(t:TypeId)(v:Value)(w:World):(newVar t v).run P w=.ok ⟨w.heap.size,0,none⟩ (w.alloc<|.cells v.cells t):=by
 simp[newVar,newRow]
def Mj{s:Sem Next}{x:AV}{v:Value}{e:TypeId}{rs:List Nat}{sz:Nat}{bw:Bool}(m:M T X h w)(hX:∀r,X r->r<w.heap.size)(hf:fits sz x=true)(hc:okc bw x.cells=true)
 (hx:R T X w x v) (hrun:s.run P w=.ok (.value<|.pointer<|some ⟨w.heap.size,0,none⟩) (w.alloc<|.cells v.cells e)):
 Sim P T X h w s (.iptr bw x.cells,rs,none):=by
 obtain⟨h1,h2,h3,h4,h5⟩:=Kz hf hx;have st:=UT T w<|.cells v.cells e;refine⟨T,_,_,.inl hrun,st,Xr m st<|λr hr=>alloc_old w _<|m.lt r hr,?_⟩
 refine⟨w.heap.size,0,rfl,λhr=>by have:=m.lt _ hr;omega,λ_ hxx=>by have:=hX _ hxx;omega,hc,by rw[World.size_alloc];omega,?_⟩
 exact Xs (Yb st _ _ h3)<|λj u hu=>by rw[KA,ZXf];simpa using hu
def addr_add(r o j:Nat):Addr.add ⟨r,o,none⟩ j=⟨r,o+j,none⟩:=by
 unfold Addr.add;split
 .next h=>subst h;rfl
 .rfl
def Xv(P:Program)(t:TypeId)(n:Option Nat):Bool:=
 match P.underlying t with
 |none=>false
 |some _=>if ZF P t then(match n with|some k=>decide (ZR P t=some k)|none=>false)else n.isNone
def G0{t:TypeId}{n:Option Nat}{cs:List AV}{r o:Nat}{v:AV}(hn:Xv P t n=true)(hc:ZV T X w r cs o)(hv:takeC n cs=some v):
 ∃rv,(loadVar t ⟨r,o,none⟩).run P w=.ok rv w/\R T X w v rv:=by
 unfold Xv at hn;cases hu:P.underlying t with
 |none=>rw[hu]at hn;cases hn
 |some d=>
  rw[hu]at hn;simp only at hn;cases ha:ZF P t with
  |false=>
   rw[ha]at hn;simp at hn;subst hn;cases cs with
   |nil=>simp[takeC]at hv
   |cons c cs=>
    simp[takeC]at hv;subst hv;obtain⟨⟨u,h1,h2⟩,_⟩:=hc;refine⟨u,?_,h2⟩;simp only[loadVar,Sem.run_bind,V1 w hu,Result.andThen_ok,ha,ZX2,if_false];rw[run_load];simp only[World.at]at h1;simp[h1]
  |true=>
   rw[ha]at hn;cases n with
   |none=>simp at hn
   |some k=>
    simp at hn;simp only[takeC]at hv;cases hk:Nat.ble k cs.length with
    |false=>rw[hk]at hv;cases hv
    |true=>
     rw[hk]at hv;simp at hv;subst hv;have hkl:k<=cs.length:=ZXs hk;obtain⟨us,h1,h2⟩:=Kv<|Mh k hc;have hl:=Qr h2;simp only[ZXL,Nat.min_eq_left hkl]at hl;refine⟨.agg us.toArray,?_,us.toArray,rfl,by simpa using h2⟩
     simp only[loadVar,Sem.run_bind,V1 w hu,Result.andThen_ok,ha,if_true,QY w hn];rw[hl,run_loadCells_list w ⟨r,o,none⟩ us<|λj u hj=>by rw[addr_add];exact h1 j u hj]
     simp
def JU(m:M T X h w){b sz:Nat}{es:List AV}(hb:h[b]?=some (.row sz es)){i off g:Nat}{v:Value}(hv:R T X w (.ptr b i off g) v)(hg:es.length=g):
 ∃r C B cs el,T b=some (.row sz es.length (some r) C B)/\v=.pointer (some ⟨r,(B+i)*sz+off,none⟩)/\i<es.length/\w.heap[r]?=some (.cells cs el (0,0))/\cs.size=C*sz/\B+es.length<=C/\0<sz/\ZA T X w sz r es (B*sz):=by
 obtain⟨r,C,B,hT,h0,hC,hr⟩:=XV m hb;obtain⟨_,sz',g',r',C',B',hT',hle,hval⟩:=hv;rw[hT]at hT';cases hT';obtain⟨r2,rfl,hi,rfl⟩:=hval hg.symm;obtain⟨cs,el,h1,h2,h3⟩:=hr;exact⟨r2,C,B,cs,el,hT,rfl,by omega,h1,h2,hC,h0,h3⟩
def Cv{s:Sem Next}{t:TypeId}{n:Option Nat}{x:AV}{v:Value}{res:Zt}(m:M T X h w)(hn:Xv P t n=true)(hx:R T X w x v)
 (hs:∀rv,(Instr.loadAt t v).run P w=.ok rv w->s.run P w=.ok (.value rv) w)
 (he:(match(generalizing:=false) x with
  | .iptr _ cs=>Zl<|takeC n cs
  | .ptr b i off g=>
   match h[b]? with
   |some (.row _ es)=>
    bif es.length==g then
     match es[i]? with
     |some e=>(takeC n<|e.cells.drop off).map λv=>(v,[b],none)
     |none=>none
    else none
   |_=>none
  |_=>none)=some res):Sim P T X h w s res:=by
 cases x<;>simp only[reduceCtorEq]at he
 case iptr bw cs=>
  obtain⟨u,hu,rfl⟩:=ZY he;obtain⟨r,o,rfl,_,_,_,_,hc⟩:=hx;obtain⟨rv,h1,h2⟩:=G0 hn hc hu;exact Sim.pure m (hs rv<|by simpa[Instr.loadAt,Instr.sureAddr]using h1) h2
 case ptr b i off g=>
  cases hb:h[b]? with
  |none=>rw[hb]at he;cases he
  |some o=>
   rw[hb]at he;cases o<;>simp only[reduceCtorEq]at he
   case row sz es=>
    cases hg:(es.length==g)with
    |false=>rw[hg]at he;cases he
    |true=>
     rw[hg]at he;simp only[cond_true]at he;cases hi:es[i]? with
     |none=>rw[hi]at he;cases he
     |some e=>
      rw[hi]at he;simp only[ZXi]at he;obtain⟨u,hu,rfl⟩:=he;obtain⟨r,C,B,cs,el,hT,rfl,hilt,h1,h2,h3,h4,h5⟩:=JU m hb hx<|by simpa using hg
      obtain⟨h6,h7⟩:=Kw i h5 hi;rw[<-ZXw]at h7;obtain⟨rv,h8,h9⟩:=G0 hn (Ku off h7) hu;exact⟨T,w,rv,.inl<|hs rv<|by simpa[Instr.loadAt,Instr.sureAddr]using h8,.refl _ _,m,h9⟩
end Go.AM
namespace Go.AM
open Go
variable [Dr]
variable {P:Program} {E:Env} {T:Ty} {X:Xt} {w:World} {h:Hp} {fr:Fr} {a:Act}
def KC{T:Ty}{b:Nat}{c:TC}(hT:T b=some c):upd T b c=T:=by
 funext x
 unfold upd;split
 .next e=>subst e;exact hT.symm
 .rfl
def JV{w':World}(m:M T X h w){b r:Nat}{c c':TC}{o:AObj}(hT:T b=some c)(hc:c.real=some r)(hc':c'.real=some r)(hle:XS c c')(hb:b<=h.length)
 (hos:w'.os=w.os) (htape:w'.tape=w.tape) (hout:w'.output=w.output) (hsize:w'.heap.size=w.heap.size) (hk:∀x,x≠r->w'.heap[x]?=w.heap[x]?)
 (hobj:Step T w (upd T b c') w'->YR (upd T b c') X w' (some o) (some c')) (hdr:Dr.d->w.drawn<=w'.drawn:=by intro _;first|exact ZX0 _|exact Nat.le_add_right ..):Step T w (upd T b c') w'/\M (upd T b c') X (setH h b o) w':=by
 have st:Step T w (upd T b c') w':=by
  refine⟨hos,htape,hout,by omega,?_,?_,?_,hdr⟩
  .intro x cx hx;by_cases e:x=b
   .subst e;rw[hT]at hx;cases hx;exact⟨c',upd_same _ _ _,hle⟩
   .exact⟨cx,by rw[upd_ne _ _ e];exact hx,.refl _⟩
  .intro x _ hx;exact hk x<|λe=>hx<|by subst e;exact⟨b,c,hT,hc⟩
  .intro x hx;obtain⟨b',cx,h1,h2⟩:=hx;by_cases e:b'=b
   .subst e;rw[upd_same]at h1;cases h1;rw[hc']at h2;cases h2;exact .inl ⟨b',c,hT,hc⟩
   .rw[upd_ne _ _ e]at h1;exact .inl ⟨b',cx,h1,h2⟩
 refine⟨st,WZ m b o c' hb st ?_ ?_<|hobj st⟩
 .intro b' cx r' hne h1 h2;refine hk r' (λe=>?_)
  subst e;exact hne<|m.inj b' cx b c r' h1 hT h2 hc
 .intro r' hr';rw[hc']at hr';cases hr';refine⟨by have:=m.lt r ⟨b,c,hT,hc⟩;omega,m.notX r ⟨b,c,hT,hc⟩,λb' cx hne h1 h2=>hne<|m.inj b' cx b c r h1 hT h2 hc⟩
def KD{b:Nat}{o:AObj}(hb:h[b]?=some o):b<=h.length:=ZXU (ZXg.1 hb).1
def Mk{es:List AV}{i:Nat}{e:AV}(hi:es[i]?=some e):es=es.take i++e::es.drop (i+1):=by
 have hlt:i<es.length:=(ZXg.1 hi).1;have he:es[i]=e:=(ZXg.1 hi).2;rw[<-he,ZZ7,ZXW]
def Ml{es:List AV}{i:Nat}{e e':AV}(hi:es[i]?=some e):es.set i e'=es.take i++e'::es.drop (i+1):=by
 have hlt:i<es.length:=(ZXg.1 hi).1;rw[ZZm,if_pos hlt]
def KE(a b:List AV):flat (a++b)=flat a++flat b:=by simp[flat]
def VH(a:AV)(b:List AV):flat (a::b)=a.cells++flat b:=by simp[flat]
def HX{es:List AV}{sz:Nat}(hs:∀e∈es,e.cells.length=sz):(flat es).length=es.length*sz:=by
 induction es with
 |nil=>simp[flat]
 |cons a es ih=>
  rw[VH,ZX7,hs a (by simp),ih<|λe he=>hs e<|by simp[he],ZXr,ZYc];omega
def HZ{sz r:Nat}{es:List AV}{cs:Array Value}{el:TypeId}{fz:Nat×Nat}{C B:Nat}(hr:ZA T X w sz r es<|B*sz)(hh:w.heap[r]?=some (.cells cs el fz))(hC:cs.size=C*sz)(hle:B+es.length<=C):
 ∃pre us rest,cs.toList=pre++(us++rest)/\pre.length=B*sz/\Rs T X w (flat es) us/\us.length=es.length*sz:=by
 obtain⟨h1,h2,h3⟩:=Kx hr;obtain⟨us,h4,h5⟩:=Kv h1;have hl:=Qr h5;have hB:B*sz+es.length*sz<=cs.size:=by rw[hC,<-ZXw];exact ZY7 _ hle
 refine⟨cs.toList.take<|B*sz,us,(cs.toList.drop<|B*sz).drop us.length,?_,by simp;omega,h5,by omega⟩
 have:us=(cs.toList.drop<|B*sz).take us.length:=by
  apply ZYp;intro j;by_cases hj:j<us.length
  .rw[ZYu hj];have:=h4 j us[j]<|ZX5 hj;simp only[World.at,World.cell?,hh]at this;simp at this;rw[ZX5 hj,ZYd,ZY2,<-this]
  .rw[ZXQ (by omega),ZXQ<|by simp;omega]
 conv=>lhs;rw[<-ZXW (B*sz) cs.toList,<-ZXW us.length (cs.toList.drop<|B*sz)]
 rw[<-this]
def Mm{r:Nat}{old new:Array Value}{el:TypeId}{fz:Nat×Nat}(hh:w.heap[r]?=some (.cells old el fz))(j:Nat):World.at (w.setRow r new) r j=new[j]?:=by
 have:=setRow_heap w r old new el fz hh;simp only[World.at,World.cell?,this];simp
def Cw{t:TypeId}{n:Nat}{r o:Nat}{v:Value}{cs:Array Value}{el:TypeId}(hn:ZR P t=some n)(hv:v.cells.size=n)(h1:∀c∈v.cells.toList,c.oneCell'=true)
 (hh:w.heap[r]?=some (.cells cs el (0,0))) (hle:o+n<=cs.size):
 (storeVar t ⟨r,o,none⟩ v).run P w=.ok () (w.setRow r (cs.toList.take o++v.cells.toList++cs.toList.drop (o+n)).toArray):=by
 simp only[storeVar,Sem.run_bind,QY w hn,Result.andThen_ok,hv,ne_eq,not_true_eq_false,if_false];have:=run_storeCells_at (P:=P) r o el v.cells.toList 0 cs w hh (by simp[hv];exact hle) h1
 simp only[ZXE,ZXD,hv]at this;simpa using this
def Cx{s:Sem Next}{t:TypeId}{n:Nat}{x y:AV}{vx vy:Value}{res:Zt}(m:M T X h w)(hn:ZR P t=some n)(hx:R T X w x vx)(hy:R T X w y vy)
 (hs:∀w',(Instr.storeAt t vx vy).run P w=.ok () w'->s.run P w=.ok .skip w')
 (he:(match(generalizing:=false) x with
  | .ptr b i off g=>
   match h[b]? with
   |some (.row sz es)=>
    let cs:=y.cells
    bif es.length==g&&fits n y then
     match es[i]? with
     |some (.agg old)=>
      bif Nat.ble (off+n) old.length then some (AV.bot,[b],some (b,AObj.row sz<|es.set i<|.agg<|old.take off++cs++old.drop (off+n)))else none
     |some _=>
      match cs with
      |[c]=>bif off==0 then some (AV.bot,[b],some (b,AObj.row sz<|es.set i c))else none
      |_=>none
     |none=>none
    else none
   |_=>none
  |_=>none)=some res):Sim P T X h w s res:=by
 cases x<;>simp only[reduceCtorEq]at he
 case ptr b i off g=>
  cases hb:h[b]? with
  |none=>rw[hb]at he;cases he
  |some o=>
   rw[hb]at he;cases o<;>simp only[reduceCtorEq]at he
   case row sz es=>
    cases hg:(es.length==g&&fits n y)with
    |false=>rw[hg]at he;cases he
    |true=>
     rw[hg]at he;simp only[cond_true]at he;simp only[ZWT,beq_iff_eq]at hg;obtain⟨hg,hf⟩:=hg;obtain⟨f1,f2,f3,f4,f5⟩:=Kz hf hy;obtain⟨r,C,B,cs,el,hT,rfl,hilt,h1,h2,h3,h4,h5⟩:=JU m hb hx hg;obtain⟨pre,us,rest,hus,hpl,hRs,hul⟩:=HZ h5 h1 h2 h3;have key:∀e e',es[i]?=some e->off+n<=e.cells.length->e'.cells=e.cells.take off++y.cells++e.cells.drop (off+n)->
      res=(AV.bot,[b],some (b,AObj.row sz<|es.set i e'))->Sim P T X h w s res:=by
      intro e e' hi hoff hce hres;have hes:=Mk hi;have hsz:=(Kx h5).2.2;have hlen1:(es.take i).length=i:=by simp;omega
      have hl1:(flat<|es.take i).length=i*sz:=by
       rw[HX (sz:=sz)<|λe he=>hsz e<|ZYl he,hlen1]
      have hesz:e.cells.length=sz:=hsz e<|ZXk hi;have hR2:Rs T X w (flat (es.take i)++(e.cells++flat (es.drop<|i+1))) us:=by
       rw[<-VH,<-KE,<-hes];exact hRs
      obtain⟨u1,hu1⟩:∃u1,u1=us.take (i*sz):=⟨_,rfl⟩;have hulen:us.length=i*sz+(sz+(flat<|es.drop<|i+1).length):=by
       have:=Qr hR2;simp only[ZX7,hl1,hesz]at this;omega
      have R1:Rs T X w (flat<|es.take i) (us.take<|i*sz):=by
       have:=Kt (i*sz) hR2
       rwa[ZYI hl1]at this
      have R23:Rs T X w (e.cells++flat (es.drop<|i+1)) (us.drop<|i*sz):=by
       have:=VE (i*sz) hR2
       rwa[ZYP hl1]at this
      have Re:Rs T X w e.cells ((us.drop<|i*sz).take sz):=by
       have:=Kt sz R23
       rwa[ZYI hesz]at this
      have R3:Rs T X w (flat<|es.drop<|i+1) ((us.drop<|i*sz).drop sz):=by
       have:=VE sz R23
       rwa[ZYP hesz]at this
      have hsize:cs.size=B*sz+(us.length+rest.length):=by
       have:=congrArg List.length hus;simpa[hpl]using this
      have hBi:(B+i)*sz=B*sz+i*sz:=ZXw _ _ _;have hrun:=Cw (P:=P) (o:=(B+i)*sz+off) hn f2 f4 h1<|by omega
      obtain⟨new,hnew⟩:∃new,new=(cs.toList.take ((B+i)*sz+off)++vy.cells.toList++cs.toList.drop ((B+i)*sz+off+n)):=⟨_,rfl⟩;rw[<-hnew]at hrun;have hnew2:new=pre++(us.take (i*sz)++(((us.drop<|i*sz).take sz).take off++vy.cells.toList++((us.drop<|i*sz).take sz).drop (off+n))++(us.drop<|i*sz).drop sz++rest):=by
       rw[hnew,hus,show(B+i)*sz+off=pre.length+(i*sz+off)by omega,show pre.length+(i*sz+off)+n=pre.length+(i*sz+off+n)by omega,ZZ8,List.drop_length_add_append]
       have e1:(us++rest).take (i*sz+off)=us.take (i*sz)++((us.drop<|i*sz).take sz).take off:=by
        rw[List.take_append_of_le_length (by omega),List.take_add,List.take_take,Nat.min_eq_left<|by omega]
       have e2:(us++rest).drop (i*sz+off+n)=((us.drop<|i*sz).take sz).drop (off+n)++(us.drop<|i*sz).drop sz++rest:=by
        rw[ZZ9<|by omega]
        congr 1
        conv=>lhs;rw[show i*sz+off+n=i*sz+(off+n)by omega,<-ZXZ]
        have hh:(us.drop<|i*sz).drop (off+n)=(((us.drop<|i*sz).take sz)++((us.drop<|i*sz).drop sz)).drop (off+n):=by rw[ZXW]
        rw[hh,ZZ9<|by simp;omega]
       rw[e1,e2];simp[ZXx]
      have hnewsize:new.length=cs.size:=by
       rw[hnew];simp[f2];omega
      have hw':(w.setRow r new.toArray).heap[r]?=some (.cells new.toArray el (0,0)):=setRow_heap w r cs new.toArray el (0,0) h1;obtain⟨st,hm⟩:=JV (w':=w.setRow r new.toArray) (o:=.row sz<|es.set i e') (c':=.row sz es.length (some r) C B) m hT rfl rfl (.refl _) (KD hb) rfl rfl rfl (setRow_size _ _ _)
       (λx hx=>setRow_other w r x _ hx)
       (λst=>⟨rfl,by simp,h4,h3,new.toArray,el,hw',by simpa[hnewsize]using h2,by
        rw[KC hT]at st⊢;refine Wq ?_ ?_
        .intro x hx;rcases ZZa hx with hx|hx
         .exact hsz x hx
         .subst hx;rw[hce];simp[f1,hesz];omega
        .have hfl:flat (es.set i e')=flat (es.take i)++(e.cells.take off++y.cells++e.cells.drop (off+n))++flat (es.drop<|i+1):=by
          rw[Ml hi,KE,VH,hce];simp
         rw[hfl];have hR:Rs T X w (flat (es.take i)++(e.cells.take off++y.cells++e.cells.drop (off+n))++flat (es.drop<|i+1)) (us.take (i*sz)++(((us.drop<|i*sz).take sz).take off++vy.cells.toList++((us.drop<|i*sz).take sz).drop (off+n))++(us.drop<|i*sz).drop sz):=
          QR (QR R1<|QR (QR (Kt off Re) f3)<|VE (off+n) Re) R3
         refine Xs (Yb st _ _ hR)<|λj u hj=>?_
         rw[Mm h1];simp only[ZYv];rw[hnew2,ZY0 (by omega),hpl,show B*sz+j-B*sz=j by omega,ZXK (ZXg.1 hj).1]
         exact hj⟩)
      rw[KC hT]at st hm;subst hres;exact⟨T,_,undef,.inr ⟨hs _ (by simpa[Instr.storeAt,Instr.sureAddr]using hrun),rfl⟩,st,hm,trivial⟩
     cases hi:es[i]? with
     |none=>rw[hi]at he;cases he
     |some e=>
      rw[hi]at he;have other:∀c,y.cells=[c]->off=0->e.cells=[e]->res=(AV.bot,[b],some (b,AObj.row sz<|es.set i c))->Sim P T X h w s res:=by
       intro c hc hoff hee hres;have hn1:n=1:=by rw[<-f1,hc];rfl
       have hcc:c.cells=[c]:=by
        have:=f5 c<|by rw[hc];simp
        cases c<;>first|rfl|simp[scalar]at this
       exact key e c hi (by rw[hee,hoff,hn1];simp) (by rw[hcc,hee,hoff,hc,hn1];simp) hres
      cases e with
      |agg old=>
       simp only at he;cases ho:Nat.ble (off+n) old.length with
       |false=>rw[ho]at he;cases he
       |true=>
        rw[ho]at he;simp only[cond_true,Option.some.injEq]at he;exact key (.agg old) _ hi (ZXs ho) rfl he.symm
      |_=>
       simp only at he;split at he
       .next c hc=>
        cases ho:(off==0)with
        |false=>rw[ho]at he;cases he
        |true=>
         rw[ho]at he;simp only[cond_true,Option.some.injEq]at he;exact other c hc (by simpa using ho) rfl he.symm
       .cases he
end Go.AM
namespace Go.AM
open Go
variable [Dr]
variable {P:Program} {E:Env} {T:Ty} {X:Xt} {w:World} {h:Hp} {fr:Fr} {a:Act} {b sz g r C i off:Nat}
def G1:∀{cs:List AV},Z4 cs=true↔∀c∈cs,clean c=true
 |[]=>by simp[Z4]
 |c::cs=>by simp[Z4,G1 (cs:=cs)]
def Cy{cs:List AV}(n:Nat)(h:Z4 cs=true):Z4 (cs.drop n)=true:=by
 rw[G1]at*;exact λc hc=>h c<|ZYJ hc
def Cz{cs:List AV}(n:Nat)(h:Z4 cs=true):Z4 (cs.take n)=true:=by
 rw[G1]at*;exact λc hc=>h c<|ZYl hc
def KF:∀{cs:List AV},Zi cs=true↔∀c∈cs,Zy c=true
 |[]=>by simp[Zi]
 |c::cs=>by simp[Zi,KF (cs:=cs)]
def R0{bw:Bool}{cs:List AV}(n:Nat)(h:okc bw cs=true):okc bw (cs.drop n)=true:=by
 cases bw with
 |false=>exact Cy n h
 |true=>exact KF.2<|λc hc=>KF.1 h c<|ZYJ hc
def CA{bw:Bool}{cs:List AV}(n:Nat)(h:okc bw cs=true):okc bw (cs.take n)=true:=by
 cases bw with
 |false=>exact Cz n h
 |true=>exact KF.2<|λc hc=>KF.1 h c<|ZYl hc
def CB{c:AV}(h:clean c=true):Z4 c.cells=true:=by
 cases c<;>simp_all[AV.cells,Z4,clean]
def CC{bw:Bool}{es:List AV}{e:AV}{i:Nat}(h:okc bw es=true)(hi:es[i]?=some e):okc bw e.cells=true:=by
 cases bw with
 |false=>exact CB<|G1.1 h e<|ZXk hi
 |true=>
  have:=KF.1 h e<|ZXk hi;show Zi e.cells=true
  cases e<;>simp_all[AV.cells,Zi,Zy]
def R4(m:M T X h w){b g i off:Nat}{v:Value}{res:Zt}{F:List AV->Option Zt}(hv:R T X w (.ptr b i off g) v)
 (he:(match(generalizing:=false) h[b]? with
  |some (.row _ es)=>bif es.length==g then F es else none
  |_=>none)=some res):∃sz es r C B cs el,h[b]?=some (.row sz es)/\es.length=g/\F es=some res/\T b=some (.row sz g (some r) C B)/\v=.pointer (some ⟨r,(B+i)*sz+off,none⟩)/\i<g/\
   w.heap[r]?=some (.cells cs el (0,0))/\cs.size=C*sz/\B+g<=C/\0<sz/\ZA T X w sz r es (B*sz):=by
 cases hb:h[b]? with
 |none=>rw[hb]at he;cases he
 |some o=>
  rw[hb]at he;cases o<;>(first|(simp only[reduceCtorEq]at he;done)|dsimp only at he|skip)
  case row sz es=>
   cases hg:(es.length==g)with
   |false=>rw[hg]at he;cases he
   |true=>
    rw[hg]at he;have hg':es.length=g:=by simpa using hg
    obtain⟨r,C,B,cs,el,hT,hv2,hi,h1,h2,h3,h4,h5⟩:=JU m hb hv hg';subst hg';exact⟨sz,es,r,C,B,cs,el,rfl,rfl,by simpa using he,hT,hv2,hi,h1,h2,h3,h4,h5⟩
def R5{B:Nat}(hT:T b=some (.row sz g (some r) C B))(hi:i<g):R T X w (.ptr b i off g) (.pointer<|some ⟨r,(B+i)*sz+off,none⟩):=
 ⟨⟨_,rfl⟩,sz,g,some r,C,B,hT,ZX0 _,λ_=>⟨r,rfl,hi,rfl⟩⟩
def CD{s:Sem Next}{t:TypeId}{fs:Array Field}{f:Field}{k n:Nat}{x:AV}{v:Value}{res:Zt}(m:M T X h w)(ht:P.underlying t=some (.struct fs))(hf:fs[k]?=some f)(hn:ZR P f.type=some n)(h0:n≠0)
 (hx:R T X w x v) (hs:∀rv,(Instr.fieldAt t v k).run P w=.ok rv w->s.run P w=.ok (.value rv) w)
 (he:(match(generalizing:=false) x with
  | .iptr bw cs=>Zl<|some<|.iptr bw<|cs.drop f.offset
  | .ptr b i off g=>
   match h[b]? with
   |some (.row _ es)=>bif es.length==g then some (AV.ptr b i (off+f.offset) g,[b],none)else none
   |_=>none
  |_=>none)=some res):Sim P T X h w s res:=by
 have run:∀ad:Addr,(Instr.fieldAt t (.pointer<|some ad) k).run P w=.ok (.pointer<|some<|ad.add f.offset) w:=by
  intro ad;simp[Instr.fieldAt,run_underlying ht,hf,Instr.sureAddr,fieldPlace,QY w hn,h0]
 cases x<;>(first|(simp only[reduceCtorEq]at he;done)|dsimp only at he|skip)
 case iptr bw cs=>
  obtain⟨u,hu,rfl⟩:=ZY he;cases hu;obtain⟨r,o,rfl,h1,h2,h3,h4,h5⟩:=hx;exact Sim.pure m (hs _<|run _) ⟨r,o+f.offset,by rw[addr_add],h1,h2,R0 _ h3,h4,Ku _ h5⟩
 case ptr b i off g=>
  obtain⟨sz,es,r,C,B,cs,el,hb,hg,he,hT,rfl,hi,h1,h2,h3,h4,h5⟩:=R4 m (F:=λes=>some (AV.ptr b i (off+f.offset) g,[b],none)) hx he
  simp only[Option.some.injEq]at he;subst he;exact Sim.pure m (hs _<|run _)<|by rw[addr_add,ZXM];exact R5 hT hi
def ZGx{s:Sem Next}{neg:Bool}{x:AV}{v:Value}{res:Zt}(m:M T X h w)(hx:R T X w x v)
 (hs:∀p,v=.pointer p->s.run P w=.ok (.value<|.bool (if neg then p.isSome else p.isNone)) w)
 (he:(match(generalizing:=false) x with
  | .nilp=>Zl<|some<|.bool !neg
  | .iptr _ _=>Zl<|some<|.bool neg
  | .ptr b _ _ g=>
   match h[b]? with
   |some (.row _ es)=>bif es.length==g then some (AV.bool neg,[b],none)else none
   |_=>none
  |_=>none)=some res):Sim P T X h w s res:=by
 cases x<;>(first|(simp only[reduceCtorEq]at he;done)|dsimp only at he|skip)
 case nilp=>
  obtain⟨u,hu,rfl⟩:=ZY he;cases hu;have hx:v=.pointer none:=hx;subst hx;exact Sim.pure m (hs _ rfl)<|by cases neg<;>rfl
 case iptr bw cs=>
  obtain⟨u,hu,rfl⟩:=ZY he;cases hu;obtain⟨r,o,rfl,_⟩:=hx;exact Sim.pure m (hs _ rfl)<|by cases neg<;>rfl
 case ptr b i off g=>
  obtain⟨sz,es,r,C,B,cs,el,hb,hg,he,hT,rfl,hi,h1,h2,h3,h4,h5⟩:=R4 m (F:=λes=>some (AV.bool neg,[b],none)) hx he
  simp only[Option.some.injEq]at he;subst he;exact Sim.pure m (hs _ rfl)<|by cases neg<;>rfl
def CE{s:Sem Next}{x:AV}{v:Value}{res:Zt}(m:M T X h w)(hx:R T X w x v)
 (hs:(∃p,v=.pointer (some p))\/(∃f c e,v=.func (.func f) c e)->s.run P w=.ok (.value v) w)
 (he:(match(generalizing:=false) x with
  | .iptr bw cs=>Zl<|some<|.iptr bw cs
  | .ptr b i off g=>
   match h[b]? with
   |some (.row _ es)=>bif es.length==g then some (AV.ptr b i off g,[b],none)else none
   |_=>none
  | .clo (.func f) first cap=>Zl<|some<|.clo (.func f) first cap
  |_=>none)=some res):Sim P T X h w s res:=by
 cases x<;>(first|(simp only[reduceCtorEq]at he;done)|dsimp only at he|skip)
 case iptr bw cs=>
  obtain⟨u,hu,rfl⟩:=ZY he;cases hu;have hx':=hx;obtain⟨r,o,rfl,_⟩:=hx;exact Sim.pure m (hs<|.inl ⟨_,rfl⟩) hx'
 case ptr b i off g=>
  obtain⟨sz,es,r,C,B,cs,el,hb,hg,he,hT,rfl,hi,h1,h2,h3,h4,h5⟩:=R4 m (F:=λes=>some (AV.ptr b i off g,[b],none)) hx he
  simp only[Option.some.injEq]at he;subst he;exact Sim.pure m (hs<|.inl ⟨_,rfl⟩) hx
 case clo fn first cap=>
  cases fn<;>(first|(simp only[reduceCtorEq]at he;done)|dsimp only at he|skip)
  obtain⟨u,hu,rfl⟩:=ZY he;cases hu;have hx':=hx;obtain⟨f,c,rfl,_⟩:=hx;exact Sim.pure m (hs<|.inr ⟨_,_,_,rfl⟩) hx'
def Wv{p:Prop}[Decidable p]{α:Type}{x:Option α}{y:α}(h:(if p then x else none)=some y):p/\x=some y:=by
 by_cases hp:p
 .rw[if_pos hp]at h;exact⟨hp,h⟩
 .rw[if_neg hp]at h;cases h
def CF{s:Sem Next}{t e:TypeId}{sz:Nat}{x y:AV}{v u:Value}{res:Zt}(m:M T X h w)(ht:P.underlying t=some (.slice e))(hn:ZR P e=some sz)
 (hx:R T X w x v) (hy:R T X w y u) (hs:∀rv,(Instr.indexAt t v u).run P w=.ok rv w->s.run P w=.ok (.value rv) w)
 (he:(match(generalizing:=false) x,y with
 | .isl bw _ sz' es,.int _ n=>
  if 0<=n then
   match es[n.toNat]? with
   |some e=>bif sz'==sz then Zl (some<|.iptr bw e.cells)else none
   |none=>none
  else none
 | .sl b g off len _,.int _ n=>
  if 0<=n/\n<(len:Int)then
   match h[b]? with
   |some (.row sz' es)=>bif sz'==sz&&es.length==g then some (AV.ptr b (off+n.toNat) 0 g,[b],none)else none
   |_=>none
  else none
 |_,_=>none)=some res):Sim P T X h w s res:=by
 have run:∀(k:IntKind)(n:Int)(ad:Addr)(l c:Nat),0<=n->n<(l:Int)->(Instr.indexAt t (.slice (some ad) l c)<|.int k n).run P w=.ok (.pointer<|some<|ad.add<|n.toNat*sz) w:=by
  intro k n ad l c h1 h2;simp[Instr.indexAt,asIntOf,run_underlying ht,h1,h2,QY w hn]
 cases x<;>(first|(simp only[reduceCtorEq]at he;done)|dsimp only at he|skip)
 case isl bw ex sz' es=>
  cases y<;>(first|(simp only[reduceCtorEq]at he;done)|dsimp only at he|skip)
  case int k n=>
   obtain⟨h0,he⟩:=Wv he;cases hi:es[n.toNat]? with
   |none=>rw[hi]at he;cases he
   |some el=>
    rw[hi]at he;simp only at he;cases hz:(sz'==sz)with
    |false=>rw[hz]at he;cases he
    |true=>
     rw[hz]at he;obtain⟨q,hq,rfl⟩:=ZY he;cases hq;have hz':sz'=sz:=by simpa using hz
     subst hz';cases QS hy;obtain⟨ad,len,cap,rfl,h1,h2,h3,h4,h5⟩:=hx;have hlt:n.toNat<es.length:=(ZXg.1 hi).1;rcases h5 with rfl|⟨r,o,rfl,h6,h7,h8,h9⟩
     .simp at hlt
     obtain⟨h10,h11⟩:=Kw n.toNat h9 hi;refine Sim.pure m (hs _<|run k n _ _ _ h0<|by omega) ⟨r,o+n.toNat*sz',by rw[addr_add],h6,h7,CC h4 hi,h8,h11⟩
 case sl b g off len ex=>
  cases y<;>(first|(simp only[reduceCtorEq]at he;done)|dsimp only at he|skip)
  case int k n=>
   obtain⟨⟨h0,hl⟩,he⟩:=Wv he;cases hb:h[b]? with
   |none=>rw[hb]at he;cases he
   |some o=>
    rw[hb]at he;cases o<;>(first|(simp only[reduceCtorEq]at he;done)|dsimp only at he|skip)
    case row sz' es=>
     cases hz:(sz'==sz&&es.length==g)with
     |false=>rw[hz]at he;cases he
     |true=>
      rw[hz]at he;simp only[cond_true,Option.some.injEq]at he;subst he;simp only[ZWT,beq_iff_eq]at hz;obtain⟨rfl,hg⟩:=hz;cases QS hy;obtain⟨r,C,B,hT,q0,hC,hr⟩:=XV m hb;obtain⟨_,sz2,g2,r2,C2,B2,hT2,q1,q2,q3⟩:=hx;rw[hT]at hT2;cases hT2;obtain⟨cap,q4,q5,q6,q7⟩:=q3 hg.symm;rcases q7 with⟨r3,rfl,rfl⟩|⟨q7,_,_⟩
      .refine Sim.pure m (hs _<|run k n _ _ _ h0<|by omega) ?_
       rw[addr_add,show(B+off)*sz'+n.toNat*sz'=(B+(off+n.toNat))*sz'+0 by rw[<-ZXw,ZXM];rfl]
       rw[<-hg];exact R5 hT<|by omega
      .omega
def CG{s:Sem Next}{t e:TypeId}{sz len:Nat}{x y:AV}{v u:Value}{res:Zt}(m:M T X h w)(ht:P.underlying t=some (.array len e))(hn:ZR P e=some sz)
 (hx:R T X w x v) (hy:R T X w y u) (hs:∀rv,(Instr.indexAt t v u).run P w=.ok rv w->s.run P w=.ok (.value rv) w)
 (he:(match(generalizing:=false) x,y with
 | .iptr bw cs,.int _ n=>if 0<=n/\n<(len:Int)then Zl (some<|.iptr bw<|cs.drop<|n.toNat*sz)else none
 | .ptr b j off g,.int _ n=>
  match h[b]? with
  |some (.row _ es)=>bif es.length==g then(if 0<=n/\n<(len:Int)then some (AV.ptr b j (off+n.toNat*sz) g,[b],none)else none)else none
  |_=>none
 |_,_=>none)=some res):Sim P T X h w s res:=by
 have run:∀(k:IntKind)(n:Int)(ad:Addr),0<=n->n<(len:Int)->(Instr.indexAt t (.pointer<|some ad)<|.int k n).run P w=.ok (.pointer<|some<|ad.add<|n.toNat*sz) w:=by
  intro k n ad h1 h2;simp[Instr.indexAt,asIntOf,run_underlying ht,h1,h2,QY w hn,Instr.sureAddr]
 cases x<;>(first|(simp only[reduceCtorEq]at he;done)|dsimp only at he|skip)
 case iptr bw cs=>
  cases y<;>(first|(simp only[reduceCtorEq]at he;done)|dsimp only at he|skip)
  case int k n=>
   obtain⟨⟨h0,hl⟩,he⟩:=Wv he;obtain⟨q,hq,rfl⟩:=ZY he;cases hq;cases QS hy;obtain⟨r,o,rfl,h1,h2,h3,h4,h5⟩:=hx;exact Sim.pure m (hs _<|run k n _ h0 hl) ⟨r,o+n.toNat*sz,by rw[addr_add],h1,h2,R0 _ h3,h4,Ku _ h5⟩
 case ptr b i off g=>
  cases y<;>(first|(simp only[reduceCtorEq]at he;done)|dsimp only at he|skip)
  case int k n=>
   obtain⟨sz2,es,r,C,B,cs,el,hb,hg,he,hT,rfl,hi,h1,h2,h3,h4,h5⟩:=R4 m (F:=λes=>if 0<=n/\n<(len:Int)then some (AV.ptr b i (off+n.toNat*sz) g,[b],none)else none) hx he
   obtain⟨⟨h0,hl⟩,he⟩:=Wv he;simp only[Option.some.injEq]at he;subst he;cases QS hy;exact Sim.pure m (hs _<|run k n _ h0 hl)<|by rw[addr_add,ZXM];exact R5 hT hi
def Mn{t:TypeId}{n:Option Nat}{cs:List AV}{vs:Array Value}{off:Nat}{v:AV}(hn:Xv P t n=true)(hc:Rs T X w cs vs.toList)(hv:takeC n (cs.drop off)=some v):
 ∃rv,(part t vs off).run P w=.ok rv w/\R T X w v rv:=by
 unfold Xv at hn;have hlen:=Qr hc;cases hu:P.underlying t with
 |none=>rw[hu]at hn;cases hn
 |some d=>
  rw[hu]at hn;simp only at hn;cases ha:ZF P t with
  |false=>
   rw[ha]at hn;simp at hn;subst hn;have hd:=VE off hc;generalize hq:cs.drop off=q at hv hd;cases q with
   |nil=>simp[takeC]at hv
   |cons c q=>
    simp[takeC]at hv;subst hv;obtain⟨u,ur,h1,h2,h3⟩:=hd;refine⟨u,?_,h2⟩;have hget:vs[off]?=some u:=by
     have:=congrArg (λl:List Value=>l[0]?) h1
     simpa using this
    simp only[part,Sem.run_bind,V1 w hu,Result.andThen_ok,ha,ZX2,if_false,hget,Sem.run_pure]
  |true=>
   rw[ha]at hn;cases n with
   |none=>simp at hn
   |some k=>
    simp at hn;simp only[takeC]at hv;cases hk:Nat.ble k (cs.drop off).length with
    |false=>rw[hk]at hv;cases hv
    |true=>
     rw[hk]at hv;simp at hv;subst hv;refine⟨.agg<|vs.extract off<|off+k,?_,_,rfl,?_⟩
     .simp only[part,Sem.run_bind,V1 w hu,Result.andThen_ok,ha,if_true,QY w hn,Sem.run_pure]
     .have:=Kt k<|VE off hc;simpa using this
end Go.AM
namespace Go.AM
open Go
variable [Dr]
variable {P:Program} {E:Env} {T:Ty} {X:Xt} {w:World} {h:Hp} {fr:Fr} {a:Act}
def Xw(T:Ty)(X:Xt)(w:World):Option AV->Option Value->Prop
 |none,none=>True
 |some a,some v=>R T X w a v
 |_,_=>False
def G2{k:IntKind}{n:Int}{v:Value}(hv:Xw T X w (some<|.int k n)<|some v):v=.int k n:=hv
def G3{v:AV}{n:Nat}(hv:numOf v=some n):∃k i,v=.int k i/\0<=i/\i.toNat=n:=by
 cases v<;>simp only[numOf,reduceCtorEq]at hv
 case int k i=>
  obtain⟨h0,h1⟩:=Wv hv;simp at h1;exact⟨k,i,rfl,h0,h1⟩
def run_sliceBound{k:IntKind}{i:Int}{y:Nat}{code:BoundsCode}(h0:0<=i)(hy:i.toNat<=y):(Instr.sliceBound (.int k i) y code).run P w=.ok i.toNat w:=by
 have:i<=(y:Int):=by omega
 simp[Instr.sliceBound,asIntOf,h0,this]
def G4{lo hi mx:Option AV}{len l hh:Nat}{m:Option Nat}(hb:bounds lo hi mx len=some (l,hh,m)){rlo rhi rmx:Option Value}(hlo:Xw T X w lo rlo)(hhi:Xw T X w hi rhi)(hmx:Xw T X w mx rmx)
 {cap:Nat} (hcap:len<=cap) (isS:Bool):(Instr.sliceBounds isS len cap rlo rhi rmx).run P w=.ok (l,hh,m.getD cap) w/\l<=hh/\hh<=len/\(∀k,m=some k->hh<=k/\k<=len):=by
 unfold bounds at hb;split at hb
 .next m' h' l' hm' hh' hl'=>
  .cases hc:(Nat.ble l' h'&&Nat.ble h' len&&VB h' len m')with
   |false=>rw[hc]at hb;cases hb
   |true=>
    rw[hc]at hb;simp only[cond_true,Option.some.injEq,Prod.mk.injEq]at hb;obtain⟨rfl,rfl,rfl⟩:=hb;simp only[ZWT,Nat.ble_eq]at hc;obtain⟨⟨c1,c2⟩,c3⟩:=hc;have c3':∀k,m'=some k->h'<=k/\k<=len:=by
     intro k hk;subst hk;simpa[VB]using c3
    refine⟨?_,c1,c2,c3'⟩;have hlow:∀y code,h'<=y->l'<=y->(match rlo with|some v=>Instr.sliceBound v y code|none=>pure 0:Sem Nat).run P w=.ok l' w:=by
     intro y code _ hy;cases lo with
     |none=>
      cases rlo with
      |none=>simp[VA]at hl';subst hl';rfl
      |some _=>exact hlo.elim
     |some v=>
      cases rlo with
      |none=>exact hlo.elim
      |some rv=>
       simp only[VA]at hl';obtain⟨k,i,rfl,h0,rfl⟩:=G3 hl';cases G2 hlo;exact run_sliceBound h0 hy
    cases mx with
    |none=>
     cases rmx with
     |some _=>exact hmx.elim
     |none=>
      simp[Vz]at hm';subst hm';cases hi with
      |none=>
       cases rhi with
       |some _=>exact hhi.elim
       |none=>
        simp[Wl]at hh';subst hh';have:=hlow len .sliceB (by omega) c1
        simp only[Instr.sliceBounds,Sem.run_bind,Sem.run_pure,Result.andThen_ok,Option.isSome_none,ZX2,if_false];cases rlo with
        |none=>simp only at this⊢;simp at this;simp[this]
        |some v=>simp only at this⊢;simp[this]
      |some v=>
       cases rhi with
       |none=>exact hhi.elim
       |some rv=>
        simp only[Wl]at hh';obtain⟨k,i,rfl,h0,rfl⟩:=G3 hh';cases G2 hhi;have:=hlow i.toNat .sliceB (by omega) c1
        simp only[Instr.sliceBounds,Sem.run_bind,Sem.run_pure,Result.andThen_ok,Option.isSome_none,ZX2,if_false];rw[run_sliceBound h0<|by omega]
        cases rlo with
        |none=>simp only at this⊢;simp at this;simp[this]
        |some v=>simp only at this⊢;simp[this]
    |some v=>
     cases rmx with
     |none=>exact hmx.elim
     |some rv=>
      simp only[Vz,ZXi]at hm';obtain⟨mm,hmm,rfl⟩:=hm';obtain⟨k,i,rfl,h0,rfl⟩:=G3 hmm;cases G2 hmx;obtain⟨d1,d2⟩:=c3' _ rfl;cases hi with
      |none=>simp[Wl]at hh'
      |some v=>
       cases rhi with
       |none=>exact hhi.elim
       |some rv=>
        simp only[Wl]at hh';obtain⟨k2,i2,rfl,h02,rfl⟩:=G3 hh';cases G2 hhi;have:=hlow i2.toNat .slice3C (by omega) c1
        simp only[Instr.sliceBounds,Sem.run_bind,Sem.run_pure,Result.andThen_ok,Option.isSome_some,if_true];rw[run_sliceBound h0<|by omega]
        simp only[Result.andThen_ok];rw[run_sliceBound h02<|by omega]
        cases rlo with
        |none=>simp only at this⊢;simp at this;simp[this]
        |some v=>simp only at this⊢;simp[this]
 .cases hb
def CH{s:Sem Next}{t e:TypeId}{sz:Nat}{x:AV}{lo hi mx:Option AV}{v:Value}{rlo rhi rmx:Option Value}{res:Zt}(m:M T X h w)(ht:P.underlying t=some (.slice e))(hn:ZR P e=some sz)
 (hx:R T X w x v) (hlo:Xw T X w lo rlo) (hhi:Xw T X w hi rhi) (hmx:Xw T X w mx rmx) (hs:∀rv,(Instr.sliceAt t v rlo rhi rmx).run P w=.ok rv w->s.run P w=.ok (.value rv) w)
 (he:(match(generalizing:=false) x with
 | .nilsl=>
  match bounds lo hi mx 0 with
  |some _=>Zl<|some .nilsl
  |none=>none
 | .isl bw ex sz' es=>
  match bounds lo hi mx es.length with
  |some (l,hh,m)=>bif sz'==sz then Zl (some<|.isl bw (match m with|none=>ex&&hh==es.length|some m=>m==hh) sz<|(es.drop l).take (hh-l))else none
  |none=>none
 | .sl b g off len ex=>
  match bounds lo hi mx len with
  |some (l,hh,m)=>
   match h[b]? with
   |some (.row sz' es)=>bif sz'==sz&&es.length==g then some (AV.sl b g (off+l) (hh-l) (match m with|none=>ex&&hh==len|some m=>m==hh),[b],none)else none
   |_=>none
  |none=>none
 |_=>none)=some res):Sim P T X h w s res:=by
 have run:∀(a:Option Addr)(len cap l hh mm:Nat),(Instr.sliceBounds true len cap rlo rhi rmx).run P w=.ok (l,hh,mm) w->
  (Instr.sliceAt t (.slice a len cap) rlo rhi rmx).run P w=.ok (.slice (if mm=l then a else a.map (·.add (l*sz))) (hh-l)<|mm-l) w:=by
  intro a len cap l hh mm hb;simp[Instr.sliceAt,Instr.slice,run_underlying ht,hb,QY w hn]
 cases x<;>(first|(simp only[reduceCtorEq]at he;done)|dsimp only at he|skip)
 case nilsl=>
  cases hb:bounds lo hi mx 0 with
  |none=>rw[hb]at he;cases he
  |some q=>
   obtain⟨l,hh,mm⟩:=q;rw[hb]at he;obtain⟨u,hu,rfl⟩:=ZY he;cases hu;have hv:v=.slice none 0 0:=hx;subst hv;obtain⟨h1,h2,h3,h4⟩:=G4 (P:=P) hb hlo hhi hmx (cap:=0) (ZX0 _) true;refine Sim.pure m (hs _<|run _ _ _ _ _ _ h1) ?_;have hm0:mm.getD 0=0:=by
    cases mm with
    |none=>rfl
    |some k=>have:=(h4 k rfl).2;simp;omega
   show Value.slice _ _ _=_
   rw[hm0,show hh-l=0 by omega,show 0-l=0 by omega]
   congr 1;split<;>rfl
 case isl bw ex sz' es=>
  cases hb:bounds lo hi mx es.length with
  |none=>rw[hb]at he;cases he
  |some q=>
   obtain⟨l,hh,mm⟩:=q;rw[hb]at he;dsimp only at he;cases hz:(sz'==sz)with
   |false=>rw[hz]at he;cases he
   |true=>
    rw[hz]at he;obtain⟨u,hu,rfl⟩:=ZY he;cases hu;have hz':sz'=sz:=by simpa using hz
    subst hz';obtain⟨ad,len,cap,rfl,q1,q2,q3,q4,q5⟩:=hx;subst q1;obtain⟨h1,h2,h3,h4⟩:=G4 (P:=P) hb hlo hhi hmx (cap:=cap) q2 true;have hmc:hh<=mm.getD cap:=by
     cases mm with
     |none=>simp;omega
     |some k=>simpa using(h4 k rfl).1
    refine Sim.pure m (hs _<|run _ _ _ _ _ _ h1) ⟨_,_,_,rfl,by simp;omega,by omega,?_,CA _<|R0 _ q4,?_⟩
    .intro hex;cases mm with
     |none=>
      simp only[ZWT,beq_iff_eq]at hex;have:=q3 hex.1;simp;omega
     |some k=>
      have:k=hh:=by simpa using hex
      simp;omega
    .by_cases hempty:l=hh
     .left;subst hempty;simp
     .right;rcases q5 with rfl|⟨r,o,rfl,q6,q7,q8,q9⟩
      .simp at h3;omega
      .refine⟨r,o+l*sz',?_,q6,q7,q8,UV _<|UU _ q9⟩;rw[if_neg<|by omega]
       simp[addr_add]
 case sl b g off len ex=>
  cases hb:bounds lo hi mx len with
  |none=>rw[hb]at he;cases he
  |some q=>
   obtain⟨l,hh,mm⟩:=q;rw[hb]at he;dsimp only at he;cases hbb:h[b]? with
   |none=>rw[hbb]at he;cases he
   |some o=>
    rw[hbb]at he;cases o<;>(first|(simp only[reduceCtorEq]at he;done)|dsimp only at he|skip)
    case row sz' es=>
     cases hz:(sz'==sz&&es.length==g)with
     |false=>rw[hz]at he;cases he
     |true=>
      rw[hz]at he;simp only[cond_true,Option.some.injEq]at he;subst he;simp only[ZWT,beq_iff_eq]at hz;obtain⟨rfl,hg⟩:=hz;obtain⟨r,C,B,hT,q0,hC,hr⟩:=XV m hbb;obtain⟨_,sz2,g2,r2,C2,B2,hT2,q1,q2,q3⟩:=hx;rw[hT]at hT2;cases hT2;obtain⟨cap,q4,q5,q6,q7⟩:=q3 hg.symm;obtain⟨ad,rfl,hq⟩:∃ad,v=.slice ad len cap/\((∃r',r=some r'/\ad=some ⟨r',(B+off)*sz',none⟩)\/(cap=0/\(r=none->ad=none))):=by
       rcases q7 with⟨r',e1,rfl⟩|⟨rfl,p,rfl,q8⟩
       .exact⟨_,rfl,.inl ⟨r',e1,rfl⟩⟩
       .have:len=0:=by omega
        subst this;exact⟨p,rfl,.inr ⟨rfl,q8⟩⟩
      obtain⟨h1,h2,h3,h4⟩:=G4 (P:=P) hb hlo hhi hmx (cap:=cap) q4 true;have hmc:hh<=mm.getD cap:=by
       cases mm with
       |none=>simp;omega
       |some k=>simpa using(h4 k rfl).1
      have hmc2:mm.getD cap<=cap:=by
       cases mm with
       |none=>simp
       |some k=>have:=(h4 k rfl).2;simp;omega
      refine Sim.pure m (hs _<|run _ _ _ _ _ _ h1) ⟨⟨_,_,_,rfl⟩,sz',es.length,r,C,B,hT,by omega,by omega,λ_=>⟨mm.getD cap-l,by omega,by omega,?_,?_⟩⟩
      .intro hex;cases mm with
       |none=>
        simp only[ZWT,beq_iff_eq]at hex;have:=q6 hex.1;simp;omega
       |some k=>
        have:k=hh:=by simpa using hex
        simp;omega
      .by_cases hml:mm.getD cap=l
       .right;refine⟨by omega,ad,?_,?_⟩
        .rw[if_pos hml];congr 1<;>omega
        .intro hr0;rcases hq with⟨r',e1,_⟩|⟨_,e2⟩
         .rw[hr0]at e1;cases e1
         .exact e2 hr0
       .left;rcases hq with⟨r',e1,e2⟩|⟨e1,_⟩
        .refine⟨r',e1,?_⟩;rw[if_neg hml,e2];simp[addr_add,ZXw,ZXM]
        .omega
def CI{s:Sem Next}{t:TypeId}{x:AV}{lo hi:Option AV}{v:Value}{rlo rhi:Option Value}{res:Zt}(m:M T X h w)(ht:P.underlying t=some .string)
 (hx:R T X w x v) (hlo:Xw T X w lo rlo) (hhi:Xw T X w hi rhi) (hs:∀rv,(Instr.sliceAt t v rlo rhi none).run P w=.ok rv w->s.run P w=.ok (.value rv) w)
 (he:(match(generalizing:=false) x with
 | .str s=>
  match bounds lo hi none s.size with
  |some (l,hh,_)=>Zl<|some<|.str<|s.extract l hh
  |none=>none
 |_=>none)=some res):Sim P T X h w s res:=by
 cases x<;>(first|(simp only[reduceCtorEq]at he;done)|dsimp only at he|skip)
 case str st=>
  cases hb:bounds lo hi none st.size with
  |none=>rw[hb]at he;cases he
  |some q=>
   obtain⟨l,hh,mm⟩:=q;rw[hb]at he;obtain⟨u,hu,rfl⟩:=ZY he;cases hu;cases Yj hx;obtain⟨h1,h2,h3,h4⟩:=G4 (P:=P) hb hlo hhi (show Xw T X w none none from trivial) (cap:=st.size) (ZX0 _) false
   refine Sim.pure m (hs _ ?_) rfl;simp[Instr.sliceAt,Instr.slice,run_underlying ht,h1]
def CJ{s:Sem Next}{t:TypeId}{x y:AV}{v u:Value}{res:Zt}(m:M T X h w)(ht:P.underlying t=some .string)
 (hx:R T X w x v) (hy:R T X w y u) (hs:∀rv,(Instr.index t v u).run P w=.ok rv w->s.run P w=.ok (.value rv) w)
 (he:(match(generalizing:=false) x,y with
 | .str s,.int _ n=>if 0<=n then Zl ((s.data[n.toNat]?).map λb=>.int .u8 b.toNat)else none
 |_,_=>none)=some res):Sim P T X h w s res:=by
 cases x<;>(first|(simp only[reduceCtorEq]at he;done)|dsimp only at he|skip)
 case str st=>
  cases y<;>(first|(simp only[reduceCtorEq]at he;done)|dsimp only at he|skip)
  case int k n=>
   obtain⟨h0,he⟩:=Wv he;obtain⟨q,hq,rfl⟩:=ZY he;simp only[ZXi]at hq;obtain⟨b,hb,rfl⟩:=hq;cases QS hy;cases Yj hx;refine Sim.pure m (hs _ ?_) rfl;have hlt:n.toNat<st.size:=(ZXN.1 hb).1;have hb':st[n.toNat]?=some b:=by
    rw[getElem?_pos st n.toNat hlt];exact congrArg some (ZXN.1 hb).2
   simp[Instr.index,asIntOf,run_underlying ht,h0,hb']
def CK{s:Sem Next}{t e:TypeId}{n:Option Nat}{sz len:Nat}{x y:AV}{v u:Value}{res:Zt}(m:M T X h w)(ht:P.underlying t=some (.array len e))(hn:Xv P e n=true)(hz:ZR P e=some sz)
 (hx:R T X w x v) (hy:R T X w y u) (hs:∀rv,(Instr.index t v u).run P w=.ok rv w->s.run P w=.ok (.value rv) w)
 (he:(match(generalizing:=false) x,y with
 | .agg cs,.int _ k=>if 0<=k/\k<(len:Int)then Zl (takeC n<|cs.drop<|k.toNat*sz)else none
 |_,_=>none)=some res):Sim P T X h w s res:=by
 cases x<;>(first|(simp only[reduceCtorEq]at he;done)|dsimp only at he|skip)
 case agg cs=>
  cases y<;>(first|(simp only[reduceCtorEq]at he;done)|dsimp only at he|skip)
  case int kk k=>
   obtain⟨⟨h0,hl⟩,he⟩:=Wv he;obtain⟨q,hq,rfl⟩:=ZY he;cases QS hy;obtain⟨vs,rfl,hc⟩:=hx;obtain⟨rv,h1,h2⟩:=Mn hn hc hq;refine Sim.pure m (hs rv ?_) h2;simp[Instr.index,asIntOf,run_underlying ht,h0,hl,QY w hz,h1]
def CL{s:Sem Next}{t:TypeId}{fs:Array Field}{f:Field}{k:Nat}{n:Option Nat}{x:AV}{v:Value}{res:Zt}(m:M T X h w)(ht:P.underlying t=some (.struct fs))(hf:fs[k]?=some f)(hn:Xv P f.type n=true)
 (hx:R T X w x v) (hs:∀rv,(Instr.field t v k).run P w=.ok rv w->s.run P w=.ok (.value rv) w)
 (he:(match(generalizing:=false) x with
 | .agg cs=>Zl<|takeC n<|cs.drop f.offset
 |_=>none)=some res):Sim P T X h w s res:=by
 cases x<;>(first|(simp only[reduceCtorEq]at he;done)|dsimp only at he|skip)
 case agg cs=>
  obtain⟨q,hq,rfl⟩:=ZY he;obtain⟨vs,rfl,hc⟩:=hx;obtain⟨rv,h1,h2⟩:=Mn hn hc hq;refine Sim.pure m (hs rv ?_) h2;simp[Instr.field,run_underlying ht,hf,asAgg,h1]
def CM{s:Sem Next}{x:AV}{i:Nat}{v:Value}{res:Zt}(m:M T X h w)(hx:R T X w x v)(hs:∀rv,(Instr.extract v i).run P w=.ok rv w->s.run P w=.ok (.value rv) w)
 (he:(match(generalizing:=false) x with
 | .tup vs=>Zl vs[i]?
 |_=>none)=some res):Sim P T X h w s res:=by
 cases x<;>(first|(simp only[reduceCtorEq]at he;done)|dsimp only at he|skip)
 case tup cs=>
  obtain⟨q,hq,rfl⟩:=ZY he;obtain⟨vs,rfl,hc⟩:=hx;obtain⟨u,h1,h2⟩:=Wp i hc hq;refine Sim.pure m (hs u ?_) h2;have:vs[i]?=some u:=by simpa using h1
  simp[Instr.extract,this]
def CN{s:Sem Next}{t:TypeId}{x:AV}{v:Value}{res:Zt}{ty:TypeId}(m:M T X h w)(ht:P.underlying t=some .string\/(∃e,P.underlying t=some (.slice e))\/(∃k e,P.underlying t=some (.map k e)))
 (hk:match(generalizing:=false) x with| .str _=>P.underlying t=some .string| .nilsl| .isl .. | .sl ..=>(∃e,P.underlying t=some (.slice e))| .nilmap| .imap .. | .mp _=>(∃k e,P.underlying t=some (.map k e))|_=>True)
 (hx:R T X w x v) (hs:∀rv,(Builtin.len_ #[t] ty #[v]).run P w=.ok rv w->s.run P w=.ok (.value rv) w)
 (he:(match(generalizing:=false) x with
 | .str s=>Zl<|some<|.int .i64 s.size
 | .nilsl=>Zl<|some<|.int .i64 0
 | .nilmap=>Zl<|some<|.int .i64 0
 | .isl _ _ _ es=>Zl<|some<|.int .i64 es.length
 | .imap _ ks _=>Zl<|some<|.int .i64 ks.length
 | .sl b g _ len _=>
  match h[b]? with
  |some (.row _ es)=>bif es.length==g then some (.int .i64 len,[b],none)else none
  |_=>none
 | .mp b=>
  match h[b]? with
  |some (.map ks _)=>some (.int .i64 ks.length,[b],none)
  |_=>none
 |_=>none)=some res):Sim P T X h w s res:=by
 cases x<;>(first|(simp only[reduceCtorEq]at he;done)|dsimp only at he hk|skip)
 case str st=>
  obtain⟨q,hq,rfl⟩:=ZY he;cases hq;cases Yj hx;exact Sim.pure m (hs _<|by simp[Builtin.len_,run_underlying hk,goInt]) rfl
 case nilsl=>
  obtain⟨e,hk⟩:=hk;obtain⟨q,hq,rfl⟩:=ZY he;cases hq;have hv:v=.slice none 0 0:=hx;subst hv;exact Sim.pure m (hs _<|by simp[Builtin.len_,run_underlying hk,goInt]) rfl
 case nilmap=>
  obtain⟨k,e,hk⟩:=hk;obtain⟨q,hq,rfl⟩:=ZY he;cases hq;have hv:v=.map none:=hx;subst hv;exact Sim.pure m (hs _<|by simp[Builtin.len_,run_underlying hk,goInt]) rfl
 case isl bw ex sz es=>
  obtain⟨e,hk⟩:=hk;obtain⟨q,hq,rfl⟩:=ZY he;cases hq;obtain⟨ad,len,cap,rfl,rfl,_⟩:=hx;exact Sim.pure m (hs _<|by simp[Builtin.len_,run_underlying hk,goInt]) rfl
 case imap bw ks vs=>
  obtain⟨k,e,hk⟩:=hk;obtain⟨q,hq,rfl⟩:=ZY he;cases hq;obtain⟨r,es,clock,l,rfl,h1,h2,h3,h4,hnd,h5,h6,h7⟩:=hx;have hl:=Qr h6;have hp:=h5.length_eq;refine Sim.pure m (hs (.int .i64 (ks.length:Int)) ?_) rfl;simp only[ZWQ]at hl;simp only[ZXD]at hp;simp[Builtin.len_,run_underlying hk,goInt,getObj,Sem.run,h4.1];omega
 case sl b g off len ex=>
  obtain⟨e,hk⟩:=hk;cases hb:h[b]? with
  |none=>rw[hb]at he;cases he
  |some o=>
   rw[hb]at he;cases o<;>(first|(simp only[reduceCtorEq]at he;done)|dsimp only at he|skip)
   case row sz es=>
    cases hg:(es.length==g)with
    |false=>rw[hg]at he;cases he
    |true=>
     rw[hg]at he;simp only[cond_true,Option.some.injEq]at he;subst he;have hg':es.length=g:=by simpa using hg
     obtain⟨r,C,B,hT,q0,hC,hr⟩:=XV m hb;obtain⟨_,sz2,g2,r2,C2,B2,hT2,q1,q2,q3⟩:=hx;rw[hT]at hT2;cases hT2;obtain⟨cap,q4,q5,q6,q7⟩:=q3 hg'.symm;rcases q7 with⟨r',e1,rfl⟩|⟨rfl,p,rfl,q8⟩
     .exact Sim.pure m (hs _<|by simp[Builtin.len_,run_underlying hk,goInt]) rfl
     .have:len=0:=by omega
      subst this;exact Sim.pure m (hs _<|by simp[Builtin.len_,run_underlying hk,goInt]) rfl
 case mp b=>
  obtain⟨k,e,hk⟩:=hk;cases hb:h[b]? with
  |none=>rw[hb]at he;cases he
  |some o=>
   rw[hb]at he;cases o<;>(first|(simp only[reduceCtorEq]at he;done)|dsimp only at he|skip)
   case map ks vs=>
    simp only[Option.some.injEq]at he;subst he;obtain⟨r,es,clock,l,hT,h4,hnd,h5,h6,h7⟩:=JS m hb;obtain⟨r2,hT2,rfl⟩:=hx;rw[hT]at hT2;cases hT2;have hl:=Qr h6;have hp:=h5.length_eq;refine Sim.pure m (hs (.int .i64 (ks.length:Int)) ?_) rfl;simp only[ZWQ]at hl;simp only[ZXD]at hp;simp[Builtin.len_,run_underlying hk,goInt,getObj,Sem.run,h4.1];omega
end Go.AM
namespace Go.AM
open Go
variable [Dr]
variable {P:Program} {E:Env} {T:Ty} {X:Xt} {w:World} {h:Hp} {fr:Fr} {a:Act}
def Mo(n:Nat)(z:AV):flat (List.replicate n z)=(List.replicate n z.cells).flatten:=by
 induction n with
 |zero=>rfl
 |succ n ih=>rw[ZYi,VH,ih,ZYi,ZYr]
def Mp{cs:List AV}{vs:List Value}(n:Nat)(hc:Rs T X w cs vs):Rs T X w (List.replicate n cs).flatten (List.replicate n vs).flatten:=by
 induction n with
 |zero=>rfl
 |succ n ih=>rw[ZYi,ZYi,ZYr,ZYr];exact QR hc ih
def R6{α:Type}(l:List α):∀(n j:Nat),j<n*l.length->(List.replicate n l).flatten[j]?=l[j%l.length]?:=by
 intro n;induction n with
 |zero=>intro j hj;simp at hj
 |succ n ih=>
  intro j hj;rw[ZYi,ZYr];by_cases hl:j<l.length
  .rw[ZXK hl,Nat.mod_eq_of_lt hl]
  .rw[ZY0 (by omega),ih (j-l.length)<|by rw[ZYc]at hj;omega]
   rw[<-Nat.mod_eq_sub_mod (by omega)]
def Mq(zero:Array Value)(n:Nat):((Array.range<|n*zero.size).map (λi=>zero[i%zero.size]!)).toList=(List.replicate n zero.toList).flatten:=by
 apply ZYp;intro j;by_cases hj:j<n*zero.size
 .have hz:0<zero.size:=by
   rcases Nat.eq_zero_or_pos zero.size with e|e
   .rw[e]at hj;simp at hj
   .exact e
  rw[R6 zero.toList n j<|by simpa using hj]
  simp only[Array.toList_map,ZXJ,Array.toList_range,List.getElem?_range hj,ZXo,ZXD];have hm:j%zero.size<zero.size:=ZXX _ hz;rw[ZY2,ZXH hm,getElem!_pos zero _ hm]
 .rw[ZXQ (by simp;omega),ZXQ<|by simp;omega]
def wrap_i64{n:Int}(h0:0<=n)(h1:n<=9223372036854775807):IntKind.i64.wrap n=n:=IntWalk.i64_in _<|by omega
def CO{s:Sem Next}{t e:TypeId}{sz bytes aid:Nat}{z:AV}{zv:Value}{i:TypeInfo}{x y:AV}{v u:Value}{res:Zt}(m:M T X h w)(hX:∀r,X r->r<w.heap.size)(hid:aid<=h.length)(hT:T aid=none)
 (ht:P.underlying t=some (.slice e)) (hi:P.info? e=some i) (hsz:i.size=sz) (hby:i.bytes=bytes) (hzv:i.zero=some zv) (hz:Q3 zv z=true)
 (hx:R T X w x v) (hy:R T X w y u) (hs:∀rv w',(Instr.makeSlice t v u).run P w=.ok rv w'->s.run P w=.ok (.value rv) w')
 (he:(match(generalizing:=false) x,y with
 | .int .i64 n,.int .i64 c=>
  if 0<=n/\n<=c/\c*bytes<=70368744177664/\c<9223372036854775807/\fits sz z=true/\0<sz then
   some (AV.sl aid n.toNat 0 n.toNat<|n==c,[],some (aid,AObj.row sz<|List.replicate n.toNat z))
  else none
 |_,_=>none)=some res):Sim P T X h w s res:=by
 obtain⟨n,c,rfl,rfl⟩:∃n c,x=.int .i64 n/\y=.int .i64 c:=by
  cases x<;>(first|(simp only[reduceCtorEq]at he;done)|skip)
  case int k n=>
   cases y<;>(first|(cases k<;>simp only[reduceCtorEq]at he;done)|skip)
   case int k2 c=>
    cases k<;>(first|(simp only[reduceCtorEq]at he;done)|skip)
    cases k2<;>(first|(simp only[reduceCtorEq]at he;done)|skip)
    exact⟨n,c,rfl,rfl⟩
 .obtain⟨⟨h0,h1,h2,h3,h4,h5⟩,he⟩:=Wv he;simp only[Option.some.injEq]at he;subst he;cases QS hx;cases QS hy;have hzr:R T X w z zv:=Ws _ _ hz;obtain⟨f1,f2,f3,f4,f5⟩:=Kz h4 hzr;obtain⟨cells,hcells⟩:∃cells,cells=(Array.range<|c.toNat*sz).map (λi=>zv.cells[i%zv.cells.size]!):=⟨_,rfl⟩
  have hlist:cells.toList=(List.replicate c.toNat zv.cells.toList).flatten:=by
   rw[hcells,<-f2];exact Mq zv.cells c.toNat
  have hsize:cells.size=c.toNat*sz:=by rw[hcells];simp
  have hrun:(Instr.makeSlice t (.int .i64 n)<|.int .i64 c).run P w=.ok (.slice (some ⟨w.heap.size,0,none⟩) n.toNat c.toNat) (w.alloc<|.cells cells e):=by
   have w1:=wrap_i64 h0<|by omega
   have w2:=wrap_i64 (n:=c) (by omega)<|by omega
   have t1:¬(c<0):=by omega
   have t2:¬((bytes:Int)*c>281474976710656):=by rw[Int.mul_comm];omega
   have t3:¬(n<0):=by omega
   have t4:¬(n>c):=by omega
   have hzz:(zeroValue e).run P w=.ok zv w:=Xu w<|by simp[YH,hi,hzv]
   have hszz:(sizeOf e).run P w=.ok sz w:=QY w<|by simp[ZR,hi,hsz]
   have hti:(typeInfo e).run P w=.ok i w:=by simp[typeInfo,hi]
   have hsi:P.cellsOf e=sz:=by simp[Program.cellsOf,hi,hsz]
   simp only[Instr.makeSlice,Sem.run_bind,run_underlying ht,Result.andThen_ok,asInt,asIntOf,Sem.run_pure,hti,hby,w1,w2];have tl:(decide (c<0)||decide ((bytes:Int)*c>2 ^ 48))=false:=by simp[t1];omega
   simp only[tl,ZWZ,Sem.run_ite];rw[if_neg<|by simp;omega]
   simp only[Sem.run_bind,run_askRoom,Result.andThen_ok,hszz,Sem.run_ite,Sem.run_pure,hzz];by_cases hc0:c.toNat*sz=0
   .rw[if_pos hc0];have:cells = #[]:=by
     apply ZYw;omega
    simp[newRow,hc0,this];rw[show Array.map (λ_:Nat=>(default:Value)) (Array.range 0) = #[]from ZYw<|by simp]
   .rw[if_neg hc0];rw[<-hcells];simp[newRow]
  refine HW (C:=c.toNat) (e:=e) (cs:=cells) m hX hid hT h5 (by simp;omega) hsize ?_ ?_ (hs _ _ hrun) ?_
  .intro q hq;rw[ZYQ hq];exact f1
  .refine⟨(List.replicate n.toNat zv.cells.toList).flatten,by rw[Mo];exact Mp _ f3,λj q hq=>?_⟩
   have hj:j<n.toNat*sz:=by
    have:=(ZXg.1 hq).1;simpa[f2]using this
   have hmul:n.toNat*sz<=c.toNat*sz:=ZY7 _<|by omega
   rw[<-ZY2,hlist,R6 _ _ _<|by simp[f2];omega]
   rw[R6 _ _ _<|by simp[f2];omega]at hq
   exact hq
  .refine⟨⟨_,_,_,rfl⟩,sz,_,_,_,0,upd_same _ _ _,by simp,by simp,λ_=>⟨c.toNat,by omega,by omega,?_,.inl ⟨w.heap.size,rfl,by simp⟩⟩⟩
   intro hex;have:n=c:=by simpa using hex
   omega
def CP(v:List Value):∀(off:Nat)(cells:Array Value),off+v.length<=cells.size->
 (v.zipIdx.foldl (λcs(c,j)=>cs.setIfInBounds (off+j) c) cells).toList=cells.toList.take off++v++cells.toList.drop (off+v.length):=by
 have gen:∀(v:List Value)(k off:Nat)(cells:Array Value),off+k+v.length<=cells.size->
  ((v.zipIdx k).foldl (λcs(c,j)=>cs.setIfInBounds (off+j) c) cells).toList=cells.toList.take (off+k)++v++cells.toList.drop (off+k+v.length):=by
  intro v;induction v with
  |nil=>intro k off cells _;simp
  |cons x v ih=>
   intro k off cells hl;simp only[ZXr]at hl;rw[List.zipIdx_cons,ZYe,ih (k+1) off (cells.setIfInBounds (off+k) x)<|by simp;omega]
   simp only[Array.toList_setIfInBounds];have hlt:off+k<cells.toList.length:=by simp;omega
   rw[show off+(k+1)=off+k+1 by omega]
   rw[ZYx,List.getElem?_set_self hlt,List.take_set_of_le<|ZX0 _];rw[List.drop_set_of_lt<|by omega]
   simp only[ZXr,Option.toList_some,ZXx,ZZb,ZXj];rw[show off+k+1+v.length=off+k+(v.length+1)by omega]
   rfl
 intro off cells hl;have:=gen v 0 off cells<|by simpa using hl
 simpa using this
def CQ{cs v:List AV}{vs u:List Value}(hc:Rs T X w cs vs)(hv:Rs T X w v u)(off n:Nat):Rs T X w (cs.take off++v++cs.drop (off+n)) (vs.take off++u++vs.drop (off+n)):=
 QR (QR (Kt off hc) hv) (VE (off+n) hc)
inductive F2{α β:Type}(p:α->β->Prop):List α->List β->Prop where
 |nil:F2 p [] []
 |cons {a:α} {b:β} {as:List α} {bs:List β}:p a b->F2 p as bs->F2 p (a::as) (b::bs)
def R7{place:Nat->Option (Nat×Nat)}:∀{ps:List (Nat×Value)}{qs:List (Nat×Nat×AV)}{cells:Array Value}{cs cs':List AV},
 F2 (λ(p:Nat×Value)(q:Nat×Nat×AV)=>place p.1=some (q.1,q.2.1)/\R T X w q.2.2 p.2) ps qs->
 Rs T X w cs cells.toList->fill cs qs=some cs'->∃cells',Instr.fill place cells ps=some cells'/\Rs T X w cs' cells'.toList/\cells'.size=cells.size:=by
 intro ps;induction ps with
 |nil=>
  intro qs cells cs cs' hf hc he;cases hf;simp[fill]at he;subst he;exact⟨cells,rfl,hc,rfl⟩
 |cons p ps ih=>
  intro qs cells cs cs' hf hc he;cases hf with
  |cons h1 h2=>
   rename_i q qs;obtain⟨i,v⟩:=p;obtain⟨off,sz,x⟩:=q;obtain⟨hp,hx⟩:=h1;simp only at hp hx;simp only[fill]at he;cases hb:(fits sz x&&Nat.ble (off+sz) cs.length)with
   |false=>rw[hb]at he;cases he
   |true=>
    rw[hb]at he;simp only[cond_true]at he;simp only[ZWT,Nat.ble_eq]at hb;obtain⟨f1,f2,f3,f4,f5⟩:=Kz hb.1 hx;have hl:=Qr hc;simp only[ZXD]at hl;simp only[Instr.fill,hp];rw[if_neg<|by simp;omega]
    have hspl:(v.cells.zipIdx.foldl (λcs(c,j)=>cs.setIfInBounds (off+j) c) cells).toList=cells.toList.take off++v.cells.toList++cells.toList.drop (off+sz):=by
     have:=CP v.cells.toList off cells<|by simp[f2];omega
     rw[<-Array.foldl_toList,Array.toList_zipIdx];simpa[f2]using this
    obtain⟨cells',h3,h4,h5⟩:=ih h2 (by rw[hspl];exact CQ hc f3 off sz) he
    refine⟨cells',h3,h4,?_⟩;rw[h5];have:=congrArg List.length hspl;rw[ZXD]at this;rw[this];simp[f2];omega
def CR{t:TypeId}{fs:Array Field}{zv:Value}(ht:P.underlying t=some (.struct fs))(hz:YH P t=some zv){places:Array (Nat×Nat)}(hp:(fs.mapM λf=>do pure (f.offset,<-sizeOf f.type):Sem<|Array<|Nat×Nat).run P w=.ok places w)
 {ps:Array (Nat×Value)} {cells:Array Value} (hf:Instr.fill (places[·]?) zv.cells ps.toList=some cells):(Instr.build t ps).run P w=.ok (.agg cells) w:=by
 simp only[Instr.build,Sem.run_bind,Xu w hz,Result.andThen_ok,run_underlying ht,hp,hf,Sem.run_pure]
def run_places{fs:List Field}{l:List Nat}(hl:fs.map (λf=>ZR P f.type)=l.map some):(fs.mapM (λf=>do pure (f.offset,<-sizeOf f.type):Field->Sem (Nat×Nat))).run P w=.ok (fs.zipWith (λf n=>(f.offset,n)) l) w:=by
 induction fs generalizing l with
 |nil=>cases l<;>simp at hl⊢
 |cons f fs ih=>
  cases l with
  |nil=>simp at hl
  |cons n l=>
   simp only[ZX3,List.cons.injEq]at hl;rw[List.mapM_cons];simp only[Sem.run_bind,QY w hl.1,Result.andThen_ok,Sem.run_pure,ih hl.2];rfl
end Go.AM
namespace Go.AM
open Go
variable [Dr]
variable {P:Program} {E:Env} {T:Ty} {X:Xt} {w:World} {h:Hp} {fr:Fr} {a:Act}
def Xx(pl:Nat->Option (Nat×Nat)):List (Nat×Operand)->List (Nat×Nat×Arg)->Bool
 |[],[]=>true
 |p::ps,q::qs=>decide (pl p.1=some (q.1,q.2.1))&&Zr p.2 q.2.2&&Xx pl ps qs
 |_,_=>false
def G5{pl:Nat->Option (Nat×Nat)}(gl:GlR E T X w)(hf:FrR T X w fr a.tmps):∀{ps:List (Nat×Operand)}{qs:List (Nat×Nat×Arg)},Xx pl ps qs=true->
 F2 (λ(p:Nat×Value)(q:Nat×Nat×AV)=>pl p.1=some (q.1,q.2.1)/\R T X w q.2.2 p.2) (ps.map λp=>(p.1,a.eval p.2)) (qs.map λq=>(q.1,q.2.1,ev E fr q.2.2))
 |[],[],_=>.nil
 |[],_::_,hh=>by simp[Xx]at hh
 |_::_,[],hh=>by simp[Xx]at hh
 |p::ps,q::qs,hh=>by
  simp[Xx]at hh;exact .cons ⟨hh.1.1,evR gl hf hh.1.2⟩<|G5 gl hf hh.2
def KG(P:Program)(fs:Array Field)(i:Nat):Option (Nat×Nat):=
 match fs[i]? with
 |some f=>(ZR P f.type).map λn=>(f.offset,n)
 |none=>none
def KH(P:Program):List Field->Option (List Nat)
 |[]=>some []
 |f::fs=>
  match ZR P f.type,KH P fs with
  |some n,some l=>some<|n::l
  |_,_=>none
def Mr:∀{fs:List Field}{l:List Nat},KH P fs=some l->fs.map (λf=>ZR P f.type)=l.map some
 |[],l,hh=>by simp[KH]at hh;subst hh;rfl
 |f::fs,l,hh=>by
  unfold KH at hh;split at hh
  .next n l' h1 h2=>
   simp at hh;subst hh;simp[h1,Mr h2]
  .cases hh
def CS{fs:List Field}{l:List Nat}(hl:fs.map (λf=>ZR P f.type)=l.map some)(i:Nat):((fs.zipWith (λf n=>(f.offset,n)) l)[i]?:Option<|Nat×Nat)=KG P fs.toArray i:=by
 induction fs generalizing l i with
 |nil=>simp[KG]
 |cons f fs ih=>
  cases l with
  |nil=>simp at hl
  |cons n l=>
   simp only[ZX3,List.cons.injEq]at hl;cases i with
   |zero=>simp[KG,hl.1]
   |succ i=>
    have:=ih hl.2 i;simpa[KG]using this
def CT{s:Sem Next}{t:TypeId}{zv:Value}{z:List AV}{ps:Array (Nat×Operand)}{qs:List (Nat×Nat×Arg)}{res:Zt}(m:M T X h w)(gl:GlR E T X w)(hf:FrR T X w fr a.tmps)
 (hz:YH P t=some zv) (hzc:Wr zv.cells.toList z=true)
 (hk:(∃fs l,P.underlying t=some (.struct fs)/\KH P fs.toList=some l/\Xx (KG P fs) ps.toList qs=true)\/
  (∃n e sz,P.underlying t=some (.array n e)/\ZR P e=some sz/\Xx (λi=>some (i*sz,sz)) ps.toList qs=true))
 (hs:∀rv,(Instr.build t<|ps.map λ(i,x)=>(i,a.eval x)).run P w=.ok rv w->s.run P w=.ok (.value rv) w)
 (he:Zl ((fill z<|qs.map λp=>(p.1,p.2.1,ev E fr p.2.2)).map .agg)=some res):Sim P T X h w s res:=by
 obtain⟨u,hu,rfl⟩:=ZY he;simp only[ZXi]at hu;obtain⟨cs',hfill,rfl⟩:=hu;have hz0:Rs T X w z zv.cells.toList:=HU _ _ hzc;have hmap:(ps.map λ(i,x)=>(i,a.eval x)).toList=ps.toList.map λp=>(p.1,a.eval p.2):=by simp
 rcases hk with⟨fs,l,ht,hl,hp⟩|⟨n,e,sz,ht,hsz,hp⟩
 .have hpl:=G5 (a:=a) gl hf hp;obtain⟨cells,h1,h2,h3⟩:=R7 hpl hz0 hfill;have hl':=Mr hl;refine Sim.pure m (hs (.agg cells) ?_) ⟨cells,rfl,h2⟩;refine CR (places:=(fs.toList.zipWith (λf n=>(f.offset,n)) l).toArray) ht hz ?_ ?_
  .rw[Array.mapM_eq_mapM_toList];simp only[Sem.run_map,run_places hl',Result.andThen_ok]
  .rw[hmap,<-h1];congr 1
   funext i
   have:=CS hl' i;simpa using this
 .have hpl:=G5 (a:=a) gl hf hp;obtain⟨cells,h1,h2,h3⟩:=R7 (place:=λi=>some (i*sz,sz)) hpl hz0 hfill
  refine Sim.pure m (hs (.agg cells) ?_) ⟨cells,rfl,h2⟩;simp only[Instr.build,Sem.run_bind,Xu w hz,Result.andThen_ok,run_underlying ht,QY w hsz,hmap,h1,Sem.run_pure]
def CU{sz:Nat}:∀{qs:List (Nat×AV)}{es es':List AV},(∀e∈es,e.cells.length=sz)->YC sz es qs=some es'->
 fill (flat es) (qs.map λq=>(q.1*sz,sz,q.2))=some (flat es')/\es'.length=es.length/\∀e∈es',e.cells.length=sz:=by
 intro qs;induction qs with
 |nil=>intro es es' hsz he;simp[YC]at he;subst he;exact⟨rfl,rfl,hsz⟩
 |cons q qs ih=>
  intro es es' hsz he;obtain⟨i,v⟩:=q;simp only[YC]at he;cases hb:(fits sz v&&Nat.blt i es.length)with
  |false=>rw[hb]at he;cases he
  |true=>
   rw[hb]at he;simp only[cond_true]at he;simp only[ZWT]at hb;have hlt:i<es.length:=by simpa using hb.2
   have hv:v.cells.length=sz:=by
    have:=hb.1;cases v<;>simp[fits]at this<;>simp[AV.cells,this]
   have hsz':∀e∈es.set i v,e.cells.length=sz:=by
    intro x hx;rcases ZZa hx with hx|rfl
    .exact hsz x hx
    .exact hv
   obtain⟨h1,h2,h3⟩:=ih hsz' he;have hi:es[i]?=some es[i]:=ZX5 hlt;have hl1:(flat<|es.take i).length=i*sz:=by
    rw[HX (sz:=sz)<|λe he=>hsz e<|ZYl he];rw[ZXL,Nat.min_eq_left<|by omega]
   have hfl:flat es=flat (es.take i)++(es[i].cells++flat (es.drop<|i+1)):=by
    conv=>lhs;rw[Mk hi]
    rw[KE,VH]
   have hes:es[i].cells.length=sz:=hsz _<|ZYt hlt;have hset:(flat es).take (i*sz)++v.cells++(flat es).drop (i*sz+sz)=flat (es.set i v):=by
    rw[Ml hi,KE,VH,hfl,ZYI hl1,<-ZXZ,ZYP hl1,ZYP hes];simp
   refine⟨?_,by simpa using h2,h3⟩
   simp only[ZX3,fill];have hle:i*sz+sz<=(flat es).length:=by
    rw[HX hsz,<-ZYc];exact ZY7 _ hlt
   rw[hb.1,show Nat.ble (i*sz+sz) (flat es).length=true from by simpa using hle]
   simp only[ZX8,cond_true,hset];exact h1
def CV{s:Sem Next}{t e:TypeId}{zv:Value}{z:AV}{fz ex:Bool}{sz len aid:Nat}{ps:Array (Nat×Operand)}{qs:List (Nat×Arg)}{res:Zt}(m:M T X h w)(gl:GlR E T X w)(hf:FrR T X w fr a.tmps)
 (hX:∀r,X r->r<w.heap.size) (hid:aid<=h.length) (hT:T aid=none) (h0:0<sz) (hlen:len*sz<=16777216)
 (ht:P.underlying t=some (.slice e)) (hsz:ZR P e=some sz) (hz:YH P e=some zv) (hzc:Q3 zv z=true)
 (hp:Xx (λi=>some (i*sz,sz)) ps.toList (qs.map λq=>(q.1*sz,sz,q.2))=true)
 (hs:∀rv w',(Instr.buildSlice t len<|ps.map λ(i,x)=>(i,a.eval x)).run P w=.ok rv w'->s.run P w=.ok (.value rv) w')
 (he:(match(generalizing:=false) YC sz (List.replicate len z) (qs.map λp=>(p.1,ev E fr p.2))with
 |some es=>
  bif fits sz z then
   bif fz then(bif Z4 es then Zl (some<|.isl false ex sz es)else none)
   else some (AV.sl aid len 0 len<|!ex,[],some (aid,AObj.row sz es))
  else none
 |none=>none)=some res):Sim P T X h w s res:=by
 cases hfe:YC sz (List.replicate len z) (qs.map λp=>(p.1,ev E fr p.2))with
 |none=>rw[hfe]at he;cases he
 |some es=>
  rw[hfe]at he;dsimp only at he;cases hfit:fits sz z with
  |false=>rw[hfit]at he;cases he
  |true=>
   rw[hfit]at he;simp only[cond_true]at he;have hzr:R T X w z zv:=Ws _ _ hzc;obtain⟨f1,f2,f3,f4,f5⟩:=Kz hfit hzr;have hrep:∀e∈List.replicate len z,e.cells.length=sz:=λx hx=>by rw[ZYQ hx];exact f1
   obtain⟨g1,g2,g3⟩:=CU hrep hfe;have hmap:(ps.map λ(i,x)=>(i,a.eval x)).toList=ps.toList.map λp=>(p.1,a.eval p.2):=by simp
   have hpl:=G5 (a:=a) gl hf hp;obtain⟨c0,hc0⟩:∃c0,c0=(Array.range<|len*sz).map (λi=>zv.cells[i%zv.cells.size]!):=⟨_,rfl⟩
   have hlist:c0.toList=(List.replicate len zv.cells.toList).flatten:=by rw[hc0,<-f2];exact Mq zv.cells len
   have hR0:Rs T X w (flat<|List.replicate len z) c0.toList:=by rw[hlist,Mo];exact Mp _ f3
   have hq:(List.map (λq:Nat×Nat×Arg=>(q.1,q.2.1,ev E fr q.2.2))<|qs.map λq=>(q.1*sz,sz,q.2))=(qs.map λp=>(p.1,ev E fr p.2)).map λq=>(q.1*sz,sz,q.2):=by simp
   rw[hq]at hpl;obtain⟨cells,k1,k2,k3⟩:=R7 (place:=λi=>some (i*sz,sz)) hpl hR0 g1
   have hsize:cells.size=len*sz:=by rw[k3,hc0];simp
   have hesl:es.length=len:=by simpa using g2
   have hrun:(Instr.buildSlice t len<|ps.map λ(i,x)=>(i,a.eval x)).run P w=.ok (.slice (some ⟨w.heap.size,0,none⟩) len len) (w.alloc<|.cells cells e):=by
    simp only[Instr.buildSlice,Sem.run_bind,run_underlying ht,Result.andThen_ok,QY w hsz,Sem.run_ite];rw[if_neg<|by omega]
    by_cases hc:len*sz=0
    .rw[if_pos hc];have hce:c0 = #[]:=ZYw (by rw[hc0];simp;omega)
     have he0:(Array.range<|len*sz).map (λi=>(#[]:Array Value)[i%(#[]:Array Value).size]!)=c0:=by
      rw[hce,hc];exact ZYw<|by simp
     simp only[Sem.run_pure,Result.andThen_ok,he0,hmap,k1];simp[newRow]
    .rw[if_neg hc];simp only[Xu w hz,Sem.run_bind,Result.andThen_ok,Sem.run_pure];rw[<-hc0];simp only[hmap,k1];simp[newRow]
   cases fz with
   |true=>
    simp only[cond_true]at he;cases hcl:Z4 es with
    |false=>rw[hcl]at he;cases he
    |true=>
     rw[hcl]at he;obtain⟨u,hu,rfl⟩:=ZY he;cases hu;have st:=UT T w<|.cells cells e;refine⟨T,_,_,.inl<|hs _ _ hrun,st,Xr m st<|λr hr=>alloc_old w _<|m.lt r hr,?_⟩
     refine⟨_,_,_,rfl,hesl.symm,ZX0 _,λ_=>rfl,hcl,?_⟩
     by_cases hemp:es=[]
     .exact .inl hemp
     .right;refine⟨w.heap.size,0,rfl,λhr=>by have:=m.lt _ hr;omega,λ_ hxx=>by have:=hX _ hxx;omega,by rw[World.size_alloc];omega,?_⟩
      exact Wq g3<|Xs (Yb st _ _ k2)<|λj u hu=>by rw[KA,ZXf];simpa using hu
   |false=>
    simp only[cond_false,Option.some.injEq]at he;subst he;refine HW (C:=len) (e:=e) (cs:=cells) m hX hid hT h0 (by omega) hsize g3 ⟨cells.toList,k2,λj u hu=>by simpa using hu⟩ (hs _ _ hrun) ?_
    exact⟨⟨_,_,_,rfl⟩,sz,es.length,_,_,0,upd_same _ _ _,by omega,by omega,λ_=>⟨len,by omega,by omega,λ_=>rfl,.inl ⟨w.heap.size,rfl,by simp⟩⟩⟩
end Go.AM
namespace Go.AM
open Go
variable [Dr]
variable {P:Program} {E:Env} {T:Ty} {X:Xt} {w:World} {h:Hp} {fr:Fr} {a:Act}
def G6(m:M T X h w){x:AV}{v:Value}{ys:List AV}{sz:Nat}(hx:R T X w x v)(he:Q2 h x=some ys)(hz:Qq h sz x=true):
 ∃ad cap,v=.slice ad ys.length cap/\ys.length<=cap/\(ys=[]\/∃r o,ad=some ⟨r,o,none⟩/\ZA T X w sz r ys o):=by
 cases x<;>simp only[Q2,reduceCtorEq,Option.some.injEq]at he
 case nilsl=>
  subst he;have:v=.slice none 0 0:=hx;exact⟨none,0,this,ZX0 _,.inl rfl⟩
 case isl bw ex z es=>
  subst he;obtain⟨ad,len,cap,rfl,rfl,h2,h3,h4,h5⟩:=hx;refine⟨ad,cap,rfl,h2,?_⟩;rcases h5 with h5|⟨r,o,h6,h7,h8,h9,h10⟩
  .exact .inl h5
  .by_cases hemp:es=[]
   .exact .inl hemp
   .right;simp only[Qq,ZYy,beq_iff_eq,ZYR]at hz;have:z=sz:=hz.resolve_right hemp;subst this;exact⟨r,o,h6,h10⟩
 case sl b g off len ex=>
  cases hb:h[b]? with
  |none=>rw[hb]at he;cases he
  |some o=>
   rw[hb]at he;cases o<;>(first|(simp only[reduceCtorEq]at he;done)|dsimp only at he|skip)
   case row z es=>
    cases hg:(es.length==g)with
    |false=>rw[hg]at he;cases he
    |true=>
     rw[hg]at he;simp only[cond_true,Option.some.injEq]at he;have hg':es.length=g:=by simpa using hg
     simp only[Qq,hb,beq_iff_eq]at hz;subst hz;obtain⟨r,C,B,hT,q0,hC,hr⟩:=XV m hb;obtain⟨_,sz2,g2,r2,C2,B2,hT2,q1,q2,q3⟩:=hx;rw[hT]at hT2;cases hT2;obtain⟨cap,q4,q5,q6,q7⟩:=q3 hg'.symm;have hyl:ys.length=len:=by subst he;simp;omega
     rcases q7 with⟨r',rfl,rfl⟩|⟨rfl,p,rfl,q8⟩
     .refine⟨_,cap,by rw[hyl],by omega,?_⟩
      right;obtain⟨cs,el,k1,k2,k3⟩:=hr;refine⟨r',(B+off)*z,rfl,?_⟩;subst he;have:=UV len<|UU off k3;rw[ZXw];exact this
     .have:len=0:=by omega
      subst this;have hye:ys=[]:=ZYz.1 hyl;exact⟨p,0,by rw[hyl],by omega,.inl hye⟩
def G7{ys:List AV}{sz cap:Nat}{ad:Option Addr}(hr:ys=[]\/∃r o,ad=some ⟨r,o,none⟩/\ZA T X w sz r ys o):
 ∃us:List Value,(Builtin.firstCells sz ys.length<|.slice ad ys.length cap).run P w=.ok us.toArray w/\Rs T X w (flat ys) us/\us.length=ys.length*sz/\∀y∈ys,y.cells.length=sz:=by
 rcases hr with rfl|⟨r,o,rfl,hrow⟩
 .refine⟨[],?_,rfl,by simp,by simp⟩
  cases ad with
  |none=>simp[Builtin.firstCells]
  |some p=>simp[Builtin.firstCells,loadCells,loadCellsFrom]
 .obtain⟨h1,h2,h3⟩:=Kx hrow;obtain⟨us,h4,h5⟩:=Kv h1;have hl:=Qr h5;refine⟨us,?_,h5,by omega,h3⟩
  simp only[Builtin.firstCells];rw[show ys.length*sz=us.length by omega]
  exact run_loadCells_list w ⟨r,o,none⟩ us<|λj u hj=>by rw[addr_add];exact h4 j u hj
def CW(zero:Array Value)(n:Nat):(Builtin.zeroCells zero n).size=n*zero.size:=by simp[Builtin.zeroCells]
def Ms{es:List AV}{sz:Nat}(h1:∀e∈es,e.cells.length=sz){ys:List AV}(h2:∀e∈ys,e.cells.length=sz):∀e∈es++ys,e.cells.length=sz:=by
 intro e he;rcases ZXF.1 he with he|he
 .exact h1 e he
 .exact h2 e he
def run_append_grow{t t2 e:TypeId}{sz bytes:Nat}{i:TypeInfo}{zv:Value}{ad bd:Option Addr}{es ys:List AV}{cap cap2:Nat}{ty:TypeId}
 (ht:P.underlying t=some (.slice e)) (ht2:∃d,P.underlying t2=some d/\∀k,d≠.int k) (hi:P.info? e=some i) (hsz:i.size=sz) (hby:i.bytes=bytes) (hzv:i.zero=some zv) (hzs:zv.cells.size=sz) (hb0:0<bytes)
 (hes:es=[]\/∃r o,ad=some ⟨r,o,none⟩/\ZA T X w sz r es o) (hys:ys=[]\/∃r o,bd=some ⟨r,o,none⟩/\ZA T X w sz r ys o)
 (hbound:(es.length+ys.length)*bytes<=140737488355328) (hgrow:cap<es.length+ys.length):
 ∃(C:Nat)(cells:Array Value)(us:List Value)(w1:World),w1={w with drawn:=w.drawn+1}/\es.length+ys.length<=C/\cells.size=C*sz/\Rs T X w (flat<|es++ys) us/\(∀(j:Nat)(u:Value),us[j]?=some u->cells[j]?=some u)/\(∀y∈es++ys,y.cells.length=sz)/\
  (Builtin.append_ #[t,t2] ty #[.slice ad es.length cap,.slice bd ys.length cap2]).run P w=.ok (.slice (some ⟨w.heap.size,0,none⟩) (es.length+ys.length) C) (w1.alloc<|.cells cells e):=by
 obtain⟨d2,ht2,hd2⟩:=ht2;obtain⟨u1,a1,a2,a3,a4⟩:=G7 (P:=P) (cap:=cap) hes;obtain⟨w1,hw1⟩:∃w1:World,w1={w with drawn:=w.drawn+1}:=⟨_,rfl⟩
 have hes1:es=[]\/∃r o,ad=some ⟨r,o,none⟩/\ZA T X w1 sz r es o:=by
  rcases hes with hh|⟨r,o,q1,q2⟩
  .exact .inl hh
  .exact .inr ⟨r,o,q1,HS (w:=w) (w':=w1) (by subst hw1;exact(Step.refl T w).drew _ (λ_=>ZYA _)) sz r (by subst hw1;rfl) es o q2⟩
 have hys1:ys=[]\/∃r o,bd=some ⟨r,o,none⟩/\ZA T X w1 sz r ys o:=by
  rcases hys with hh|⟨r,o,q1,q2⟩
  .exact .inl hh
  .exact .inr ⟨r,o,q1,HS (w:=w) (w':=w1) (by subst hw1;exact(Step.refl T w).drew _ (λ_=>ZYA _)) sz r (by subst hw1;rfl) ys o q2⟩
 obtain⟨v1,b1,b2,b3,b4⟩:=G7 (P:=P) (cap:=cap) hes1;obtain⟨v2,c1,c2,c3,c4⟩:=G7 (P:=P) (cap:=cap2) hys1;have st1:Stp T w1 T w:=by subst hw1;exact⟨ZX0 _,λ_ c h=>⟨c,h,.refl c⟩,λ_ _ _ _=>rfl,λ_ _ _ _ _ h=>h,λ_ h=>.inl h⟩
 have hneed:es.length+ys.length<=140737488355328:=ZXG (Nat.le_mul_of_pos_right _ hb0) hbound;obtain⟨C,hC⟩:∃C,C=(Question.appendCap (es.length+ys.length) cap e).cut (w.tape w.drawn<|Question.appendCap (es.length+ys.length) cap e):=⟨_,rfl⟩;have hCle:es.length+ys.length<=C:=by rw[hC];simp only[Question.cut];omega
 obtain⟨cells,hcells⟩:∃cells,cells=v1.toArray++v2.toArray++Builtin.zeroCells zv.cells (C-(es.length+ys.length)):=⟨_,rfl⟩;refine⟨C,cells,v1++v2,w1,hw1,hCle,?_,?_,?_,Ms b4 c4,?_⟩
 .rw[hcells];simp only[Array.size_append,List.size_toArray,CW,b3,c3,hzs];rw[<-ZXw,<-ZXw];congr 1;omega
 .rw[KE];exact QR (XT st1 _ _ b2)<|XT st1 _ _ c2
 .intro j u hj;rw[hcells,ZZc (by
   have:=(ZXg.1 hj).1;simpa using this)]
  simpa using hj
 .have hszz:(sizeOf e).run P w=.ok sz w:=QY w (by simp[ZR,hi,hsz])
  have hti:∀w',(typeInfo e).run P w'=.ok i w':=λw'=>by simp[typeInfo,hi]
  have hzz:∀w',(zeroValue e).run P w'=.ok zv w':=λw'=>Xu w'<|by simp[YH,hi,hzv]
  have hnext:Builtin.nextslicecap (es.length+ys.length) cap*bytes<=281474976710656:=by
   have:=Room.nextslicecap_le' hgrow;have h2:Builtin.nextslicecap (es.length+ys.length) cap*bytes<=2*(es.length+ys.length)*bytes:=ZY7 _ this;rw[Nat.mul_assoc]at h2;omega
  have hz:(match d2 with| .int _=>true|_=>false)=false:=by
   cases d2<;>first|rfl|exact(hd2 _ rfl).elim
  simp only[Builtin.append_,ZYv,ZXy,ZXS,Sem.run_bind,run_underlying ht,Result.andThen_ok,hszz,run_underlying ht2,Sem.run_pure];have hn1:¬(((es.length+ys.length:Nat):Int)>IntKind.i64.max/\(False\/i.bytes=0)):=by
   rintro⟨_,q|q⟩
   .exact q
   .omega
  have hn2:¬(Builtin.nextslicecap (es.length+ys.length) cap*i.bytes>2 ^ 48):=by
   rw[hby];omega
  simp only[ZX2,if_false,Sem.run_bind,Builtin.lenOf,Sem.run_pure,Result.andThen_ok,Sem.run_ite];rw[if_neg (show ¬(es.length+ys.length<=cap)by omega)]
  simp only[Sem.run_bind,hti,Result.andThen_ok,Sem.run_ite];rw[if_neg hn1];rw[if_neg hn2];simp only[run_choose,Question.forced,ZX2,if_false,Sem.run_bind,Result.andThen_ok,hti,run_askRoom,<-hC,<-hw1,b1,c1,ZWU,if_true,hzz];simp[newRow,hcells];rw[hw1]
def CX{t t2 e:TypeId}{sz:Nat}{ad bd:Option Addr}{n cap cap2:Nat}{ty:TypeId}
 (ht:P.underlying t=some (.slice e)) (ht2:∃d,P.underlying t2=some d/\∀k,d≠.int k) (hsz:ZR P e=some sz) (hle:n<=cap):
 (Builtin.append_ #[t,t2] ty #[.slice ad n cap,.slice bd 0 cap2]).run P w=.ok (.slice ad n cap) w:=by
 obtain⟨d2,ht2,hd2⟩:=ht2;have hz:(match d2 with| .int _=>true|_=>false)=false:=by
  cases d2<;>first|rfl|exact(hd2 _ rfl).elim
 have hf:(Builtin.firstCells sz 0<|.slice bd 0 cap2).run P w=.ok #[] w:=by
  cases bd<;>simp[Builtin.firstCells,loadCells,loadCellsFrom]
 simp only[Builtin.append_,ZYv,ZXy,ZXS,Sem.run_bind,run_underlying ht,Result.andThen_ok,QY w hsz,run_underlying ht2,Sem.run_pure];simp only[ZX2,if_false,Sem.run_bind,Builtin.lenOf,Sem.run_pure,Result.andThen_ok,Sem.run_ite];rw[if_pos (show n+0<=cap by omega)]
 simp only[ZWU,if_true,hf,Sem.run_bind,Result.andThen_ok];cases ad with
 |none=>simp
 |some p=>simp[storeCells]
def run_append_room{t t2 e:TypeId}{sz:Nat}{bd:Option Addr}{ys:List AV}{r o n cap cap2:Nat}{cs:Array Value}{el:TypeId}{ty:TypeId}
 (ht:P.underlying t=some (.slice e)) (ht2:∃d,P.underlying t2=some d/\∀k,d≠.int k) (hsz:ZR P e=some sz)
 (hys:ys=[]\/∃r o,bd=some ⟨r,o,none⟩/\ZA T X w sz r ys o) (hone:∀(us:List Value),Rs T X w (flat ys) us->∀c∈us,c.oneCell'=true)
 (hh:w.heap[r]?=some (.cells cs el (0,0))) (hroom:n+ys.length<=cap) (hcap:o+cap*sz<=cs.size):
 ∃us:List Value,Rs T X w (flat ys) us/\us.length=ys.length*sz/\(∀y∈ys,y.cells.length=sz)/\
  (Builtin.append_ #[t,t2] ty #[.slice (some ⟨r,o,none⟩) n cap,.slice bd ys.length cap2]).run P w=.ok (.slice (some ⟨r,o,none⟩) (n+ys.length) cap) (w.setRow r (cs.toList.take (o+n*sz)++us++cs.toList.drop (o+n*sz+us.length)).toArray):=by
 obtain⟨d2,ht2,hd2⟩:=ht2;have hz:(match d2 with| .int _=>true|_=>false)=false:=by
  cases d2<;>first|rfl|exact(hd2 _ rfl).elim
 obtain⟨us,c1,c2,c3,c4⟩:=G7 (P:=P) (cap:=cap2) hys;refine⟨us,c2,c3,c4,?_⟩;have hmul:n*sz+us.length<=cap*sz:=by
  rw[c3,<-ZXw];exact ZY7 _ hroom
 have hst:=run_storeCells_at (P:=P) r (o+n*sz) el us 0 cs w hh (by omega)<|hone us c2
 simp only[Builtin.append_,ZYv,ZXy,ZXS,Sem.run_bind,run_underlying ht,Result.andThen_ok,QY w hsz,run_underlying ht2,Sem.run_pure];simp only[ZX2,if_false,Sem.run_bind,Builtin.lenOf,Sem.run_pure,Result.andThen_ok,Sem.run_ite];rw[if_pos hroom];simp only[ZWU,if_true,c1,Sem.run_bind,Result.andThen_ok];have:Addr.add ⟨r,o,none⟩ (n*sz)=⟨r,o+n*sz,none⟩:=by rw[addr_add]
 rw[this,hst];simp
def R8{sz:Nat}:∀{ys:List AV},ys.all (fits sz)=true->∀(us:List Value),Rs T X w (flat ys) us->∀c∈us,c.oneCell'=true:=by
 intro ys hall us hus c hc;obtain⟨j,hj⟩:=ZYs.1 hc;have hl:=Qr hus;have hlt:j<(flat ys).length:=by rw[hl];exact(ZXg.1 hj).1
 obtain⟨v,hv,hr⟩:=Wp j hus<|ZX5 hlt;rw[hj]at hv;cases hv;have hmem:=ZYt hlt;simp only[flat,ZYS]at hmem;obtain⟨y,hy,hyc⟩:=hmem;have hfy:=(ZXl.1 hall) y hy;have hs:scalar (flat ys)[j]=true:=by
  cases y<;>simp[fits]at hfy<;>simp[AV.cells]at hyc
  case agg cs=>exact hfy.2 _ hyc
  case bot=>simp[scalar]at hfy
  case tup=>simp[scalar]at hfy
  all_goals (simp only[flat]at hyc⊢;rw[hyc];rfl)
 exact(HT hs hr).1
def CY{s:Sem Next}{t t2 e:TypeId}{sz bytes aid:Nat}{i:TypeInfo}{zv:Value}{ad bd:Option Addr}{es ys:List AV}{cap cap2:Nat}{ty:TypeId}{fz:Bool}{rs:List Nat}{res:Zt}(m:M T X h w)(hX:∀r,X r->r<w.heap.size)
 (hid:aid<=h.length) (hT:T aid=none) (h0:0<sz)
 (ht:P.underlying t=some (.slice e)) (ht2:∃d,P.underlying t2=some d/\∀k,d≠.int k) (hi:P.info? e=some i) (hsz:i.size=sz) (hby:i.bytes=bytes) (hzv:i.zero=some zv) (hzs:zv.cells.size=sz) (hb0:0<bytes)
 (hes:es=[]\/∃r o,ad=some ⟨r,o,none⟩/\ZA T X w sz r es o) (hys:ys=[]\/∃r o,bd=some ⟨r,o,none⟩/\ZA T X w sz r ys o)
 (hbound:(es.length+ys.length)*bytes<=140737488355328) (hgrow:cap<es.length+ys.length)
 (hs:∀rv w',(Builtin.append_ #[t,t2] ty #[.slice ad es.length cap,.slice bd ys.length cap2]).run P w=.ok rv w'->s.run P w=.ok (.value rv) w')
 (he:Yp aid fz sz (es++ys) rs=some res):Sim P T X h w s res:=by
 obtain⟨C,cells,us,w1,hw1,k1,k2,k3,k4,k5,hrun⟩:=run_append_grow (P:=P) (ty:=ty) ht ht2 hi hsz hby hzv hzs hb0 hes hys hbound hgrow;have st1:Step T w T w1:=by subst hw1;exact(Step.refl T w).drew _ (λ_=>ZYA _)
 have m1:M T X h w1:=Xr m st1<|λr _=>by subst hw1;rfl
 have hX1:∀r,X r->r<w1.heap.size:=by subst hw1;exact hX
 have hsz1:w1.heap.size=w.heap.size:=by subst hw1;rfl
 have k3':=Yb st1 _ _ k3;have hlen:(es++ys).length=es.length+ys.length:=by simp
 cases fz with
 |true=>
  simp only[Yp,cond_true]at he;cases hcl:Z4 (es++ys)with
  |false=>rw[hcl]at he;cases he
  |true=>
   rw[hcl]at he;simp only[cond_true,Option.some.injEq]at he;subst he;have st:=UT T w1<|.cells cells e;refine⟨T,_,_,.inl<|hs _ _ hrun,st1.trans st,Xr m1 st<|λr hr=>alloc_old w1 _<|m1.lt r hr,?_⟩
   refine⟨_,_,_,rfl,by rw[hlen],k1,λhh=>by simp at hh,hcl,.inr ⟨w.heap.size,0,rfl,λhr=>by have:=m.lt _ hr;omega,λ_ hxx=>by have:=hX _ hxx;omega,by rw[World.size_alloc];omega,?_⟩⟩
   refine Wq k5<|Xs (Yb st _ _ k3')<|λj u hu=>?_
   rw[<-hsz1,KA,ZXf];exact k4 j u hu
 |false=>
  simp only[Yp,cond_false,Option.some.injEq]at he;subst he;have hT':Step T w1 (upd T aid<|.row sz (es++ys).length (some w1.heap.size) C 0) (w1.alloc<|.cells cells e):=VD T w1 _ aid _ hT<|by simp[TC.real]
  refine⟨upd T aid<|.row sz (es++ys).length (some w1.heap.size) C 0,_,_,.inl<|hs _ _ hrun,st1.trans hT',?_,?_⟩
  .refine JQ m1 hX1 aid _ _ _ hid hT (by simp[TC.real]) ⟨rfl,rfl,h0,by rw[hlen,ZXf];exact k1,cells,e,Wo w1 _,k2,?_⟩
   rw[ZYk];exact Wq k5<|Xs (Yb hT' _ _ k3')<|λj u hu=>by rw[KA,ZXf];exact k4 j u hu
  .refine⟨⟨_,_,_,rfl⟩,sz,_,_,C,0,upd_same _ _ _,ZX0 _,by omega,λ_=>⟨C,by omega,by omega,λhh=>by simp at hh,.inl ⟨w1.heap.size,rfl,?_⟩⟩⟩
   rw[hlen,hsz1,ZYk]
def V2{p q:Option Addr}{n m c d:Nat}(hh:Value.slice p n c=.slice q m d):p=q/\n=m/\c=d:=by
 simpa using hh
set_option maxHeartbeats 400000 in
def CZ{s:Sem Next}{t t2 e:TypeId}{sz bytes b:Nat}{i:TypeInfo}{zv:Value}{y:AV}{ty:TypeId}{es ys:List AV}{ad bd:Option Addr}{cap cap2:Nat}(m:M T X h w)(hX:∀r,X r->r<w.heap.size)
 (ht:P.underlying t=some (.slice e)) (ht2:∃d,P.underlying t2=some d/\∀k,d≠.int k) (hi:P.info? e=some i) (hsz:i.size=sz) (hby:i.bytes=bytes) (hzv:i.zero=some zv) (hzs:zv.cells.size=sz)
 (hb:h[b]?=some (.row sz es)) (hfit:ys.all (fits sz)=true) (hpos:0<ys.length) (hb0:0<bytes) (hbound:(es.length+ys.length)*bytes<=140737488355328)
 (hx:R T X w (.sl b es.length 0 es.length false)<|.slice ad es.length cap) (hes:es=[]\/∃r o,ad=some ⟨r,o,none⟩/\ZA T X w sz r es o) (hys:ys=[]\/∃r o,bd=some ⟨r,o,none⟩/\ZA T X w sz r ys o)
 (hs:∀rv w',(Builtin.append_ #[t,t2] ty #[.slice ad es.length cap,.slice bd ys.length cap2]).run P w=.ok rv w'->s.run P w=.ok (.value rv) w'):
 Sim P T X h w s (.sl b (es.length+ys.length) 0 (es.length+ys.length) false,b::Zs y,some (b,.row sz<|es++ys)):=by
 have hszB:ZR P e=some sz:=by simp[ZR,hi,hsz]
 obtain⟨r,C,B,hT3,q0,hC,hr⟩:=XV m hb;obtain⟨_,sz2,g2,r2,C2,B2,hT2,q1,q2,q3⟩:=hx;rw[hT3]at hT2;cases hT2;obtain⟨cap',q4,q5,q6,q7⟩:=q3 rfl;have hcC:B+cap<=C:=by
  rcases q7 with⟨r',_,hv⟩|⟨q8,p,hv,_⟩
  .have:=(V2 hv).2.2;omega
  .have:=(V2 hv).2.2;omega
 have hlen:(es++ys).length=es.length+ys.length:=by simp
 by_cases hroom:es.length+ys.length<=cap
 .obtain⟨r',hrr,rfl⟩:∃r',r=some r'/\ad=some ⟨r',B*sz,none⟩:=by
   rcases q7 with⟨r',e1,hv⟩|⟨q8,p,hv,_⟩
   .exact⟨r',e1,by rw[(V2 hv).1,ZXE]⟩
   .have:=(V2 hv).2.2;omega
  subst hrr;obtain⟨cs,el,k1,k2,k3⟩:=hr;obtain⟨us,c2,c3,c4,hrun⟩:=run_append_room (P:=P) (ty:=ty) (cap2:=cap2) ht ht2 hszB hys (R8 hfit) k1 hroom<|by rw[k2,<-ZXw];exact ZY7 _ hcC
  obtain⟨pre,os,rest,hos,hpl,hRo,hol⟩:=HZ k3 k1 k2 hC;obtain⟨new,hnew⟩:∃new,new=(cs.toList.take (B*sz+es.length*sz)++us++cs.toList.drop (B*sz+es.length*sz+us.length)):=⟨_,rfl⟩;rw[<-hnew]at hrun;have hnew2:new=pre++((os++us)++cs.toList.drop (B*sz+es.length*sz+us.length)):=by
   rw[hnew];have:cs.toList.take (B*sz+es.length*sz)=pre++os:=by
    rw[hos,<-hpl,ZZ8,ZYI hol]
   rw[this];simp[ZXx]
  have hsize:new.length=cs.size:=by
   rw[hnew];have hle:B*sz+es.length*sz+us.length<=cs.size:=by
    rw[c3,<-ZXw,<-ZXw,k2];exact ZY7 _<|by omega
   simp;omega
  have hw':(w.setRow r' new.toArray).heap[r']?=some (.cells new.toArray el (0,0)):=setRow_heap w r' cs new.toArray el (0,0) k1;obtain⟨st,hm⟩:=JV (w':=w.setRow r' new.toArray) (o:=.row sz<|es++ys) (c':=.row sz (es.length+ys.length) (some r') C B) m hT3 rfl rfl ⟨rfl,.inr<|by omega⟩ (KD hb) rfl rfl rfl (setRow_size _ _ _)
   (λx hx=>setRow_other w r' x _ hx)
   (λst=>⟨rfl,hlen,q0,by omega,new.toArray,el,hw',by simpa[hsize]using k2,by
    refine Wq (Ms (Kx k3).2.2 c4) ?_;rw[KE];refine Xs (Yb st _ _<|QR hRo c2)<|λj u hj=>?_
    rw[Mm k1];simp only[ZYv];rw[hnew2,ZY0 (by omega),hpl,show B*sz+j-B*sz=j by omega,ZXK (ZXg.1 hj).1]
    exact hj⟩)
  refine⟨_,_,_,.inl<|hs _ _ hrun,st,hm,⟨_,_,_,rfl⟩,sz,_,_,C,B,upd_same _ _ _,ZX0 _,by omega,λ_=>⟨cap,by omega,by omega,λhh=>by simp at hh,.inl ⟨r',rfl,by simp⟩⟩⟩
 .obtain⟨C',cells,us,w1,hw1,k1,k2,k3,k4,k5,hrun⟩:=run_append_grow (P:=P) (ty:=ty) (cap:=cap) (cap2:=cap2) ht ht2 hi hsz hby hzv hzs hb0 hes hys hbound (by omega)
  have st1:Step T w T w1:=by subst hw1;exact(Step.refl T w).drew _ (λ_=>ZYA _)
  have m1:M T X h w1:=Xr m st1<|λr _=>by subst hw1;rfl
  have hX1:∀r,X r->r<w1.heap.size:=by subst hw1;exact hX
  have hsz1:w1.heap.size=w.heap.size:=by subst hw1;rfl
  have k3':=Yb st1 _ _ k3;have st2:Step T w1 (upd T b<|.row sz (es++ys).length (some w1.heap.size) C' 0) (w1.alloc<|.cells cells e):=by
   refine⟨rfl,rfl,rfl,by rw[World.size_alloc];omega,?_,λx hx _=>alloc_old w1 _ hx,?_,λ_=>ZX0 _⟩
   .intro x cx hxx;by_cases ex:x=b
    .subst ex;rw[hT3]at hxx;cases hxx;exact⟨_,upd_same _ _ _,rfl,.inr<|by rw[hlen];omega⟩
    .exact⟨cx,by rw[upd_ne _ _ ex];exact hxx,.refl _⟩
   .intro x hxx;obtain⟨b',cx,h1,h2⟩:=hxx;by_cases ex:b'=b
    .subst ex;rw[upd_same]at h1;cases h1;simp only[TC.real,Option.some.injEq]at h2;exact .inr<|by omega
    .rw[upd_ne _ _ ex]at h1;exact .inl ⟨b',cx,h1,h2⟩
  refine⟨_,_,_,.inl<|hs _ _ hrun,st1.trans st2,?_,?_⟩
  .refine WZ m1 b _ _ (KD hb) st2 (λb' c' r' _ h1 h2=>alloc_old w1 _<|m1.lt r' ⟨b',c',h1,h2⟩) ?_ ⟨rfl,rfl,q0,by rw[hlen,ZXf];exact k1,cells,e,Wo w1 _,k2,?_⟩
   .intro r' hr';simp only[TC.real,Option.some.injEq]at hr';subst hr';exact⟨by rw[World.size_alloc];omega,λhxx=>by have:=hX1 _ hxx;omega,λb' c' _ h1 h2=>by have:=m1.lt _ ⟨b',c',h1,h2⟩;omega⟩
   .rw[ZYk];exact Wq k5<|Xs (Yb st2 _ _ k3')<|λj u hu=>by rw[KA,ZXf];exact k4 j u hu
  .refine⟨⟨_,_,_,rfl⟩,sz,_,_,C',0,upd_same _ _ _,by rw[hlen];omega,by omega,λ_=>⟨C',by omega,by omega,λhh=>by simp at hh,.inl ⟨w1.heap.size,rfl,?_⟩⟩⟩
   rw[hsz1,ZYk]
def B0{s:Sem Next}{t t2 e:TypeId}{sz bytes aid:Nat}{i:TypeInfo}{zv:Value}{x y:AV}{v u:Value}{ty:TypeId}{fz:Bool}{res:Zt}(m:M T X h w)(hX:∀r,X r->r<w.heap.size)
 (hid:aid<=h.length) (hT:T aid=none)
 (ht:P.underlying t=some (.slice e)) (ht2:∃d,P.underlying t2=some d/\∀k,d≠.int k) (hi:P.info? e=some i) (hsz:i.size=sz) (hby:i.bytes=bytes) (hzv:i.zero=some zv) (hzs:zv.cells.size=sz)
 (hx:R T X w x v) (hy:R T X w y u)
 (hs:∀rv w',(Builtin.append_ #[t,t2] ty #[v,u]).run P w=.ok rv w'->s.run P w=.ok (.value rv) w')
 (he:Qt h aid fz sz bytes x y=some res):Sim P T X h w s res:=by
 unfold Qt at he;cases hex:Q2 h x with
 |none=>rw[hex]at he;simp at he
 |some es=>
  cases hey:Q2 h y with
  |none=>rw[hex,hey]at he;simp at he
  |some ys=>
   rw[hex,hey]at he;dsimp only at he;have he2:=Wv he;clear he;obtain⟨⟨z1,z2,h0,hb0,hbound⟩,he⟩:=he2;obtain⟨ad,cap,rfl,hcap,hes⟩:=G6 m hx hex z1;obtain⟨bd,cap2,rfl,hcap2,hys⟩:=G6 m hy hey z2;have hszB:ZR P e=some sz:=by simp[ZR,hi,hsz]
   cases hemp:ys.isEmpty with
   |true=>
    rw[hemp]at he;simp only[cond_true,Option.some.injEq]at he;subst he;have:ys=[]:=ZYR.1 hemp;subst this;exact Sim.pure m (hs _ _<|CX ht ht2 hszB hcap) hx
   |false=>
    rw[hemp]at he;simp only[cond_false]at he;have hpos:0<ys.length:=by
     cases ys with
     |nil=>simp at hemp
     |cons _ _=>simp
    have fresh:∀(rs:List Nat){res:Zt},cap=es.length->Yp aid fz sz (es++ys) rs=some res->Sim P T X h w s res:=
     λrs res hc he=>CY (ty:=ty) m hX hid hT h0 ht ht2 hi hsz hby hzv hzs hb0 hes hys hbound (by omega) hs he
    cases x<;>(first|(simp only[reduceCtorEq]at he;done)|dsimp only at he|skip)
    case nilsl=>
     simp only[Q2,Option.some.injEq]at hex;subst hex;have:Value.slice ad ([]:List AV).length cap=.slice none 0 0:=hx;exact fresh _ (V2 this).2.2 he
    case isl bw ex z l=>
     cases ex with
     |false=>simp at he
     |true=>
      simp only[Q2,Option.some.injEq]at hex;subst hex;obtain⟨a2,len,cap',hv,q1,q2,q3,_⟩:=hx;have hv:=V2 hv;have:=q3 rfl;exact fresh _ (by omega) he
    case sl b g off len ex=>
     have hex':=hex;simp only[Q2]at hex';cases hb:h[b]? with
     |none=>rw[hb]at hex';cases hex'
     |some o=>
      rw[hb]at hex';cases o<;>(first|(simp only[reduceCtorEq]at hex';done)|dsimp only at hex'|skip)
      case row z all=>
       cases hg:(all.length==g)with
       |false=>rw[hg]at hex';cases hex'
       |true=>
        rw[hg]at hex';simp only[cond_true,Option.some.injEq]at hex';have hg':all.length=g:=by simpa using hg
        cases ex with
        |true=>
         refine fresh _ ?_ he;obtain⟨_,sz2,g2,r2,C2,B2,hT2,q1,q2,q3⟩:=hx;obtain⟨r,C,B,hT3,_,_,_⟩:=XV m hb;rw[hT3]at hT2;cases hT2;obtain⟨cap',q4,q5,q6,q7⟩:=q3 hg'.symm;have:=q6 rfl;rcases q7 with⟨r',_,hv⟩|⟨q8,p,hv,_⟩
         .have:=V2 hv;omega
         .have:=V2 hv;omega
        |false=>
         dsimp only at he;rw[hb]at he;dsimp only at he;cases hk:(off==0&&len==g&&ys.all (fits sz))with
         |false=>rw[hk]at he;cases he
         |true=>
          rw[hk]at he;simp only[cond_true,Option.some.injEq]at he;simp only[ZWT,beq_iff_eq]at hk;obtain⟨⟨e1,e2⟩,hfit⟩:=hk;have hall:es=all:=by rw[<-hex',e1,ZXO,ZXp<|by omega]
          have hz:z=sz:=by simpa[Qq,hb]using z1
          subst hall hz e1;subst hg';subst e2;subst he;exact CZ (ty:=ty) m hX ht ht2 hi hsz hby hzv hzs hb hfit hpos hb0 hbound hx hes hys hs
end Go.AM
namespace Go.AM
open Go
variable [Dr]
variable {P:Program} {E:Env} {T:Ty} {X:Xt} {w:World} {h:Hp} {fr:Fr} {a:Act}
def B1{k:Nat}{x y:AV}(he:eq1 k x y=some true):x=y:=by
 rcases k with _|_|_|k
 .cases x<;>cases y<;>simp[eq1]at he
  rw[he]
 .cases x<;>cases y<;>simp[eq1]at he
  rw[he.1,he.2]
 .cases x<;>cases y<;>simp[eq1]at he
  rw[Ky]at he;rw[he]
 .simp[eq1]at he
def B2{k:Nat}{x:AV}{b:Bool}(he:eq1 k x x=some b):b=true:=by
 rcases k with _|_|_|k
 .cases x<;>simp[eq1]at he
  exact he
 .cases x<;>simp[eq1]at he
  exact he
 .cases x<;>simp[eq1]at he
  rw[<-he,(Ky _ _).2 rfl]
 .simp[eq1]at he
def R9:∀{ks:List Nat}{cx cy:List AV},ZE ks cx cy=some true->cx=cy
 |[],[],[],_=>rfl
 |[],[],_::_,h=>by simp[ZE]at h
 |[],_::_,_,h=>by simp[ZE]at h
 |_::_,[],_,h=>by simp[ZE]at h
 |_::_,_::_,[],h=>by simp[ZE]at h
 |k::ks,x::cx,y::cy,h=>by
  simp only[ZE]at h;cases h1:eq1 k x y with
  |none=>rw[h1]at h;cases h
  |some b0=>
   cases h2:ZE ks cx cy with
   |none=>simp[h1,h2]at h
   |some b1=>
    simp only[h1,h2,Option.some.injEq,ZWT]at h;obtain⟨rfl,rfl⟩:=h;rw[B1 h1,R9 h2]
def Ra:∀{ks:List Nat}{cx:List AV}{b:Bool},ZE ks cx cx=some b->b=true
 |[],[],_,h=>by simp[ZE]at h;exact h
 |[],_::_,_,h=>by simp[ZE]at h
 |_::_,[],_,h=>by simp[ZE]at h
 |k::ks,x::cx,b,h=>by
  simp only[ZE]at h;cases h1:eq1 k x x with
  |none=>rw[h1]at h;cases h
  |some b0=>
   cases h2:ZE ks cx cx with
   |none=>simp[h1,h2]at h
   |some b1=>
    simp only[h1,h2,Option.some.injEq]at h;rw[<-h,B2 h1,Ra h2];rfl
def Mt{ag:Bool}{ks:List Nat}{x y:AV}(he:Zz ag ks x y=some true):x=y:=by
 cases ag with
 |true=>
  cases x<;>cases y<;>simp[Zz]at he
  rw[R9 he]
 |false=>
  simp only[Zz]at he;have:=R9 he;simpa using this
def B3{ag:Bool}{ks:List Nat}{x:AV}{b:Bool}(he:Zz ag ks x x=some b):b=true:=by
 cases ag with
 |true=>
  cases x<;>simp[Zz]at he
  exact Ra he
 |false=>
  simp only[Zz]at he;exact Ra he
def Mu{ag:Bool}{kk:List Nat}{k:AV}:∀{ks:List AV}{i:Nat}{r:Option Nat},ZW ag kk k ks i=some r->∀x∈ks,∃b,Zz ag kk k x=some b
 |[],_,_,_=>by simp
 |a::ks,i,r,h=>by
  simp only[ZW]at h;cases h1:Zz ag kk k a with
  |none=>rw[h1]at h;cases h
  |some b=>
   rw[h1]at h;cases h2:ZW ag kk k ks (i+1)with
   |none=>simp[h2]at h
   |some r'=>
    intro x hx;rcases ZXv.1 hx with rfl|hx
    .exact⟨b,h1⟩
    .exact Mu h2 x hx
def Mw{ag:Bool}{kk:List Nat}{k:AV}:∀{ks:List AV}{i:Nat},ZW ag kk k ks i=some none->∀x∈ks,Zz ag kk k x=some false
 |[],_,_=>by simp
 |a::ks,i,h=>by
  simp only[ZW]at h;cases h1:Zz ag kk k a with
  |none=>rw[h1]at h;cases h
  |some b=>
   rw[h1]at h;cases h2:ZW ag kk k ks (i+1)with
   |none=>simp[h2]at h
   |some r'=>
    rw[h2]at h;simp only[Option.some.injEq]at h;cases b with
    |true=>simp at h
    |false=>
     simp only[cond_false]at h;subst h;intro x hx;rcases ZXv.1 hx with rfl|hx
     .exact h1
     .exact Mw h2 x hx
def Mx{ag:Bool}{kk:List Nat}{k:AV}:∀{ks:List AV}{i j:Nat},ZW ag kk k ks i=some (some j)->i<=j/\∃x,ks[j-i]?=some x/\Zz ag kk k x=some true
 |[],_,_,h=>by simp[ZW]at h
 |a::ks,i,j,h=>by
  simp only[ZW]at h;cases h1:Zz ag kk k a with
  |none=>rw[h1]at h;cases h
  |some b=>
   rw[h1]at h;cases h2:ZW ag kk k ks (i+1)with
   |none=>simp[h2]at h
   |some r'=>
    rw[h2]at h;simp only[Option.some.injEq]at h;cases b with
    |true=>
     simp only[cond_true,Option.some.injEq]at h;subst h;exact⟨ZX0 _,a,by simp,h1⟩
    |false=>
     simp only[cond_false]at h;subst h;obtain⟨h3,x,h4,h5⟩:=Mx h2;refine⟨by omega,x,?_,h5⟩
     rw[show j-i=(j-(i+1))+1 by omega]
     simpa using h4
def fm(p:MapEntry->Bool):List MapEntry->Nat->Option (Nat×Value)
 |[],_=>none
 |e::es,i=>if p e then some (i,e.val)else fm p es<|i+1
def Rb{p:MapEntry->Bool}:∀{es:List MapEntry}{i:Nat}{r:Nat×Value},fm p es i=some r->i<=r.1/\∃e,es[r.1-i]?=some e/\p e=true/\e.val=r.2
 |[],_,_,h=>by simp[fm]at h
 |e::es,i,r,h=>by
  simp only[fm]at h;by_cases hp:p e=true
  .rw[if_pos hp]at h;cases h;exact⟨ZX0 _,e,by simp,hp,rfl⟩
  .rw[if_neg hp]at h;obtain⟨h1,e',h2,h3⟩:=Rb h;refine⟨by omega,e',?_,h3⟩
   rw[show r.1-i=(r.1-(i+1))+1 by omega]
   simpa using h2
def My{p:MapEntry->Bool}:∀{es:List MapEntry}{i:Nat},fm p es i=none->∀e∈es,p e=false
 |[],_,_=>by simp
 |e::es,i,h=>by
  simp only[fm]at h;by_cases hp:p e=true
  .rw[if_pos hp]at h;cases h
  .rw[if_neg hp]at h;intro x hx;rcases ZXv.1 hx with rfl|hx
   .simpa using hp
   .exact My h x hx
def B4{t:TypeId}{d:TypeDesc}{x y:Value}{b c:Bool}(ht:P.underlying t=some d)(he:(Op.equal t x y).run P w=.ok b w)(hs:Instr.sameNow d x y=some c):c=b:=by
 have eqq:Op.equal t x y=Op.equalIn (9999+1) t x y:=rfl;rw[eqq]at he;cases d<;>cases x<;>cases y<;>simp[Instr.sameNow]at hs
 .rw[run_equalIn_bool w 9999 t _ _ ht]at he;simp only[Result.ok.injEq,and_true]at he;rw[<-hs,<-he]
 .obtain⟨rfl,hs⟩:=hs;rw[run_equalIn_int w 9999 t _ _ _ _ ht]at he;simp only[Result.ok.injEq,and_true]at he;rw[<-hs,<-he]
 .rw[run_equalIn_string w 9999 t _ _ ht]at he;simp only[Result.ok.injEq,and_true]at he;rw[<-hs,<-he,<-beq_toListBytes]
def Mz{t:TypeId}{d:TypeDesc}{k:Value}{p:MapEntry->Bool}(ht:P.underlying t=some d):∀{es:List MapEntry}{i:Nat}{r:Option (Nat×Value)},(∀e∈es,(Op.equal t k e.key).run P w=.ok (p e) w)->
 Instr.findNow d k es i=some r->r=fm p es i
 |[],_,r,_,h=>by simp[Instr.findNow]at h;rw[<-h];rfl
 |e::es,i,r,he,h=>by
  simp only[Instr.findNow]at h;cases h1:Instr.sameNow d k e.key with
  |none=>rw[h1]at h;cases h
  |some c=>
   rw[h1]at h;have hc:=B4 ht (he e<|by simp) h1
   cases c with
   |true=>
    simp only[Option.some.injEq]at h;rw[<-h];simp[fm,<-hc]
   |false=>
    have:=Mz ht (λx hx=>he x<|by simp[hx]) h
    rw[this];simp[fm,<-hc]
def MA{t:TypeId}{k:Value}{p:MapEntry->Bool}:∀{es:List MapEntry}{i:Nat},(∀e∈es,(Op.equal t k e.key).run P w=.ok (p e) w)->
 (Instr.findAsking t k es i).run P w=.ok (fm p es i) w
 |[],_,_=>rfl
 |e::es,i,he=>by
  simp only[Instr.findAsking,Sem.run_bind,he e (by simp),Result.andThen_ok,Sem.run_ite,Sem.run_pure,fm]
  by_cases hp:p e=true
  .rw[if_pos hp,if_pos hp]
  .rw[if_neg hp,if_neg hp];exact MA<|λx hx=>he x<|by simp[hx]
def run_findKey{t:TypeId}{d:TypeDesc}{k:Value}{p:MapEntry->Bool}(ht:P.underlying t=some d){es:List MapEntry}(he:∀e∈es,(Op.equal t k e.key).run P w=.ok (p e) w):
 (Instr.findKey t k es).run P w=.ok (fm p es 0) w:=by
 simp only[Instr.findKey,Sem.run_bind,run_underlying ht,Result.andThen_ok];cases hn:Instr.findNow d k es 0 with
 |none=>exact MA he
 |some r=>rw[Mz ht he hn];rfl
def MB(d:Nat):∀(n:Nat)(t:TypeId)(ks:List Nat),d<=n->tk P d t=some ks->∀(em:Bool)(vs:List Value),vs.length=ks.length->∀w:World,(Instr.checkKey em n t<|mkV P t vs).run P w=.ok () w:=by
 have H:(∀(n:Nat)(t:TypeId)(ks:List Nat),d<=n->tk P d t=some ks->∀(em:Bool)(vs:List Value),vs.length=ks.length->∀w:World,(Instr.checkKey em n t<|mkV P t vs).run P w=.ok () w)/\
  (∀(n:Nat)(fs:List Field)(off:Nat)(ks:List Nat),d<=n+1->tkf P d fs off=some ks->∀(em:Bool)(xs:Array Value),off+ks.length<=xs.size->∀w:World,
   (forIn fs PUnit.unit (λf _=>do
    if f.name≠"_" then
     let __do_lift <-part f.type xs f.offset
     Instr.checkKey em n f.type __do_lift
     pure (ForInStep.yield PUnit.unit)
    else pure<|ForInStep.yield PUnit.unit):Sem PUnit).run P w=.ok PUnit.unit w):=by
  induction d with
  |zero=>exact⟨λn t ks _ h=>by simp[tk]at h,λn fs off ks _ h=>by simp[tkf]at h⟩
  |succ d ih=>
   constructor
   .intro n t ks hd hk em vs hl w;obtain⟨n,rfl⟩:∃k,n=k+1:=⟨n-1,by omega⟩
    have h0:=hk;unfold tk at hk;obtain⟨desc,hu⟩:=VG h0;rw[hu]at hk;cases desc with
    |struct fs=>
     simp only[ZYh,ZYj]at hk;obtain⟨_,hk⟩:=hk;have ha:ZF P t=true:=by simp[ZF,hu]
     simp only[mkV,ha,if_true,Instr.checkKey,Sem.run_bind,run_underlying hu,Result.andThen_ok];rw[<-Array.forIn_toList];have:=ih.2 n fs.toList 0 ks (by omega) hk em vs.toArray (by simp[hl]) w
     simp at this⊢;rw[this];rfl
    |array m e=>
     simp only at hk;cases he:tk P d e with
     |none=>rw[he]at hk;cases hk
     |some l=>
      rw[he]at hk;simp only[ZYq,Option.some.injEq]at hk;obtain⟨hsz,rfl⟩:=hk;have ha:ZF P t=true:=by simp[ZF,hu]
      obtain⟨desc,hund⟩:=VG he;have h1:=λhh=>UX he hh
      simp only[mkV,ha,if_true,Instr.checkKey,Sem.run_bind,run_underlying hu,Result.andThen_ok];simp only[Std.Legacy.Range.forIn_eq_forIn_range',Std.Legacy.Range.size,Nat.sub_zero,Nat.add_one_sub_one,Nat.div_one];have hlen:vs.length=m*l.length:=by simpa using hl
      have key:∀(is:List Nat),(∀i∈is,i<m)->(forIn is PUnit.unit (λi _=>do
       let __do_lift <-sizeOf e
       let __do_lift <-part e vs.toArray (i*__do_lift)
       Instr.checkKey em n e __do_lift
       pure (ForInStep.yield PUnit.unit)):Sem PUnit).run P w=.ok PUnit.unit w:=by
       intro is;induction is with
       |nil=>intro _;rfl
       |cons i is ihi=>
        intro hi;have hlt:=hi i<|by simp
        have hle:i*l.length+l.length<=vs.toArray.size:=by
         simp only[List.size_toArray,hlen,<-ZYc];exact ZY7 _ hlt
        have hp:=JT w hund hsz vs.toArray h1 hle;have hc:=ih.1 n e l (by omega) he em ((vs.toArray.toList.drop<|i*l.length).take l.length) (by simp at hle⊢;omega) w
        simp only[List.forIn_cons,Sem.run_bind,QY w hsz,Result.andThen_ok,hp,hc,Sem.run_pure];exact ihi<|λj hj=>hi j<|by simp[hj]
      have:=key (List.range' 0 m)<|λi hi=>by simp at hi;omega
      simp at this⊢;rw[this];rfl
    |bool=>simp[Instr.checkKey,run_underlying hu]
    |int q=>simp[Instr.checkKey,run_underlying hu]
    |string=>simp[Instr.checkKey,run_underlying hu]
    |_=>simp at hk
   .intro n fs off ks hd hk em xs hl w;cases fs with
    |nil=>rfl
    |cons f fs=>
     unfold tkf at hk;simp only[ZYh,not_or,Decidable.not_not]at hk;obtain⟨⟨hn,ho⟩,hk⟩:=hk;cases he:tk P d f.type with
     |none=>rw[he]at hk;cases hk
     |some l=>
      rw[he]at hk;simp only[ZYq,ZXi]at hk;obtain⟨hsz,ks',h',rfl⟩:=hk;obtain⟨desc,hund⟩:=VG he;have h1:=λhh=>UX he hh
      simp only[ZX7]at hl;have hp:=JT w hund hsz xs h1 (off:=off)<|by omega
      have hc:=ih.1 n f.type l (by omega) he em ((xs.toList.drop off).take l.length) (by simp;omega) w
      have hr:=ih.2 n fs (off+l.length) ks' (by omega) h' em xs (by omega) w
      subst ho;simp only[List.forIn_cons,Sem.run_bind,Sem.run_ite,ne_eq,hn,not_false_eq_true,if_true,hp,hc,Result.andThen_ok,Sem.run_pure];exact hr
 exact H.1
end Go.AM
