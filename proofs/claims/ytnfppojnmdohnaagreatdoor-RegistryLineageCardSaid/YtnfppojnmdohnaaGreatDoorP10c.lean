/- What the functions of the program compute, part 3, for RegistryLineage. No condition. -/
import Derived.Test.YtnfppojnmdohnaaGreatDoorP10b
import Derived.Test.YtnfppojnmdohnaaGreatDoorS1
set_option linter.unusedVariables false
set_option linter.unusedSimpArgs false
open Nat renaming reduceAdd → qq, reduceSub → qx, reduceMul → qz, reduceLT → qv, reduceLeDiff → qk, reduceBEq → qy
namespace Go.AM
open Go
def ZcX:List (List UInt8)→List (List UInt8)
 | []=>[]
 | a::r=>match ZcX r with
  | []=>[a]
  | b::s=>if a=b then b::s else a::b::s
theorem ZdC:∀ l:List (List UInt8),Ys (l.map Qd)=(ZcX l).map Qd
 | []=>rfl
 | a::r=>by
  rw [Zo0];unfold Ys ZcX;rw [ZdC r];cases ZcX r with
  | nil=>rfl
  | cons b s=>
   have e:sameKey (Qd a) (Qd b)=decide (a=b):=by
    show Z3 _ _=_
    unfold Z3;have e1:(⟨a.toArray⟩:ByteArray).data.toList=a:=by simp
    have e2:(⟨b.toArray⟩:ByteArray).data.toList=b:=by simp
    rw [e1,e2];by_cases h:a=b
    ·subst h;simp
    ·rw [decide_eq_false h];simpa using h
   show (bif sameKey (Qd a) (Qd b) then _ else _)=_
   rw [e];by_cases h:a=b
   ·simp [h]
   ·simp [h]
theorem Ze5 (a:List UInt8) (r:List (List UInt8)):∃ t,ZcX (a::r)=a::t∧t.length≤r.length:=by
 induction r generalizing a with
 | nil=>exact ⟨[],rfl,Zo5 _⟩
 | cons b s ih=>
  obtain ⟨t,h1,h2⟩:=ih b;unfold ZcX;rw [h1];by_cases h:a=b
  ·subst h;exact ⟨t,by simp,by simp;omega⟩
  ·exact ⟨b::t,by simp [h],by simp;omega⟩
def Adj:List (List UInt8)→Prop
 | []=>True
 | [_]=>True
 | a::b::r=>a≠b∧Adj (b::r)
theorem ZdD:∀ l:List (List UInt8),(ZcX l).length=l.length↔Adj l
 | []=>⟨fun _=>trivial,fun _=>rfl⟩
 | [a]=>⟨fun _=>trivial,fun _=>rfl⟩
 | a::b::r=>by
  have ih:=ZdD (b::r);obtain ⟨t,h1,h2⟩:=Ze5 b r;rw [h1] at ih;unfold Adj;rw [←ih];unfold ZcX;rw [h1];by_cases h:a=b
  ·subst h;simp;omega
  ·simp [h]
theorem ZdE:∀ l:List (List UInt8),l.Pairwise (fun a b=>leB a b=true)→Adj l→l.Nodup
 | [],_,_=>.nil
 | [a],_,_=>by simp
 | a::b::r,hs,h=>by
  unfold Adj at h;rw [List.pairwise_cons] at hs;have ih:=ZdE (b::r) hs.2 h.2;rw [Zoa];refine ⟨fun hm=>?_,ih⟩
  rcases List.mem_cons.1 hm with e | hm
  ·exact h.1 e
  ·have hb:=(List.pairwise_cons.1 hs.2).1 a hm;exact h.1 (ET _ _ (hs.1 b (Zot ..)) hb)
theorem ZdF:∀ l:List (List UInt8),l.Nodup→Adj l
 | [],_=>trivial
 | [a],_=>trivial
 | a::b::r,h=>by
  rw [Zoa] at h;exact ⟨fun e=>h.1 (by rw [e];exact Zot ..),ZdF (b::r) h.2⟩
theorem bytes_inj {a b:Str} (h:a.data.toList=b.data.toList):a=b:=by
 obtain ⟨⟨a⟩⟩:=a;obtain ⟨⟨b⟩⟩:=b;have:a=b:=h;rw [this]
theorem ZdG {α β:Type} {f:α→β} (hf:∀ a b,f a=f b→a=b):∀ {l:List α},(l.map f).Nodup↔l.Nodup
 | []=>by simp
 | a::r=>by
  rw [Zo0,Zoa,Zoa,ZdG hf];refine and_congr_left fun _=>not_congr ⟨fun h=>?_,fun h=>List.mem_map_of_mem h⟩
  obtain ⟨b,hb,e⟩:=Zon.1 h;rw [←hf _ _ e];exact hb
theorem Ze6 (l:List Str):l.map encS=(l.map (fun x:Str=>x.data.toList)).map Qd:=by
 rw [List.map_map];apply List.map_congr_left;intro x _;obtain ⟨⟨x⟩⟩:=x;rfl
theorem Zdk (l:List Str):Jq l=true↔l.Nodup:=by
 have e:(Ys (Yk (l.map encS))).length=(ZcX (WD (l.map (fun x:Str=>x.data.toList)))).length:=by
  rw [Ze6,D4,ZdC,ZnK]
 have hl:(WD (l.map (fun x:Str=>x.data.toList))).length=l.length:=by
  rw [(RS _).length_eq,ZnK]
 unfold Jq;rw [beq_iff_eq,e];rw [show ((ZcX (WD (l.map (fun x:Str=>x.data.toList)))).length:Int)=(l.length:Int)↔(ZcX (WD (l.map (fun x:Str=>x.data.toList)))).length=(WD (l.map (fun x:Str=>x.data.toList))).length from by rw [hl];omega]
 rw [ZdD];have h1:Adj (WD (l.map (fun x:Str=>x.data.toList)))↔(WD (l.map (fun x:Str=>x.data.toList))).Nodup:=⟨ZdE _ (D8 _),ZdF _⟩
 rw [h1,(RS _).nodup_iff,ZdG (fun a b h=>bytes_inj h)]
end Go.AM
namespace Go.AM
open Go
theorem Zbz {α:Type} (l:List α) (k:Nat) (f:α→α) (i:Nat):(ZK l k f)[i]? = if i=k then (l[k]?).map f else l[i]?:=by
 unfold ZK;cases h:l[k]? with
 | none=>
  by_cases hi:i=k
  ·subst hi;rw [if_pos rfl,h];rfl
  ·rw [if_neg hi]
 | some x=>
  by_cases hi:i=k
  ·subst hi;rw [if_pos rfl,List.getElem?_set_self (Zoi.1 h).1];rfl
  ·rw [if_neg hi,List.getElem?_set_ne (Ne.symm hi)]
end Go.AM
namespace Go.AM
open Go
theorem ZbV {s:Sta} {a:Int} {e:Event} (h:Qk s a e=0):okB s a e=true∧Q1 (wk0 s a e)=0∧Wh (stepW (wk0 s a e)).s.Doors=true∧ZP s a e=(stepW (wk0 s a e)).s:=by
 unfold Qk at h;unfold ZP;cases c1:okB s a e with
 | false=>rw [c1] at h;cases h
 | true=>
 cases c2:Q1 (wk0 s a e)==0 with
 | false=>
  rw [c1,c2,cond_true,cond_false] at h;rw [h] at c2;cases c2
 | true=>
 cases c3:Wh (stepW (wk0 s a e)).s.Doors with
 | false=>rw [c1,c2,c3] at h;cases h
 | true=>exact ⟨rfl,by simpa using c2,rfl,rfl⟩
theorem ZbX {s:Sta} {a:Int} {e:Event} (h:okB s a e=true):Jx s=true∧QM a 0 0=true∧Q9 e=true:=by
 unfold okB at h;simp only [ZnG] at h;exact h
end Go.AM
namespace Go.AM
open Go
structure Prop' (s:Sta):Prop where
 rg:∀ x∈s.Regions,Vo x=true
 st:∀ x∈s.Streets,Vp x=true
 bu:∀ x∈s.Buildings,Vq x=true
 dr:∀ (i:Nat) d,s.Doors[i]? = some d→Vr s i d=true
 un:∀ x∈s.Units,Vs s x=true
 ids:(Qp s).Nodup
 pa:WK s=true
theorem Zda {α:Type} {P:Nat→α→Bool}:∀ {l:List α} {i:Nat},Zu P i l=true↔∀ (j:Nat) x,l[j]? = some x→P (i+j) x=true
 | [],i=>⟨fun _ j x h=>(by simp at h),fun _=>rfl⟩
 | y::r,i=>by
  unfold Zu;rw [ZnG,Zda (l:=r)];constructor
  ·rintro ⟨h1,h2⟩ j x hx;cases j with
   | zero=>cases hx;exact h1
   | succ j=>have:=h2 j x hx;rw [show i+(j+1)=i+1+j by omega];exact this
  ·intro h;exact ⟨h 0 y rfl,fun j x hx=>by have:=h (j+1) x hx;rw [show i+1+j=i+(j+1) by omega];exact this⟩
theorem Zdb (s:Sta):Jx s=true↔Prop' s∧Wh s.Doors=true:=by
 unfold Jx;simp only [ZnG];constructor
 ·rintro ⟨h1,h2,h3,h4,h5,h6,h7,h8⟩;exact ⟨⟨ZnS.1 h1,ZnS.1 h2,ZnS.1 h3,fun i d hd=>by have:=Zda.1 h4 i d hd;rwa [Zo4] at this,ZnS.1 h5,(Zdk _).1 h6,h8⟩,h7⟩
 ·rintro ⟨⟨h1,h2,h3,h4,h5,h6,h8⟩,h7⟩;exact ⟨ZnS.2 h1,ZnS.2 h2,ZnS.2 h3,Zda.2 (fun i d hd=>by rw [Zo4];exact h4 i d hd),ZnS.2 h5,(Zdk _).2 h6,h7,h8⟩
def look {α:Type} (f:α→Str) (l:List α) (id:Str):Int:=Zp (fun x=>Z3 (f x) id) l 0
theorem Ze7 {α:Type} {f:α→Str} {l:List α} {id:Str} (h:decide (look f l id < 0)=true):look f l id=-1:=by
 unfold look at h ⊢;rcases UA (fun x=>Z3 (f x) id) l 0 with ⟨h1,_⟩ | ⟨j,x,h1,_⟩
 ·exact h1
 ·have:=of_decide_eq_true h;omega
theorem ZcU {α:Type} {f:α→Str} {l:List α} {id:Str} (h:decide (look f l id < 0)=false):∃ (j:Nat) (x:α),look f l id=(j:Int)∧l[j]? = some x∧f x=id:=by
 unfold look at h ⊢;rcases UA (fun x=>Z3 (f x) id) l 0 with ⟨h1,_⟩ | ⟨j,x,h1,h2,h3⟩
 ·rw [h1] at h;cases h
 ·exact ⟨j,x,by omega,h2,by have:=List.find?_some h3;exact (Ky _ _).1 this⟩
theorem Ze8 {α:Type} {f:α→Str} {l:List α} {x:α} (h:x∈l):decide (look f l (f x) < 0)=false:=by
 unfold look;rcases UA (fun y=>Z3 (f y) (f x)) l 0 with ⟨_,h2⟩ | ⟨j,y,h1,_,_⟩
 ·exfalso;have:=List.find?_eq_none.1 h2 x h;exact this ((Ky _ _).2 rfl)
 ·exact decide_eq_false (by omega)
theorem Zi1 {α:Type} {f:α→Str} {l:List α} {j:Nat} {x:α} (hn:(l.map f).Nodup) (h:l[j]? = some x):look f l (f x)=(j:Int):=by
 obtain ⟨k,y,h1,h2,h3⟩:=ZcU (Ze8 (f:=f) (ZnY h));have hk:(l.map f)[k]? = some (f x):=by rw [Zoh,h2,ZnV,h3]
 have hj:(l.map f)[j]? = some (f x):=by rw [Zoh,h,ZnV]
 have hkl:=(Zoi.1 hk).1;have:k=j:=(List.getElem?_inj hkl hn).1 (hk.trans hj.symm);rw [h1,this]
theorem Zd0 (s:Sta) (i:Nat) (d:Door):Vr s i d=true↔QM d.Owner d.Ended d.From=true∧(∀ id∈d.After.l,decide (Zn s id≤i)=false)∧UC d=false∧(Z3 d.Veil emp=true→NO s d=false∧Q9 { Hf d with Kind:=6 }=true)∧(Z3 d.Veil emp=false→NN d=true):=by
 unfold Vr Hg K8;rw [ZnG,ZnG,ZnG,ZnS,ZnU];simp only [ZnU];cases Z3 d.Veil emp with
 | true=>rw [cond_true,ZnG,ZnU];simp
 | false=>rw [cond_false];simp
end Go.AM
namespace Go.AM
open Go
theorem ZcV {e:Event} (h:Q9 e=true):Q8 e=true:=by
 unfold Q9 at h;simp only [ZnG] at h;exact h.2.2.2.2
theorem Zd3 {e:Event} (h1:(ZD e.Kind 1 15&&(ZD e.Day 0 100000&&(!Fb (Zq e)&&NG (Zq e))))=true):Q9 e=Q8 e:=by
 unfold Q9;simp only [ZnG] at h1;rw [h1.1,h1.2.1,h1.2.2.1,h1.2.2.2];rfl
theorem Zdm (x:Door):Q9 { Hf x with Kind:=6 }=(Qv [x.Id,x.Building,x.Street]&&(YO x.Number&&gOn x.Point)):=(Zd3 (by rfl)).trans (by kernel_rfl)
theorem ZcW {e:Event} {k:Int} (hk:e.Kind=k):Q8 e=Q8 { e with Kind:=k }:=by rw [←hk]
end Go.AM
namespace Go.AM
open Go
theorem Zah {n m:Int} (h:(n != m)=false):n=m:=by simpa using h
end Go.AM
namespace Go.AM
open Go
end Go.AM
namespace Go.AM
open Go
theorem ZdP {K:List Str} {x:Str}:K.any (Z3 x)=true↔x∈K:=by
 rw [ZoC];exact ⟨fun ⟨y,h1,h2⟩=>by rw [(Ky _ _).1 h2];exact h1,fun h=>⟨x,h,(Ky _ _).2 rfl⟩⟩
theorem Zdy:∀ (l K:List Str),(l.foldl (Qi Z3) K).length≤K.length+l.length∧((l.foldl (Qi Z3) K).length=K.length+l.length↔l.Nodup∧∀ x∈l,x ∉ K)
 | [],K=>⟨by simp,by simp⟩
 | x::r,K=>by
  rw [List.foldl_cons];unfold Qi;cases hx:K.any (Z3 x) with
  | true=>
   obtain ⟨h1,h2⟩:=Zdy r K;simp only [cond_true];rw [Zoc];refine ⟨by have:=h1;unfold Qi at this;omega,⟨fun h=>?_,fun h=>?_⟩⟩
   ·have:=h1;unfold Qi at this;omega
   ·exact absurd (ZdP.1 hx) (h.2 x (Zot ..))
  | false=>
   obtain ⟨h1,h2⟩:=Zdy r (K++[x]);have hk:x ∉ K:=fun h=>by rw [ZdP.2 h] at hx;cases hx
   simp only [cond_false];unfold Qi at h1 h2;rw [Zo2,Zok] at h1 h2;rw [Zoc];refine ⟨by omega,?_⟩
   rw [show K.length+(r.length+1)=K.length+1+r.length by omega,h2,Zoa]
   constructor
   ·rintro ⟨g1,g2⟩;refine ⟨⟨fun hm=>g2 x hm (List.mem_append_right _ (ZoH.2 rfl)),g1⟩,fun y hy=>?_⟩
    rcases List.mem_cons.1 hy with rfl | hy
    ·exact hk
    ·exact fun h=>g2 y hy (List.mem_append_left _ h)
   ·rintro ⟨⟨g1,g2⟩,g3⟩;refine ⟨g2,fun y hy hm=>?_⟩
    rcases List.mem_append.1 hm with h | h
    ·exact g3 y (ZoD _ hy) h
    ·rw [ZoH] at h;exact g1 (h▸hy)
theorem Zdg (l:List Str):Qv l=true↔l.Nodup∧∀ x∈l,Ha x=false:=by
 unfold Qv XH;rw [ZnG,beq_iff_eq,ZnU,Zox];have h:=(Zdy l []).2;rw [Zod,Zo4] at h;rw [show (((l.foldl (Qi Z3) []).length:Nat):Int)=(l.length:Int)↔(l.foldl (Qi Z3) []).length=l.length from by omega,h]
 constructor
 ·rintro ⟨⟨h1,_⟩,h2⟩;exact ⟨h1,fun x hx=>by simpa using h2 x hx⟩
 ·rintro ⟨h1,h2⟩;exact ⟨⟨h1,fun x _ h=>by cases h⟩,fun x hx=>by rw [h2 x hx];decide⟩
end Go.AM
namespace Go.AM
open Go
end Go.AM
namespace Go.AM
open Go
theorem ZdU {w:Wk} {k:Nat} {x:Door} {a:NL Str} (hx:w.s.Doors[k]? = some x):Qf w k a={ w with s:={ w.s with Doors:=ZK w.s.Doors k (UF w.e a),Units:=UH w.e x.Id a w.s.Units } }:=by
 unfold Qf;rw [hx];rfl
end Go.AM
namespace Go.AM
open Go
end Go.AM
namespace Go.AM
open Go
end Go.AM
namespace Go.AM
open Go
end Go.AM
namespace Go.AM
open Go
end Go.AM
namespace Go.AM
open Go
structure SizeOk (s:Sta):Prop where
 rg:∀ x∈s.Regions,x.Names.l.length≤100∧x.Ring.l.length≤100∧x.Id.size≤1000
 st:∀ x∈s.Streets,x.Names.l.length≤100∧x.Line.l.length≤100∧x.Id.size≤1000
 bu:∀ x∈s.Buildings,x.Ring.l.length≤100∧x.Id.size≤1000
 dr:∀ x∈s.Doors,DoS x
 un:∀ x∈s.Units,x.Id.size≤1000∧x.Door.size≤1000∧x.Text.size≤1000
end Go.AM
namespace Go.AM
open Go
def hasB (l:List Str) (x:Str):Bool:=l.any (fun y=>Z3 y x)
theorem Zn6 {l:List Str} {x:Str}:hasB l x=true↔x∈l:=by
 unfold hasB;rw [ZoC];exact ⟨fun ⟨y,h1,h2⟩=>by rw [(Ky _ _).1 h2] at h1;exact h1,fun h=>⟨x,h,(Ky _ _).2 rfl⟩⟩
def dId (s:Sta) (k:Int):Str:=match s.Doors[k.toNat]? with | some d=>d.Id | none=>emp
theorem Zn7 {a:NL Str} {n:Str} {r:List Str} (ha:a.l=n::r):∀ (l:List Int) (w:Wk),l.Nodup→(∀ k∈l,∃ (j:Nat) (x:Door),k=(j:Int)∧w.s.Doors[j]? = some x)→
 (Yg w l a).s.Doors.length=w.s.Doors.length∧(Yg w l a).s.Units.length=w.s.Units.length∧
 (∀ (j:Nat) (x:Door),w.s.Doors[j]? = some x→(Yg w l a).s.Doors[j]? = some (bif l.contains (j:Int) then UF w.e a x else x))∧
 (∀ (i:Nat) (u:Unit'),w.s.Units[i]? = some u→(Yg w l a).s.Units[i]? = some (bif u.Ended==-1&&l.any (fun k=>Z3 u.Door (dId w.s k)) then { u with Door:=n } else u))
 | [],w,_,_=>⟨rfl,rfl,fun j x h=>h,fun i u h=>by rw [List.any_nil,Zov];exact h⟩
 | k::l,w,hn,hl=>by
  obtain ⟨j0,x0,hk,hx0⟩:=hl k (Zot ..);rw [Zoa] at hn;have hkn:k.toNat=j0:=by omega
  have hform:=ZdU (a:=a) (w:=w) (k:=k.toNat) (x:=x0) (by rw [hkn];exact hx0)
  have hD:(Qf w k.toNat a).s.Doors=ZK w.s.Doors j0 (UF w.e a):=by rw [hform,hkn]
  have hU:(Qf w k.toNat a).s.Units=UH w.e x0.Id a w.s.Units:=by rw [hform]
  have he:(Qf w k.toNat a).e=w.e:=by rw [hform]
  have hid:∀ q:Int,dId (Qf w k.toNat a).s q=dId w.s q:=by
   intro q;unfold dId;rw [hD,Zbz];by_cases hc:q.toNat=j0
   ·rw [if_pos hc,hc,hx0];rfl
   ·rw [if_neg hc]
  obtain ⟨i1,i2,i3,i4⟩:=Zn7 ha l (Qf w k.toNat a) hn.2 (fun q hq=>by
   obtain ⟨j,x,h1,h2⟩:=hl q (ZoD _ hq);refine ⟨j,x,h1,?_⟩;rw [hD,Zbz,if_neg (fun hc=>hn.1 (by rw [hk,←hc,←h1];exact hq))]
   exact h2)
  rw [UJ];refine ⟨by rw [i1,hD,Xm],by rw [i2,hU];simp [UH],fun j x hx=>?_,fun i u hu=>?_⟩
  ·by_cases hj:j=j0
   ·subst hj;rw [hx0] at hx;cases hx;have:=i3 j (UF w.e a x0) (by rw [hD,Zbz,if_pos rfl,hx0];rfl)
    have hc:l.contains (j:Int)=false:=by
     cases q:l.contains (j:Int) with
     | false=>rfl
     | true=>exact absurd (by rw [hk];exact ZoE.1 q) hn.1
    rw [this,hc,List.contains_cons,hk,beq_self_eq_true,ZnM];rfl
   ·have:=i3 j x (by rw [hD,Zbz,if_neg hj];exact hx)
    have hb:((j:Int)==k)=false:=by
     rw [hk];exact beq_eq_false_iff_ne.2 (fun h=>hj (by omega))
    rw [this,he,List.contains_cons,hb,Zo3]
  ·have hd0:dId w.s k=x0.Id:=by unfold dId;rw [hkn,hx0]
   have hu1:(Qf w k.toNat a).s.Units[i]? = some (XO w.e x0.Id a u):=by
    rw [hU];unfold UH;rw [Zoh,hu];rfl
   rw [i4 i _ hu1];simp only [hid];congr 1;rw [List.any_cons,hd0];unfold XO Z3P;cases c1:u.Ended==-1 with
   | false=>
    have:(u.Ended != -1)=true:=by rw [bne,c1];rfl
    rw [this];simp only [Zo9,Zov,cond_false,Zoq,c1]
   | true=>
    have:(u.Ended != -1)=false:=by rw [bne,c1];rfl
    rw [this,Zow,ZnZ];cases c2:Z3 u.Door x0.Id with
    | false=>simp only [cond_false,Zo3,ZnW,c1]
    | true=>
     have hE:UG w.e a u={ u with Door:=n }:=by unfold UG;rw [ha]
     rw [cond_true,hE,ZnM,ZnW,cond_true];cases (({ u with Door:=n }:Unit').Ended==-1&&l.any fun q=>Z3 ({ u with Door:=n }:Unit').Door (dId w.s q))<;>rfl
structure LinP (s t:Sta) (e:Event) (old:List Str) (L:List Ent) (st:Str):Prop where
 ld:t.Doors.length=s.Doors.length+L.length
 lu:t.Units.length=s.Units.length
 new:∀ (i:Nat) (x:Ent),L[i]? = some x→∃ d:Door,t.Doors[s.Doors.length+i]? = some d∧d.Id=x.Id∧d.Number=x.Number∧d.Point=x.Point∧d.Ended=-1∧d.Street=st
 st0:Z3 st emp=false
 d:∀ (i:Nat) (x:Door),s.Doors[i]? = some x→(hasB old x.Id=false∧t.Doors[i]? = some x)∨(hasB old x.Id=true∧x.Ended=-1∧t.Doors[i]? = some (UF e ⟨false,L.map (·.Id)⟩ x)∧x.Street=st)
 u:∀ (i:Nat) (u:Unit'),s.Units[i]? = some u→t.Units[i]? = some (bif u.Ended==-1&&hasB old u.Door then { u with Door:=((L.map (·.Id)).headD emp) } else u)
theorem Zn8 {s:Sta} {w:Wk} {old:List Str} {L:List Ent} {N:List Door} {st:Str} (hp:Prop' s) (hw:w.s.Doors=s.Doors++N) (hu:w.s.Units=s.Units) (hlen:N.length=L.length) (hL:L≠[])
 (hN:∀ (i:Nat) (x:Ent),L[i]? = some x→∃ d:Door,N[i]? = some d∧d.Id=x.Id∧d.Number=x.Number∧d.Point=x.Point∧d.Ended=-1∧d.Street=st)
 (hold:∀ id∈old,∃ (j:Nat) (x:Door),Zn s id=(j:Int)∧s.Doors[j]? = some x∧x.Id=id∧x.Ended=-1∧x.Street=st) (hnd:(old.map (fun id=>Zn s id)).Nodup) (hst:Z3 st emp=false):
 LinP s (Yg w (old.map (fun id=>Zn s id)) ⟨false,L.map (·.Id)⟩).s w.e old L st:=by
 have hnD:(s.Doors.map (·.Id)).Nodup:=by
  have:=hp.ids;unfold Qp at this;simp only [List.nodup_append] at this;exact this.2.1.2.1.2.1.1
 obtain ⟨y,r,hy⟩:∃ y r,L=y::r:=by
  cases L with
  | nil=>exact absurd rfl hL
  | cons y r=>exact ⟨y,r,rfl⟩
 have ha:(⟨false,L.map (·.Id)⟩:NL Str).l=y.Id::r.map (·.Id):=by rw [hy];rfl
 have hat:∀ (j:Nat) (x:Door),s.Doors[j]? = some x→w.s.Doors[j]? = some x:=fun j x h=>by
  rw [hw,List.getElem?_append_left (Z7 h)];exact h
 obtain ⟨i1,i2,i3,i4⟩:=Zn7 ha (old.map (fun id=>Zn s id)) w hnd (fun k hk=>by
  obtain ⟨id,hid,rfl⟩:=Zon.1 hk;obtain ⟨j,x,h1,h2,_⟩:=hold id hid;exact ⟨j,x,h1,hat j x h2⟩)
 have hdid:∀ id∈old,dId w.s (Zn s id)=id:=by
  intro id hid;obtain ⟨j,x,h1,h2,h3,_⟩:=hold id hid;unfold dId;rw [h1,show ((j:Int)).toNat=j from rfl,hat j x h2]
  exact h3
 refine ⟨?_,?_,fun i x hx=>?_,hst,fun i x hx=>?_,fun i u hx=>?_⟩
 ·rw [i1,hw,Zo2,hlen]
 ·rw [i2,hu]
 ·obtain ⟨d,h1,h2⟩:=hN i x hx;refine ⟨d,?_,h2⟩;rw [i3 _ d (by rw [hw,List.getElem?_append_right (by omega),Nat.add_sub_cancel_left];exact h1)]
  have hc:(old.map (fun id=>Zn s id)).contains ((s.Doors.length+i:Nat):Int)=false:=by
   cases q:(old.map (fun id=>Zn s id)).contains ((s.Doors.length+i:Nat):Int) with
   | false=>rfl
   | true=>
    obtain ⟨id,hid,hq⟩:=Zon.1 (ZoE.1 q);obtain ⟨j,x,g1,g2,_⟩:=hold id hid;have:=Z7 g2;omega
  rw [hc];rfl
 ·have h3:=i3 i x (hat i x hx);cases c:hasB old x.Id with
  | true=>
   refine Or.inr ⟨rfl,?_⟩;have hm:=Zn6.1 c;obtain ⟨j,z,g1,g2,g3,g4,g5⟩:=hold x.Id hm;have hl:=Zi1 (f:=fun d:Door=>d.Id) hnD hx
   have hl':Zn s x.Id=(i:Int):=hl;have hij:i=j:=by omega
   subst hij;rw [hx] at g2;cases g2;refine ⟨g4,?_,g5⟩;rw [h3,ZoE.2 (Zon.2 ⟨x.Id,hm,hl'⟩)];rfl
  | false=>
   refine Or.inl ⟨rfl,?_⟩;have hc:(old.map (fun id=>Zn s id)).contains (i:Int)=false:=by
    cases q:(old.map (fun id=>Zn s id)).contains (i:Int) with
    | false=>rfl
    | true=>
     obtain ⟨id,hid,hq⟩:=Zon.1 (ZoE.1 q);obtain ⟨j,z,g1,g2,g3,_⟩:=hold id hid;have hij:i=j:=by omega
     subst hij;rw [hx] at g2;cases g2;rw [g3,Zn6.2 hid] at c;cases c
   rw [h3,hc];rfl
 ·rw [i4 i u (by rw [hu];exact hx)]
  have hq:(old.map (fun id=>Zn s id)).any (fun k=>Z3 u.Door (dId w.s k))=hasB old u.Door:=by
   rw [List.any_map];unfold hasB;rw [Bool.eq_iff_iff,ZoC,ZoC];constructor
   ·rintro ⟨id,h1,h2⟩;refine ⟨id,h1,?_⟩;have h2':Z3 u.Door (dId w.s (Zn s id))=true:=h2;rw [hdid id h1] at h2';exact (Ky _ _).2 ((Ky _ _).1 h2').symm
   ·rintro ⟨id,h1,h2⟩;refine ⟨id,h1,?_⟩;show Z3 u.Door (dId w.s (Zn s id))=true
    rw [hdid id h1];exact (Ky _ _).2 ((Ky _ _).1 h2).symm
  rw [hq,hy];rfl
end Go.AM
namespace Go.AM
open Go
theorem Zn9 {s:Sta} {k:Nat} {d:Door} (h:Vr s k d=true) (hv:Z3 d.Veil emp=true):Z3 d.Street emp=false:=by
 rw [Zd0] at h;obtain ⟨_,_,_,o4,_⟩:=h;obtain ⟨_,q2⟩:=o4 hv;rw [Zdm,ZnG,Zdg] at q2;have hb:=q2.1.2 d.Street (by simp)
 cases hc:Z3 d.Street emp with
 | false=>rfl
 | true=>
  rw [(Ky _ _).1 hc] at hb;exact absurd hb (by decide +kernel)
theorem Zne {s:Sta} {a:Int} {e:Event} (h:Qk s a e=0) (hk:e.Kind=9):∃ st,LinP s (ZP s a e) e [e.Id] e.Lst.l st∧e.Lst.l≠[]:=by
 obtain ⟨h1,h2,h3,h4⟩:=ZbV h;obtain ⟨p1,_,he⟩:=ZbX h1;have hp:=((Zdb s).1 p1).1;have hw:stepW (wk0 s a e)=Kb (wk0 s a e):=by unfold stepW;rw [show (wk0 s a e).e.Kind=9 from hk];rfl
 have hE:Q1 (wk0 s a e)=Ka (wk0 s a e):=by unfold Q1;rw [show (wk0 s a e).e.Kind=9 from hk];rfl
 rw [hE] at h2;rw [h4,hw];have ws:(wk0 s a e).s=s:=rfl;have we:(wk0 s a e).e=e:=rfl;have hn:(ZD e.Lst.l.length 2 8&&(Xi e.Lst.l [e.Id]&&Vk e.Lst.l false))=true:=by have:=ZcV he;rw [ZcW hk] at this;exact this
 rw [ZnG] at hn;have hL:e.Lst.l≠[]:=by
  intro hc;have:=hn.1;rw [hc] at this;exact absurd this (by decide)
 unfold Ka at h2;rw [ws,we] at h2;cases c1:WO (wk0 s a e) e.Lst.l with
 | false=>rw [c1] at h2;cases h2
 | true=>
 cases c2:decide (Zn s e.Id < 0) with
 | true=>rw [c1,c2] at h2;cases h2
 | false=>
 cases c3:QN s (Zn s e.Id) != -1 with
 | true=>rw [c1,c2,c3] at h2;cases h2
 | false=>
 cases c4:Z3 (Vu s (Zn s e.Id)) emp with
 | false=>rw [c1,c2,c3,c4] at h2;cases h2
 | true=>
 obtain ⟨k,d,hj,hd,hdid⟩:=ZcU (f:=fun d:Door=>d.Id) c2
 have hj':Zn s e.Id=(k:Int):=hj;have hl:d.Ended=-1:=by
  rw [hj'] at c3;have:QN s (k:Int)=d.Ended:=by simp [QN,hd]
  rw [this] at c3;exact Zah c3
 have hve:Z3 d.Veil emp=true:=by
  rw [hj'] at c4;have:Vu s (k:Int)=d.Veil:=by simp [Vu,hd]
  rw [this] at c4;exact c4
 have hkn:((k:Nat):Int).toNat=k:=by omega
 have ht:Kb (wk0 s a e)=Yg (Y5 (wk0 s a e) d e.Lst.l) ([e.Id].map (fun id=>Zn s id)) ⟨false,e.Lst.l.map (·.Id)⟩:=by
  unfold Kb;rw [ws,we,hj',hkn,hd];show _=Qf _ (Zn s e.Id).toNat _
  rw [hj',hkn]
 rw [ht];refine ⟨d.Street,?_,hL⟩;refine Zn8 (w:=Y5 (wk0 s a e) d e.Lst.l) (N:=e.Lst.l.map (fun x=>Xl (wk0 s a e) (Hr d x))) hp rfl rfl (ZnK _) hL (fun i x hx=>?_) (fun id hid=>?_) ?_ (Zn9 (hp.dr k d hd) hve)
 ·exact ⟨Xl (wk0 s a e) (Hr d x),by rw [Zoh,hx];rfl,rfl,rfl,rfl,rfl,rfl⟩
 ·rw [ZoH] at hid;subst hid;exact ⟨k,d,hj',hd,hdid,hl,rfl⟩
 ·show [Zn s e.Id].Nodup
  simp
theorem Znf {s:Sta} {a:Int} {e:Event} (h:Qk s a e=0) (hk:e.Kind=10):∃ st,LinP s (ZP s a e) e e.Ids.l [⟨e.Id,e.Number,e.Point⟩] st:=by
 obtain ⟨h1,h2,h3,h4⟩:=ZbV h;obtain ⟨p1,_,he⟩:=ZbX h1;have hp:=((Zdb s).1 p1).1;have hw:stepW (wk0 s a e)=Kd (wk0 s a e):=by unfold stepW;rw [show (wk0 s a e).e.Kind=10 from hk];rfl
 have hE:Q1 (wk0 s a e)=Kc (wk0 s a e):=by unfold Q1;rw [show (wk0 s a e).e.Kind=10 from hk];rfl
 rw [hE] at h2;rw [h4,hw];have ws:(wk0 s a e).s=s:=rfl;have we:(wk0 s a e).e=e:=rfl;have hn:(ZD e.Ids.l.length 2 8&&(Qv (e.Id::e.Ids.l)&&(YO e.Number&&gOn e.Point)))=true:=by have:=ZcV he;rw [ZcW hk] at this;exact this
 simp only [ZnG] at hn;obtain ⟨hn1,hn2,hn3,hn4⟩:=hn;rw [Zdg,Zoa] at hn2;unfold Kc at h2;rw [ws,we] at h2;cases c1:twB (wk0 s a e) e.Id with
 | true=>rw [c1] at h2;cases h2
 | false=>
 cases c2:(Zf (wk0 s a e)).any (fun x=>-1==x) with
 | true=>rw [c1,c2] at h2;cases h2
 | false=>
 rw [c1,c2,cond_false,cond_false,QE] at h2;cases c3:(Zf (wk0 s a e)).all (fun k=>JG s (XP s ((Zf (wk0 s a e)).headD 0)) k) with
 | false=>rw [c3] at h2;cases h2
 | true=>
 have hat:∀ id∈e.Ids.l,∃ (j:Nat) (x:Door),Zn s id=(j:Int)∧s.Doors[j]? = some x∧x.Id=id∧x.Ended=-1∧Z3 x.Veil emp=true∧x.Street=XP s ((Zf (wk0 s a e)).headD 0):=by
  intro id hid;have hkm:Zn s id∈Zf (wk0 s a e):=Zon.2 ⟨id,hid,rfl⟩;have hne:Zn s id≠-1:=by
   intro hc;have:=Zox.1 c2 _ hkm;rw [hc] at this;exact this rfl
  have hf:decide (Zn s id < 0)=false:=by
   cases hc:decide (Zn s id < 0) with
   | false=>rfl
   | true=>exact absurd (Ze7 (f:=fun d:Door=>d.Id) hc) hne
  obtain ⟨j,x,g1,g2,g3⟩:=ZcU (f:=fun d:Door=>d.Id) hf
  have g1':Zn s id=(j:Int):=g1;have ho:=ZnS.1 c3 _ hkm;rw [g1'] at ho;unfold JG at ho;have d1:QN s (j:Int)=x.Ended:=by simp [QN,g2]
  have d2:Vu s (j:Int)=x.Veil:=by simp [Vu,g2]
  have d3:XP s (j:Int)=x.Street:=by simp [XP,g2]
  rw [d1,d2,d3] at ho;simp at ho;exact ⟨j,x,g1',g2,g3,ho.1.1,ho.1.2,(Ky _ _).1 (by simpa using ho.2)⟩
 have hnd:(e.Ids.l.map (fun id=>Zn s id)).Nodup:=by
  have key:∀ l:List Str,(∀ id∈l,id∈e.Ids.l)→l.Nodup→(l.map (fun id=>Zn s id)).Nodup:=by
   intro l;induction l with
   | nil=>intro _ _;exact List.nodup_nil
   | cons id r ih=>
    intro hm hnn;rw [Zoa] at hnn;rw [Zo0,Zoa];refine ⟨fun hc=>?_,ih (fun i hi=>hm i (ZoD _ hi)) hnn.2⟩
    obtain ⟨id2,hid2,hc2⟩:=Zon.1 hc;obtain ⟨j1,x1,g1,g2,g3,_⟩:=hat id (hm id (Zot ..));obtain ⟨j2,x2,g4,g5,g6,_⟩:=hat id2 (hm id2 (ZoD _ hid2));have hj:j1=j2:=by omega
    subst hj;rw [g2] at g5;cases g5;exact hnn.1 ((g3.symm.trans g6)▸hid2)
  exact key e.Ids.l (fun id hid=>hid) hn2.1.2
 obtain ⟨id0,r,hids⟩:∃ id0 r,e.Ids.l=id0::r:=by
  cases hA:e.Ids.l with
  | cons k0 r=>exact ⟨k0,r,rfl⟩
  | nil=>
   exfalso;rw [hA] at hn1;exact absurd hn1 (by decide)
 obtain ⟨j0,d,hj0,hd,hdid,hl,hve,hst⟩:=hat id0 (by rw [hids];exact Zot ..)
 have hats:Zf (wk0 s a e)=e.Ids.l.map (fun id=>Zn s id):=rfl
 have hhd:((Zf (wk0 s a e)).headD 0).toNat=j0:=by
  rw [hats,hids];show (Zn s id0).toNat=j0
  omega
 have ht:Kd (wk0 s a e)=Yg (Qw (wk0 s a e) (WP (wk0 s a e) d)) (e.Ids.l.map (fun id=>Zn s id)) ⟨false,[(⟨e.Id,e.Number,e.Point⟩:Ent)].map (·.Id)⟩:=by
  unfold Kd;rw [hhd,ws,hd];rfl
 rw [ht];refine ⟨d.Street,?_⟩;refine Zn8 (w:=Qw (wk0 s a e) (WP (wk0 s a e) d)) (N:=[Xl (wk0 s a e) (WP (wk0 s a e) d)]) hp rfl rfl rfl (fun hc=>by cases hc) (fun i x hx=>?_) (fun id hid=>?_) hnd (Zn9 (hp.dr j0 d hd) hve)
 ·cases i with
  | zero=>
   cases hx;exact ⟨_,rfl,rfl,rfl,rfl,rfl,rfl⟩
  | succ i=>cases hx
 ·obtain ⟨j,x,g1,g2,g3,g4,g5,g6⟩:=hat id hid;exact ⟨j,x,g1,g2,g3,g4,g6.trans hst.symm⟩
end Go.AM
namespace Go.AM
open Go
theorem Zad (x:Str):Z3 x x=true:=by unfold Z3;exact beq_self_eq_true _
theorem ZaX (l:List Str):HK l l=true:=by
 unfold HK;rw [beq_self_eq_true,ZnW];have:∀ (m:List Str) (i:Nat),(∀ j x,m[j]? = some x→l[i+j]? = some x)→Zu (fun i x=>match l[i]? with | some y=>Z3 x y | none=>false) i m=true:=by
  intro m;induction m with
  | nil=>intro i h;rfl
  | cons x r ih=>
   intro i h;have h0:=h 0 x rfl;rw [Nat.add_zero] at h0;unfold Zu;rw [h0];simp only [Zad,ZnW];exact ih (i+1) (fun j y hy=>by rw [Zom,Nat.add_comm 1 j];exact h (j+1) y hy)
 exact this l 0 (fun j x h=>by rw [Zo4];exact h)
theorem ZaY (x:Door) (h:x.After.l.length≤1000):pfn rE 39 [x.enc,x.enc]=some (.bool true):=by
 rw [Z4M x x h];unfold HL FU QL QK;simp only [Zad,ZaX,beq_self_eq_true,bne_self_eq_false,Zo9,Bool.or_false,Zow,ZnZ]
end Go.AM
namespace Go.AM
open Go
theorem Zna (ex:Bool) (l:List Str) (hl:l.length≤1000) (id:Str):pfn rE 42 [.isl false ex 1 (l.map encS),.str id]=some (.bool (hasB l id)):=by
 have L:=QT (E:=rE) (live:=[0,1,5]) (b:=c42L0b) (h:=[]) l (fun _ x=>!Z3 x id) (fun i=>[(0,.isl false ex 1 (l.map encS)),(1,.str id),(5,I i)]) 0 (fun fr=>get fr 4=.bot) (fun fr=>get fr 4=.bool true) (fun i=>rfl)
  (fun i x hx hP=>by
   have hg:=Z6 (f:=encS) hx;have hi:=Zh (Z7 hx);have hw:=Zx (n:=i) (by have:=Z7 hx;omega)
   have hP':Z3 x id=false:=by simpa using hP
   refine ⟨_,by simp only [go_sem,qy,qq,reduceIte,c42L0b,hg,hi,hw,encS,hP'];rfl,?_⟩
   simp only [go_sem,qy,qq,reduceIte])
  (fun i x hx hP=>by
   have hg:=Z6 (f:=encS) hx;have hi:=Zh (Z7 hx);have hP':Z3 x id=true:=by simpa using hP
   refine ⟨_,by simp only [go_sem,qy,qq,reduceIte,c42L0b,hg,hi,encS,hP'];rfl,?_⟩
   simp only [go_sem,qy,qq,reduceIte])
  (⟨_,by simp only [go_sem,qy,qq,reduceIte,c42L0b,ZG];rfl,by simp only [go_sem,qy,qq,reduceIte]⟩)
 obtain ⟨fr',h1,h2,h3⟩:=L;have h1':Zg rE [0,1,5] c42L0b [(0,.isl false ex 1 (l.map encS)),(1,.str id),(5,.int .i64 0)] []=_:=h1;have hA:Zu (fun _ x=>!Z3 x id) 0 l = !hasB l id:=by
  rw [QE];unfold hasB;rw [List.all_eq_not_any_not];simp only [Bool.not_not]
 rw [Z5 (f:=42) rfl rfl];rw [hA] at h1' h2 h3;cases c:hasB l id with
 | false=>
  rw [c] at h1';simp only [go_sem,qy,qq,reduceIte,c42,c42L0,h1']
 | true=>
  rw [c] at h1';simp only [go_sem,qy,qq,reduceIte,c42,c42L0,h1',h3 (by rw [c];rfl),Zo9,ZnN]
theorem Zng (b0 b1 ea eb:Bool) (l:List Str) (hl:l.length≤1000):pfn rE 43 [.isl b0 ea 1 (l.map encS),.isl b1 eb 1 (l.map encS)]=some (.bool true):=by
 rw [Z5 (f:=43) rfl rfl];have L:=Y8 (E:=rE) (live:=[0,1,5]) (b:=c43L0b) l.length (fun i=>[(0,.isl b0 ea 1 (l.map encS)),(1,.isl b1 eb 1 (l.map encS)),(5,I i)]) (fun i=>[]) (fun i=>rfl)
  (fun i hi=>by
   obtain ⟨x,hx⟩:∃ x,l[i]? = some x:=⟨_,ZnJ hi⟩;have hg:=Z6 (f:=encS) hx;have hi':=Zh hi;have hwr:=Zx (n:=i) (by omega)
   refine ⟨[(0,.isl b0 ea 1 (l.map encS)),(1,.isl b1 eb 1 (l.map encS)),(4,.bot),(5,I (i+1:Nat))],?_,rfl⟩;simp only [go_sem,qy,qq,reduceIte,c43L0b,hg,hi',hwr,encS,Zad])
  (e:=.exit 0) (fr:=[(0,.isl b0 ea 1 (l.map encS)),(1,.isl b1 eb 1 (l.map encS)),(4,.bot),(5,I l.length)]) (h:=[]) (by simp only [go_sem,qy,qq,reduceIte,c43L0b,ZG]) (by simp)
 have hne:((l.length:Int) != (l.length:Int))=false:=by simp
 have L':Zg rE [0,1,5] c43L0b [(0,.isl b0 ea 1 (l.map encS)),(1,.isl b1 eb 1 (l.map encS)),(5,.int .i64 0)] []=_:=L;simp only [go_sem,qy,qq,reduceIte,c43,c43L0,L',hne]
abbrev lgH (t:Sta) (l:List Str):Hp:=[.row 7 [stA t],.row 1 (l.map encS)]
theorem Znb (s t:Sta) (e:Event) (exo exL:Bool) (old:List Str) (L:List Ent) (st:Str) (hs:s.Doors.length≤1000) (hL:L.length≤1000) (P:LinP s t e old L st):
 Zg rE [3,5,7,8,10,11,12,13] c10L0b [(3,stI s),(5,evI e),(7,.bool true),(8,.ptr 0 0 0 1),(10,.isl false exo 1 (old.map encS)),(11,.isl false exL 7 (L.map Ent.enc)),(12,.sl 1 0 0 0 false),(13,.int .i64 0)] (lgH t []) =
  some (.exit 0,[(3,stI s),(5,evI e),(6,.bot),(7,.bool true),(8,.ptr 0 0 0 1),(10,.isl false exo 1 (old.map encS)),(11,.isl false exL 7 (L.map Ent.enc)),(12,.sl 1 L.length 0 L.length false),(13,I L.length)],lgH t (L.map (·.Id))):=by
 have hbS:∀ (D:List Str) n,Zd n (D.map encS)=true:=fun D n=>ZN _ (Zw (fun t=>rfl) D)
 have hL2:=Y8 (E:=rE) (live:=[3,5,7,8,10,11,12,13]) (b:=c10L0b) L.length (fun i=>[(3,stI s),(5,evI e),(7,.bool true),(8,.ptr 0 0 0 1),(10,.isl false exo 1 (old.map encS)),(11,.isl false exL 7 (L.map Ent.enc)),(12,.sl 1 i 0 i false),(13,I i)])
  (fun i=>lgH t ((L.take i).map (·.Id))) (fun i=>rfl)
  (fun i hi=>by
   obtain ⟨x,hx⟩:∃ x,L[i]? = some x:=⟨_,ZnJ hi⟩;obtain ⟨d,d1,d2,d3,d4,d5,d6⟩:=P.new i x hx;have hst:=P.st0;have hlen:(L.take i).length=i:=by rw [Zoz];omega
   have hg:=Z6 (f:=Ent.enc) hx;have gd:=Z6 (f:=Door.enc) d1;have hi':=Zh hi;have hwr:=Zx (n:=i) (by omega)
   have hw2:IntKind.i64.wrap ((s.Doors.length:Int)+(i:Int))=((s.Doors.length+i:Nat):Int):=by
    rw [←Int.natCast_add];exact Za4 (by omega)
   have htk:(L.take (i+1)).map (·.Id)=(L.take i).map (·.Id)++[x.Id]:=by
    rw [Zoy,hx,ZnQ];rfl
   have ha:=fun (q r:AObj)=>XC (h:=[q,.row 1 (((L.take i).map (·.Id)).map encS),r]) (fz:=false) (b:=1) (g:=i) (sz:=1) (bytes:=16) (es:=((L.take i).map (·.Id)).map encS) (bw:=false) (ex:=false) (ys:=[.str x.Id]) (by show (bif (((L.take i).map (·.Id)).map encS).length==i then _ else none)=_;rw [ZnK,ZnK,hlen,beq_self_eq_true];rfl) rfl rfl (by decide) (by decide) (by simp;omega)
   have hma:((L.take i).map (·.Id)++[x.Id]).map encS=((L.take i).map (·.Id)).map encS++[.str x.Id]:=by rw [ZnQ];rfl
   rw [htk];simp only [lgH];rw [hma];have hb2:∀ n,Zd n (((L.take i).map (·.Id)).map encS++[.str x.Id])=true:=fun n=>by rw [←hma];exact hbS _ n
   have hnst:(Z3 d.Street emp)=false:=by rw [d6];exact hst
   refine ⟨[(3,stI s),(5,evI e),(6,.bot),(7,.bool true),(8,.ptr 0 0 0 1),(10,.isl false exo 1 (old.map encS)),(11,.isl false exL 7 (L.map Ent.enc)),(12,.sl 1 (i+1) 0 (i+1) false),(13,I (i+1:Nat))],?_,rfl⟩;generalize ((L.take i).map (·.Id)).map encS=es at *;have hm1:((-1:Int) != -1)=false:=rfl;have hne:∀ z:Int,(z != z)=false:=fun z=>by simp
   simp only [go_sem,qy,qq,qv,qk,reduceIte,c10L0b,hg,gd,hi',hwr,hw2,ha,hb2,hbS,hnst,Door.enc,Ent.enc,NL.enc,d2,d3,d4,d5,Zad,hm1,hne,beq_self_eq_true,Zo9])
  (e:=.exit 0) (fr:=[(3,stI s),(5,evI e),(6,.bot),(7,.bool true),(8,.ptr 0 0 0 1),(10,.isl false exo 1 (old.map encS)),(11,.isl false exL 7 (L.map Ent.enc)),(12,.sl 1 L.length 0 L.length false),(13,I L.length)]) (h:=lgH t (L.map (·.Id))) (by
   rw [Zo1];simp only [go_sem,qy,qq,qv,qk,reduceIte,c10L0b,ZG,hbS]) (by simp)
 exact hL2
end Go.AM
namespace Go.AM
open Go
theorem Znc (s t:Sta) (e:Event) (exo:Bool) (old:List Str) (L:List Ent) (st:Str) (m:Nat) (hm:m=L.length) (hs:s.Doors.length≤1000) (hsA:∀ x∈s.Doors,x.After.l.length≤1000) (hL:L.length≤1000) (hL0:0 < L.length) (ho:old.length≤1000) (P:LinP s t e old L st):
 Zg rE [3,5,7,8,10,12,15] c10L1b [(3,stI s),(5,evI e),(7,.bool true),(8,.ptr 0 0 0 1),(10,.isl false exo 1 (old.map encS)),(12,.sl 1 m 0 m false),(15,I (0:Nat))] (lgH t (L.map (·.Id))) =
  some (.exit 2,[(3,stI s),(5,evI e),(6,.bot),(7,.bool true),(8,.ptr 0 0 0 1),(10,.isl false exo 1 (old.map encS)),(12,.sl 1 m 0 m false),(15,I s.Doors.length)],lgH t (L.map (·.Id))):=by
 have hbS:∀ (D:List Str) n,Zd n (D.map encS)=true:=fun D n=>ZN _ (Zw (fun t=>rfl) D)
 have hcS:Z4 ((L.map (·.Id)).map encS)=true:=Zw (fun t=>rfl) _
 have htk:List.take m ((L.map (·.Id)).map encS)=(L.map (·.Id)).map encS:=ZnT (by simp [hm])
 have hlm:((L.map (·.Id)).map encS).length=m:=by simp [hm]
 have htx:=Zng false true false false (L.map (·.Id)) (by simpa using hL)
 obtain ⟨y,hy⟩:∃ y,L[0]? = some y:=⟨_,ZnJ hL0⟩;obtain ⟨d0,e1,_,_,_,_,e6⟩:=P.new 0 y hy;rw [Nat.add_zero] at e1;have gd0:=Z6 (f:=Door.enc) e1;have hL2:=Y8 (E:=rE) (live:=[3,5,7,8,10,12,15]) (b:=c10L1b) s.Doors.length (fun i=>[(3,stI s),(5,evI e),(7,.bool true),(8,.ptr 0 0 0 1),(10,.isl false exo 1 (old.map encS)),(12,.sl 1 m 0 m false),(15,I i)])
  (fun i=>lgH t (L.map (·.Id))) (fun i=>rfl)
  (fun i hi=>by
   obtain ⟨x,hx⟩:∃ x,s.Doors[i]? = some x:=⟨_,ZnJ hi⟩;have hg:=Z6 (f:=Door.enc) hx;have hi':=Zh hi;have hwr:=Zx (n:=i) (by omega)
   have hh:=Zna exo old ho x.Id;refine ⟨[(3,stI s),(5,evI e),(6,.bot),(7,.bool true),(8,.ptr 0 0 0 1),(10,.isl false exo 1 (old.map encS)),(12,.sl 1 m 0 m false),(15,I (i+1:Nat))],?_,rfl⟩;rcases P.d i x hx with ⟨d1,d2⟩ | ⟨d1,d2,d3,d4⟩
   ·have gd:=Z6 (f:=Door.enc) d2;have hS:=ZaY x (hsA x (ZnY hx));simp only [Door.enc,NL.enc] at hS;simp only [go_sem,qy,qq,qv,qk,reduceIte,c10L1b,hg,gd,hi',hwr,hbS,hh,d1,hS,Door.enc,NL.enc,Zow]
   ·have gd:=Z6 (f:=Door.enc) d3;simp only [UF] at gd;have hm1:((-1:Int) != -1)=false:=rfl;have hne:∀ z:Int,(z != z)=false:=fun z=>by simp
    simp only [go_sem,qy,qq,qv,qk,reduceIte,c10L1b,hg,gd,gd0,e6,hi',hwr,hbS,hcS,htk,hlm,htx,hh,d1,d2,d4,hm1,hne,Door.enc,NL.enc,Zad,Zo9,Zou,beq_self_eq_true])
  (e:=.exit 2) (fr:=[(3,stI s),(5,evI e),(6,.bot),(7,.bool true),(8,.ptr 0 0 0 1),(10,.isl false exo 1 (old.map encS)),(12,.sl 1 m 0 m false),(15,I s.Doors.length)]) (h:=lgH t (L.map (·.Id))) (by simp only [go_sem,qy,qq,qv,qk,reduceIte,c10L1b,ZG,hbS]) (by simp)
 exact hL2
theorem Znd (s t:Sta) (e:Event) (exo:Bool) (old:List Str) (L:List Ent) (st:Str) (m:Nat) (hm:m=L.length) (hs:s.Units.length≤1000) (hL:L.length≤1000) (hL0:0 < L.length) (ho:old.length≤1000) (P:LinP s t e old L st):
 Zg rE [3,7,8,10,12,18] c10L2b [(3,stI s),(7,.bool true),(8,.ptr 0 0 0 1),(10,.isl false exo 1 (old.map encS)),(12,.sl 1 m 0 m false),(18,I (0:Nat))] (lgH t (L.map (·.Id))) =
  some (.exit 4,[(3,stI s),(6,.bot),(7,.bool true),(8,.ptr 0 0 0 1),(10,.isl false exo 1 (old.map encS)),(12,.sl 1 m 0 m false),(18,I t.Units.length)],lgH t (L.map (·.Id))):=by
 have hbS:∀ (D:List Str) n,Zd n (D.map encS)=true:=fun D n=>ZN _ (Zw (fun t=>rfl) D)
 have hlm:((L.map (·.Id)).map encS).length=m:=by simp [hm]
 obtain ⟨y,hy⟩:∃ y,L[0]? = some y:=⟨_,ZnJ hL0⟩;have hhd:(L.map (·.Id)).headD emp=y.Id:=by
  cases L with
  | nil=>cases hy
  | cons z r=>cases hy;rfl
 have g0:((L.map (·.Id)).map encS)[0]? = some (.str y.Id):=by rw [Zoh,Zoh,hy];rfl
 have hi2:=fun es=>VT 1 m 0 1 (0:Int) m es ⟨by omega,by omega⟩
 have hlu:=P.lu;have hlq:(L.length==m)=true:=by rw [hm];exact beq_self_eq_true _
 have hL2:=Y8 (E:=rE) (live:=[3,7,8,10,12,18]) (b:=c10L2b) t.Units.length (fun i=>[(3,stI s),(7,.bool true),(8,.ptr 0 0 0 1),(10,.isl false exo 1 (old.map encS)),(12,.sl 1 m 0 m false),(18,I i)])
  (fun i=>lgH t (L.map (·.Id))) (fun i=>rfl)
  (fun i hi=>by
   obtain ⟨x,hx⟩:∃ x,s.Units[i]? = some x:=⟨_,ZnJ (by omega)⟩
   have hg:=Z6 (f:=Unit'.enc) hx;have hi':=Zh hi;have hwr:=Zx (n:=i) (by omega)
   have hh:=Zna exo old ho x.Door;have hu:=P.u i x hx;rw [hhd] at hu;refine ⟨[(3,stI s),(6,.bot),(7,.bool true),(8,.ptr 0 0 0 1),(10,.isl false exo 1 (old.map encS)),(12,.sl 1 m 0 m false),(18,I (i+1:Nat))],?_,rfl⟩;have hne:∀ z:Int,(z != z)=false:=fun z=>by simp
   have z0:((0:Int)).toNat=0:=rfl;cases c1:x.Ended==-1 with
   | false=>
    rw [c1,Zoq,cond_false] at hu;have gd:=Z6 (f:=Unit'.enc) hu;simp only [go_sem,qy,qq,qv,qk,reduceIte,c10L2b,hg,gd,hi',hwr,hbS,hh,c1,Unit'.enc,Zad,hne,beq_self_eq_true,Zo9]
   | true=>
   cases c2:hasB old x.Door with
   | false=>
    rw [c2,Zov,cond_false] at hu;have gd:=Z6 (f:=Unit'.enc) hu;simp only [go_sem,qy,qq,qv,qk,reduceIte,c10L2b,hg,gd,hi',hwr,hbS,hh,c1,c2,Unit'.enc,Zad,hne,beq_self_eq_true,Zo9]
   | true=>
    rw [c1,c2,ZnZ,cond_true] at hu;have gd:=Z6 (f:=Unit'.enc) hu;simp only [Unit'.enc] at gd;simp only [go_sem,qy,qq,qv,qk,reduceIte,c10L2b,hg,gd,hi',hi2,z0,g0,hlq,Zo4,hwr,hbS,hh,c1,c2,Unit'.enc,Zad,hne,beq_self_eq_true,Zo9])
  (e:=.exit 4) (fr:=[(3,stI s),(6,.bot),(7,.bool true),(8,.ptr 0 0 0 1),(10,.isl false exo 1 (old.map encS)),(12,.sl 1 m 0 m false),(18,I t.Units.length)]) (h:=lgH t (L.map (·.Id))) (by simp only [go_sem,qy,qq,qv,qk,reduceIte,c10L2b,ZG,hbS]) (by simp)
 exact hL2
end Go.AM
namespace Go.AM
open Go
def t10:ACode:=.seq s10p3 (.seq s10p4 (.seq s10p5 (.seq s10p6 (.seq s10p7 (.seq s10p8 (.seq s10p9 (.seq s10p10 (.seq s10p11 (.seq s10p12 .ret)))))))))
theorem c10_eq':c10=.seq s10p0 (.seq s10p1 (.seq s10p2 t10)):=rfl
theorem Znh (s:Sta) (hs:StF s) (a:Int) (e:Event) (he:EvS e) (hk:e.Kind=9∨e.Kind=10):
 ∃ fr' h',Zb rE t10 [(1,I a),(3,stI s),(5,evI e),(7,.bool true),(35,.bool false)] []=some (.ret,fr',h')∧get fr' 6=.bool true:=by
 have hA:=JJ s hs a e he;cases c1:Qk s a e==0 with
 | false=>
  have n1:(Qk s a e != 0)=true:=by simpa using c1
  generalize Qk s a e=er at *;generalize ZP s a e=t at *;simp only [evA] at hA;refine ⟨_,_,by simp only [go_sem,qy,qq,qv,qk,reduceIte,t10,s10p3,s10p4,hA,n1];rfl,?_⟩
  simp only [go_sem,qy,qq,qv,qk,reduceIte]
 | true=>
 have e0:Qk s a e=0:=by simpa using c1
 have n1:((0:Int) != 0)=false:=rfl;have hD:=hs.e.sizes.doors;have hU:=hs.e.sizes.units;have hA0:=hA;rw [e0] at hA;have hLs:=he.lst;have hIs:=he.ids;have hsA:∀ x∈s.Doors,x.After.l.length≤1000:=fun x hx=>by have:=(hs.e.doors x hx).after;omega
 have hbS:∀ (D:List Str) n,Zd n (D.map encS)=true:=fun D n=>ZN _ (Zw (fun t=>rfl) D)
 have z0:((0:Nat):Int)=0:=rfl;have hne:∀ z:Int,(z != z)=false:=fun z=>by simp
 rcases hk with hk | hk
 ·obtain ⟨st,P,hL0⟩:=Zne e0 hk;generalize ZP s a e=t at *;have hLp:0 < e.Lst.l.length:=List.length_pos_iff.2 hL0;have l0:=Znb s t e false e.Lst.ex [e.Id] e.Lst.l st hD (by omega) P
  have l1:=Znc s t e false [e.Id] e.Lst.l st e.Lst.l.length rfl hD hsA (by omega) hLp (by simp) P
  have l2:=Znd s t e false [e.Id] e.Lst.l st e.Lst.l.length rfl hU (by omega) hLp (by simp) P
  have ld:=P.ld;have lu:=P.lu;have hw:IntKind.i64.wrap ((s.Doors.length:Int)+(e.Lst.l.length:Int))=((s.Doors.length+e.Lst.l.length:Nat):Int):=by
   rw [←Int.natCast_add];exact Za4 (by omega)
  simp only [evA] at hA;have h910:(e.Kind==10)=false:=by rw [hk];rfl
  have key:∃ v,Zb rE t10 [(1,I a),(3,stI s),(5,evI e),(7,.bool true),(35,.bool false)] []=some (.ret,[(6,.bool true),(243,.bool true),(6,.bot),(7,.bool true)],v):=by
   simp only [lgH,Zo0,ZnL,encS,z0,stA] at l0 l1 l2;exact ⟨_,by
    simp only [go_sem,qy,qq,qv,qk,reduceIte,t10,s10p3,s10p4,s10p5,s10p6,s10p7,s10p8,s10p9,s10p10,s10p11,s10p12,c10L0,c10L1,c10L2,hA,n1,hne,h910,ld,lu,hw,l0,l1,l2,hbS,encS,ZnL];rfl⟩
  obtain ⟨v,hv⟩:=key;exact ⟨_,v,hv,rfl⟩
 ·obtain ⟨st,P⟩:=Znf e0 hk;generalize ZP s a e=t at *;have l0:=Znb s t e e.Ids.ex false e.Ids.l [⟨e.Id,e.Number,e.Point⟩] st hD (by simp) P
  have l1:=Znc s t e e.Ids.ex e.Ids.l [⟨e.Id,e.Number,e.Point⟩] st 1 rfl hD hsA (by simp) (by simp) (by omega) P
  have l2:=Znd s t e e.Ids.ex e.Ids.l [⟨e.Id,e.Number,e.Point⟩] st 1 rfl hU (by simp) (by simp) (by omega) P
  have ld:=P.ld;have lu:=P.lu;have hw:IntKind.i64.wrap ((s.Doors.length:Int)+((1:Nat):Int))=((s.Doors.length+1:Nat):Int):=by
   rw [←Int.natCast_add];exact Za4 (by omega)
  simp only [Zok] at ld;simp only [evA] at hA;have h910:(e.Kind==10)=true:=by rw [hk];rfl
  have key:∃ v,Zb rE t10 [(1,I a),(3,stI s),(5,evI e),(7,.bool true),(35,.bool false)] []=some (.ret,[(6,.bool true),(243,.bool true),(6,.bot),(7,.bool true)],v):=by
   simp only [lgH,Zo0,ZnL,encS,z0,stA,Ent.enc,Zok] at l0 l1 l2;exact ⟨_,by
    simp only [go_sem,qy,qq,qv,qk,reduceIte,t10,s10p3,s10p4,s10p5,s10p6,s10p7,s10p8,s10p9,s10p10,s10p11,s10p12,c10L0,c10L1,c10L2,hA,n1,hne,h910,ld,lu,hw,l0,l1,l2,hbS,encS,ZnL,Zok];rfl⟩
  obtain ⟨v,hv⟩:=key;exact ⟨_,v,hv,rfl⟩
theorem Zni (s:Sta) (a:Int) (e:Event):pfn rE 10 [stA s,I a,evA e]=some (.bool true):=by
 have hH:=Z4U;have hF:=Z4G s e;rw [Z5 (f:=10) (c:=c10) rfl rfl,c10_eq'];simp only [evA] at hF;cases c:YQ s&&Xn e with
 | false=>
  rw [c] at hF;simp only [go_sem,qy,qq,qv,qk,reduceIte,s10p0,s10p1,s10p2,hH,hF]
 | true=>
 rw [c] at hF;rw [ZnG] at c;have hs:=Kl s c.1;have he:=JL _ c.2;have hR:=Znh s hs a e he;cases k1:e.Kind != 9 with
 | true=>
  cases k2:e.Kind != 10 with
  | true=>simp only [go_sem,qy,qq,qv,qk,reduceIte,s10p0,s10p1,s10p2,hH,hF,k1,k2]
  | false=>
   obtain ⟨fr',h',r1,r2⟩:=hR (Or.inr (by simpa using k2))
   simp only [go_sem,qy,qq,qv,qk,reduceIte,s10p0,s10p1,s10p2,hH,hF,k1,k2,r1,r2]
 | false=>
  obtain ⟨fr',h',r1,r2⟩:=hR (Or.inl (by simpa using k1))
  simp only [go_sem,qy,qq,qv,qk,reduceIte,s10p0,s10p1,s10p2,hH,hF,k1,r1,r2]
end Go.AM
