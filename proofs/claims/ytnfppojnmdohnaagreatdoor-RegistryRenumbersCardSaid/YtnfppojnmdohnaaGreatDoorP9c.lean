/- What the functions of the program compute, part 3, for RegistryRenumbers. No condition. -/
import Derived.Test.YtnfppojnmdohnaaGreatDoorP9b
import Derived.Test.YtnfppojnmdohnaaGreatDoorS1
set_option linter.unusedVariables false
set_option linter.unusedSimpArgs false
open Nat (reduceAdd reduceSub reduceMul reduceLT reduceLeDiff)
namespace Go.AM
open Go
def ZcX:List (List UInt8)→List (List UInt8)
 | []=>[]
 | a::r=>match ZcX r with
  | []=>[a]
  | b::s=>if a=b then b::s else a::b::s
theorem ZdC:∀ l:List (List UInt8),Ys (l.map Qd)=(ZcX l).map Qd
 | []=>rfl
 | a::r=>by
  rw [Zjp];unfold Ys ZcX;rw [ZdC r];cases ZcX r with
  | nil=>rfl
  | cons b s=>
   have e:sameKey (Qd a) (Qd b)=decide (a=b):=by
    show Z3 _ _=_
    unfold Z3;have e1:(⟨a.toArray⟩:ByteArray).data.toList=a:=by simp
    have e2:(⟨b.toArray⟩:ByteArray).data.toList=b:=by simp
    rw [e1,e2];by_cases h:a=b
    ·subst h;simp
    ·rw [decide_eq_false h];simpa using h
   show (bif sameKey (Qd a) (Qd b) then _ else _)=_
   rw [e];by_cases h:a=b
   ·simp [h]
   ·simp [h]
theorem Ze5 (a:List UInt8) (r:List (List UInt8)):∃ t,ZcX (a::r)=a::t∧t.length≤r.length:=by
 induction r generalizing a with
 | nil=>exact ⟨[],rfl,Zjr _⟩
 | cons b s ih=>
  obtain ⟨t,h1,h2⟩:=ih b;unfold ZcX;rw [h1];by_cases h:a=b
  ·subst h;exact ⟨t,by simp,by simp;omega⟩
  ·exact ⟨b::t,by simp [h],by simp;omega⟩
def Adj:List (List UInt8)→Prop
 | []=>True
 | [_]=>True
 | a::b::r=>a≠b∧Adj (b::r)
theorem ZdD:∀ l:List (List UInt8),(ZcX l).length=l.length↔Adj l
 | []=>⟨fun _=>trivial,fun _=>rfl⟩
 | [a]=>⟨fun _=>trivial,fun _=>rfl⟩
 | a::b::r=>by
  have ih:=ZdD (b::r);obtain ⟨t,h1,h2⟩:=Ze5 b r;rw [h1] at ih;unfold Adj;rw [←ih];unfold ZcX;rw [h1];by_cases h:a=b
  ·subst h;simp;omega
  ·simp [h]
theorem ZdE:∀ l:List (List UInt8),l.Pairwise (fun a b=>leB a b=true)→Adj l→l.Nodup
 | [],_,_=>.nil
 | [a],_,_=>by simp
 | a::b::r,hs,h=>by
  unfold Adj at h;rw [List.pairwise_cons] at hs;have ih:=ZdE (b::r) hs.2 h.2;rw [ZjM];refine ⟨fun hm=>?_,ih⟩
  rcases Zk2.1 hm with e | hm
  ·exact h.1 e
  ·have hb:=(List.pairwise_cons.1 hs.2).1 a hm;exact h.1 (ET _ _ (hs.1 b (Zk3 ..)) hb)
theorem ZdF:∀ l:List (List UInt8),l.Nodup→Adj l
 | [],_=>trivial
 | [a],_=>trivial
 | a::b::r,h=>by
  rw [ZjM] at h;exact ⟨fun e=>h.1 (by rw [e];exact Zk3 ..),ZdF (b::r) h.2⟩
theorem bytes_inj {a b:Str} (h:a.data.toList=b.data.toList):a=b:=by
 obtain ⟨⟨a⟩⟩:=a;obtain ⟨⟨b⟩⟩:=b;have:a=b:=h;rw [this]
theorem ZdG {α β:Type} {f:α→β} (hf:∀ a b,f a=f b→a=b):∀ {l:List α},(l.map f).Nodup↔l.Nodup
 | []=>by simp
 | a::r=>by
  rw [Zjp,ZjM,ZjM,ZdG hf];refine and_congr_left fun _=>not_congr ⟨fun h=>?_,fun h=>List.mem_map_of_mem h⟩
  obtain ⟨b,hb,e⟩:=ZjN.1 h;rw [←hf _ _ e];exact hb
theorem Ze6 (l:List Str):l.map encS=(l.map (fun x:Str=>x.data.toList)).map Qd:=by
 rw [List.map_map];apply List.map_congr_left;intro x _;obtain ⟨⟨x⟩⟩:=x;rfl
theorem Zdk (l:List Str):Jq l=true↔l.Nodup:=by
 have e:(Ys (Yk (l.map encS))).length=(ZcX (WD (l.map (fun x:Str=>x.data.toList)))).length:=by
  rw [Ze6,D4,ZdC,Zj6]
 have hl:(WD (l.map (fun x:Str=>x.data.toList))).length=l.length:=by
  rw [(RS _).length_eq,Zj6]
 unfold Jq;rw [beq_iff_eq,e];rw [show ((ZcX (WD (l.map (fun x:Str=>x.data.toList)))).length:Int)=(l.length:Int)↔(ZcX (WD (l.map (fun x:Str=>x.data.toList)))).length=(WD (l.map (fun x:Str=>x.data.toList))).length from by rw [hl];omega]
 rw [ZdD];have h1:Adj (WD (l.map (fun x:Str=>x.data.toList)))↔(WD (l.map (fun x:Str=>x.data.toList))).Nodup:=⟨ZdE _ (D8 _),ZdF _⟩
 rw [h1,(RS _).nodup_iff,ZdG (fun a b h=>bytes_inj h)]
end Go.AM
namespace Go.AM
open Go
theorem Zbz {α:Type} (l:List α) (k:Nat) (f:α→α) (i:Nat):(ZK l k f)[i]? = if i=k then (l[k]?).map f else l[i]?:=by
 unfold ZK;cases h:l[k]? with
 | none=>
  by_cases hi:i=k
  ·subst hi;rw [if_pos rfl,h];rfl
  ·rw [if_neg hi]
 | some x=>
  by_cases hi:i=k
  ·subst hi;rw [if_pos rfl,List.getElem?_set_self (ZjC.1 h).1];rfl
  ·rw [if_neg hi,List.getElem?_set_ne (Ne.symm hi)]
end Go.AM
namespace Go.AM
open Go
theorem ZbV {s:Sta} {a:Int} {e:Event} (h:Qk s a e=0):okB s a e=true∧Q1 (wk0 s a e)=0∧Wh (stepW (wk0 s a e)).s.Doors=true∧ZP s a e=(stepW (wk0 s a e)).s:=by
 unfold Qk at h;unfold ZP;cases c1:okB s a e with
 | false=>rw [c1] at h;cases h
 | true=>
 cases c2:Q1 (wk0 s a e)==0 with
 | false=>
  rw [c1,c2,cond_true,cond_false] at h;rw [h] at c2;cases c2
 | true=>
 cases c3:Wh (stepW (wk0 s a e)).s.Doors with
 | false=>rw [c1,c2,c3] at h;cases h
 | true=>exact ⟨rfl,by simpa using c2,rfl,rfl⟩
theorem ZbX {s:Sta} {a:Int} {e:Event} (h:okB s a e=true):Jx s=true∧QM a 0 0=true∧Q9 e=true:=by
 unfold okB at h;simp only [Zj2] at h;exact h
end Go.AM
namespace Go.AM
open Go
structure Prop' (s:Sta):Prop where
 rg:∀ x∈s.Regions,Vo x=true
 st:∀ x∈s.Streets,Vp x=true
 bu:∀ x∈s.Buildings,Vq x=true
 dr:∀ (i:Nat) d,s.Doors[i]? = some d→Vr s i d=true
 un:∀ x∈s.Units,Vs s x=true
 ids:(Qp s).Nodup
 pa:WK s=true
theorem Zda {α:Type} {P:Nat→α→Bool}:∀ {l:List α} {i:Nat},Zu P i l=true↔∀ (j:Nat) x,l[j]? = some x→P (i+j) x=true
 | [],i=>⟨fun _ j x h=>(by simp at h),fun _=>rfl⟩
 | y::r,i=>by
  unfold Zu;rw [Zj2,Zda (l:=r)];constructor
  ·rintro ⟨h1,h2⟩ j x hx;cases j with
   | zero=>cases hx;exact h1
   | succ j=>have:=h2 j x hx;rw [show i+(j+1)=i+1+j by omega];exact this
  ·intro h;exact ⟨h 0 y rfl,fun j x hx=>by have:=h (j+1) x hx;rw [show i+1+j=i+(j+1) by omega];exact this⟩
theorem Zdb (s:Sta):Jx s=true↔Prop' s∧Wh s.Doors=true:=by
 unfold Jx;simp only [Zj2];constructor
 ·rintro ⟨h1,h2,h3,h4,h5,h6,h7,h8⟩;exact ⟨⟨Zjf.1 h1,Zjf.1 h2,Zjf.1 h3,fun i d hd=>by have:=Zda.1 h4 i d hd;rwa [Zjo] at this,Zjf.1 h5,(Zdk _).1 h6,h8⟩,h7⟩
 ·rintro ⟨⟨h1,h2,h3,h4,h5,h6,h8⟩,h7⟩;exact ⟨Zjf.2 h1,Zjf.2 h2,Zjf.2 h3,Zda.2 (fun i d hd=>by rw [Zjo];exact h4 i d hd),Zjf.2 h5,(Zdk _).2 h6,h7,h8⟩
def look {α:Type} (f:α→Str) (l:List α) (id:Str):Int:=Zp (fun x=>Z3 (f x) id) l 0
theorem Ze7 {α:Type} {f:α→Str} {l:List α} {id:Str} (h:decide (look f l id < 0)=true):look f l id=-1:=by
 unfold look at h ⊢;rcases UA (fun x=>Z3 (f x) id) l 0 with ⟨h1,_⟩ | ⟨j,x,h1,_⟩
 ·exact h1
 ·have:=of_decide_eq_true h;omega
theorem ZcU {α:Type} {f:α→Str} {l:List α} {id:Str} (h:decide (look f l id < 0)=false):∃ (j:Nat) (x:α),look f l id=(j:Int)∧l[j]? = some x∧f x=id:=by
 unfold look at h ⊢;rcases UA (fun x=>Z3 (f x) id) l 0 with ⟨h1,_⟩ | ⟨j,x,h1,h2,h3⟩
 ·rw [h1] at h;cases h
 ·exact ⟨j,x,by omega,h2,by have:=List.find?_some h3;exact (Ky _ _).1 this⟩
theorem Ze8 {α:Type} {f:α→Str} {l:List α} {x:α} (h:x∈l):decide (look f l (f x) < 0)=false:=by
 unfold look;rcases UA (fun y=>Z3 (f y) (f x)) l 0 with ⟨_,h2⟩ | ⟨j,y,h1,_,_⟩
 ·exfalso;have:=List.find?_eq_none.1 h2 x h;exact this ((Ky _ _).2 rfl)
 ·exact decide_eq_false (by omega)
theorem Zi1 {α:Type} {f:α→Str} {l:List α} {j:Nat} {x:α} (hn:(l.map f).Nodup) (h:l[j]? = some x):look f l (f x)=(j:Int):=by
 obtain ⟨k,y,h1,h2,h3⟩:=ZcU (Ze8 (f:=f) (Zje h));have hk:(l.map f)[k]? = some (f x):=by rw [ZjY,h2,Zji,h3]
 have hj:(l.map f)[j]? = some (f x):=by rw [ZjY,h,Zji]
 have hkl:=(ZjC.1 hk).1;have:k=j:=(List.getElem?_inj hkl hn).1 (hk.trans hj.symm);rw [h1,this]
end Go.AM
namespace Go.AM
open Go
theorem ZcV {e:Event} (h:Q9 e=true):Q8 e=true:=by
 unfold Q9 at h;simp only [Zj2] at h;exact h.2.2.2.2
theorem ZcW {e:Event} {k:Int} (hk:e.Kind=k):Q8 e=Q8 { e with Kind:=k }:=by rw [←hk]
end Go.AM
namespace Go.AM
open Go
theorem Zah {n m:Int} (h:(n != m)=false):n=m:=by simpa using h
end Go.AM
namespace Go.AM
open Go
end Go.AM
namespace Go.AM
open Go
theorem ZdP {K:List Str} {x:Str}:K.any (Z3 x)=true↔x∈K:=by
 rw [List.any_eq_true];exact ⟨fun ⟨y,h1,h2⟩=>by rw [(Ky _ _).1 h2];exact h1,fun h=>⟨x,h,(Ky _ _).2 rfl⟩⟩
theorem Zdy:∀ (l K:List Str),(l.foldl (Qi Z3) K).length≤K.length+l.length∧((l.foldl (Qi Z3) K).length=K.length+l.length↔l.Nodup∧∀ x∈l,x ∉ K)
 | [],K=>⟨by simp,by simp⟩
 | x::r,K=>by
  rw [List.foldl_cons];unfold Qi;cases hx:K.any (Z3 x) with
  | true=>
   obtain ⟨h1,h2⟩:=Zdy r K;simp only [cond_true];rw [Zjs];refine ⟨by have:=h1;unfold Qi at this;omega,⟨fun h=>?_,fun h=>?_⟩⟩
   ·have:=h1;unfold Qi at this;omega
   ·exact absurd (ZdP.1 hx) (h.2 x (Zk3 ..))
  | false=>
   obtain ⟨h1,h2⟩:=Zdy r (K++[x]);have hk:x ∉ K:=fun h=>by rw [ZdP.2 h] at hx;cases hx
   simp only [cond_false];unfold Qi at h1 h2;rw [Zjj,ZjQ] at h1 h2;rw [Zjs];refine ⟨by omega,?_⟩
   rw [show K.length+(r.length+1)=K.length+1+r.length by omega,h2,ZjM]
   constructor
   ·rintro ⟨g1,g2⟩;refine ⟨⟨fun hm=>g2 x hm (ZjV _ (ZjO.2 rfl)),g1⟩,fun y hy=>?_⟩
    rcases Zk2.1 hy with rfl | hy
    ·exact hk
    ·exact fun h=>g2 y hy (ZjW _ h)
   ·rintro ⟨⟨g1,g2⟩,g3⟩;refine ⟨g2,fun y hy hm=>?_⟩
    rcases List.mem_append.1 hm with h | h
    ·exact g3 y (List.mem_cons_of_mem _ hy) h
    ·rw [ZjO] at h;exact g1 (h▸hy)
theorem Zdg (l:List Str):Qv l=true↔l.Nodup∧∀ x∈l,Ha x=false:=by
 unfold Qv XH;rw [Zj2,beq_iff_eq,Zjm,ZjG];have h:=(Zdy l []).2;rw [Zjt,Zjo] at h;rw [show (((l.foldl (Qi Z3) []).length:Nat):Int)=(l.length:Int)↔(l.foldl (Qi Z3) []).length=l.length from by omega,h]
 constructor
 ·rintro ⟨⟨h1,_⟩,h2⟩;exact ⟨h1,fun x hx=>by simpa using h2 x hx⟩
 ·rintro ⟨h1,h2⟩;exact ⟨⟨h1,fun x _ h=>by cases h⟩,fun x hx=>by rw [h2 x hx];decide⟩
end Go.AM
namespace Go.AM
open Go
end Go.AM
namespace Go.AM
open Go
end Go.AM
namespace Go.AM
open Go
end Go.AM
namespace Go.AM
open Go
end Go.AM
namespace Go.AM
open Go
end Go.AM
namespace Go.AM
open Go
end Go.AM
namespace Go.AM
open Go
structure SizeOk (s:Sta):Prop where
 rg:∀ x∈s.Regions,x.Names.l.length≤100∧x.Ring.l.length≤100∧x.Id.size≤1000
 st:∀ x∈s.Streets,x.Names.l.length≤100∧x.Line.l.length≤100∧x.Id.size≤1000
 bu:∀ x∈s.Buildings,x.Ring.l.length≤100∧x.Id.size≤1000
 dr:∀ x∈s.Doors,DoS x
 un:∀ x∈s.Units,x.Id.size≤1000∧x.Door.size≤1000∧x.Text.size≤1000
end Go.AM
namespace Go.AM
open Go
def Zih (l:List Ent) (id:Str):Int:=Zp (fun x:Ent=>Z3 x.Id id) l 0
theorem Zil (a b:Adr):XK a b=true↔a=b:=by
 obtain ⟨s1,n1,l1,u1,d1⟩:=a;obtain ⟨s2,n2,l2,u2,d2⟩:=b;simp only [XK,Zj2,Ky,beq_iff_eq,Adr.mk.injEq,HN.mk.injEq]
theorem Zim:∀ (l:List Door) (K:List Adr) (a:Adr),(a∈K∨∃ y∈l,Jr y=false∧WI y=a)→a∈l.foldl Hd K
 | [],K,a,h=>by
  rcases h with h | ⟨y,hy,_⟩
  ·exact h
  ·cases hy
 | x::r,K,a,h=>by
  rw [List.foldl_cons];refine Zim r _ a ?_;rcases h with h | ⟨y,hy,h1,h2⟩
  ·left;unfold Hd Qi;cases Jr x with
   | true=>exact h
   | false=>
    cases K.any (XK (WI x)) with
    | true=>exact h
    | false=>exact ZjW _ h
  ·rcases Zk2.1 hy with rfl | hy
   ·left;unfold Hd Qi;rw [h1,cond_false];cases hc:K.any (XK (WI y)) with
    | true=>
     obtain ⟨z,hz,hq⟩:=List.any_eq_true.1 hc;rw [cond_true,←h2,(Zil _ _).1 hq];exact hz
    | false=>rw [cond_false,←h2];exact ZjV _ (ZjO.2 rfl)
   ·exact Or.inr ⟨y,hy,h1,h2⟩
def Zij (x y:HN):Bool:=x.N==y.N&&(Z3 x.Letter y.Letter&&(x.Num==y.Num&&x.Den==y.Den))
theorem Zio (x y:HN):Zij x y=true↔x=y:=by
 obtain ⟨n1,l1,u1,d1⟩:=x;obtain ⟨n2,l2,u2,d2⟩:=y;simp only [Zij,Zj2,Ky,beq_iff_eq,HN.mk.injEq]
def clash (x y:Door):Bool:=x.Ended==-1&&(y.Ended==-1&&(Z3 x.Veil emp&&(Z3 y.Veil emp&&(Z3 x.Street y.Street&&Zij x.Number y.Number))))
theorem Zip {l:List Door} (h:Wh l=true) {i k:Nat} {x y:Door} (hk:k < i) (hx:l[i]? = some x) (hy:l[k]? = some y):clash x y=false:=by
 have h1:=Zda.1 h i x hx;rw [Zjo] at h1;cases hc:clash x y with
 | false=>rfl
 | true=>
  exfalso;unfold clash at hc;simp only [Zj2] at hc;obtain ⟨c1,c2,c3,c4,c5,c6⟩:=hc;have sx:Jr x=false:=by unfold Jr bne;rw [c1,c3];rfl
  have sy:Jr y=false:=by unfold Jr bne;rw [c2,c4];rfl
  rw [sx,Zjq,Zjm] at h1;have hm:y∈l.take i:=Zk5.2 ⟨k,by rw [ZjS,if_pos hk];exact hy⟩
  have h2:=Zim (l.take i) [] (WI y) (Or.inr ⟨y,hm,sy,rfl⟩);have h3:=ZjG.1 h1 (WI y) h2;rw [Zil] at h3;apply h3;unfold WI;rw [(Ky _ _).1 c5,(Zio _ _).1 c6]
theorem Zik:∀ {l m:List Str},l.Nodup→(∀ x∈l,x∈m)→l.length≤m.length
 | [],m,_,_=>Zj3 _
 | x::r,m,hn,hm=>by
  rw [ZjM] at hn;obtain ⟨p,q,rfl⟩:=List.append_of_mem (hm x (Zk3 ..));have h:=Zik (l:=r) (m:=p++q) hn.2 (fun y hy=>by
   have h1:=hm y (List.mem_cons_of_mem _ hy);rcases List.mem_append.1 h1 with h1 | h1
   ·exact ZjW _ h1
   ·rcases Zk2.1 h1 with h1 | h1
    ·exact absurd (h1▸hy) hn.1
    ·exact ZjV _ h1)
  rw [Zjj] at h ⊢;rw [Zjs,Zjs];omega
theorem Zin {s:Sta} (hn:(s.Doors.map (·.Id)).Nodup) {L:List Ent} (hL:∀ x∈L,decide (Zn s x.Id < 0)=false):
 ∀ n,n≤L.length→∀ (i:Nat) (d:Door),s.Doors[i]? = some d→((∀ x∈L.take n,x.Id≠d.Id)∧(Yn s.Doors L n)[i]? = some d)∨(∃ x∈L.take n,x.Id=d.Id∧(∃ z∈L.take n,z.Id=d.Id∧(Yn s.Doors L n)[i]? = some (UP z.Number d)))
 | 0,_,i,d,hd=>Or.inl ⟨fun x hx=>(by cases hx),hd⟩
 | n+1,hle,i,d,hd=>by
  have ih:=Zin hn hL n (by omega) i d hd
  have hx:L[n]? = some L[n]:=Zj4 (by omega)
  generalize L[n]=x at hx;have htk:L.take (n+1)=L.take n++[x]:=by rw [ZjR,hx];rfl
  have hb:=hL x (Zje hx);obtain ⟨j,dj,h1,h2,h3⟩:=ZcU (f:=fun d:Door=>d.Id) hb
  have hf:Kk (Yn s.Doors L n) x.Id=(j:Int):=(Z4o (HA s.Doors L n) x.Id).trans h1;have hR:Yn s.Doors L (n+1)=ZK (Yn s.Doors L n) j (UP x.Number):=by
   rw [Yn,hx];show ZK _ (Kk (Yn s.Doors L n) x.Id).toNat _=_
   rw [hf];rfl
  rw [hR,Zbz,htk];by_cases hij:i=j
  ·subst hij;rw [if_pos rfl];rw [h2] at hd;cases hd;refine Or.inr ⟨x,ZjV _ (ZjO.2 rfl),h3.symm,x,ZjV _ (ZjO.2 rfl),h3.symm,?_⟩;rcases ih with ⟨_,g⟩ | ⟨_,_,_,z,_,_,g⟩
   ·rw [g];rfl
   ·rw [g];rfl
  ·rw [if_neg hij];rcases ih with ⟨g1,g2⟩ | ⟨y,g1,g2,z,g3,g4,g5⟩
   ·refine Or.inl ⟨fun y hy=>?_,g2⟩
    rcases List.mem_append.1 hy with hy | hy
    ·exact g1 y hy
    ·rw [ZjO] at hy;subst hy;intro hc;have e1:=Zi1 (f:=fun d:Door=>d.Id) hn h2
     have e2:=Zi1 (f:=fun d:Door=>d.Id) hn hd
     have e1':look (fun d:Door=>d.Id) s.Doors d.Id=(j:Int):=by rw [←hc,←h3];exact e1
     have e2':look (fun d:Door=>d.Id) s.Doors d.Id=(i:Int):=e2
     omega
   ·exact Or.inr ⟨y,ZjW _ g1,g2,z,ZjW _ g3,g4,g5⟩
def inL (L:List Ent) (d:Door):Bool:=decide (Zih L d.Id ≥ 0)
theorem Ziq {s:Sta} {a:Int} {e:Event} (h:Qk s a e=0) (hk:e.Kind=8):
 ZP s a e={ s with Doors:=(ZP s a e).Doors }∧(ZP s a e).Doors.length=s.Doors.length∧Wh (ZP s a e).Doors=true∧
 (∀ (i:Nat) (x:Door),s.Doors[i]? = some x→(Zih e.Lst.l x.Id=-1∧(ZP s a e).Doors[i]? = some x)∨
  (∃ (k:Nat) (z:Ent),Zih e.Lst.l x.Id=(k:Int)∧e.Lst.l[k]? = some z∧(ZP s a e).Doors[i]? = some (UP z.Number x)∧x.Street=e.Id∧x.Ended=-1))∧
 (s.Doors.filter (inL e.Lst.l)).length=e.Lst.l.length:=by
 obtain ⟨h1,h2,h3,h4⟩:=ZbV h;obtain ⟨p1,_,p3⟩:=ZbX h1;have hp:=((Zdb s).1 p1).1;have hids:=hp.ids;have hnD:(s.Doors.map (·.Id)).Nodup:=by
  unfold Qp at hids;simp only [List.nodup_append] at hids;exact hids.2.1.2.1.2.1.1
 have hw:stepW (wk0 s a e)=NY (wk0 s a e):=by unfold stepW;rw [show (wk0 s a e).e.Kind=8 from hk];rfl
 have he:Q1 (wk0 s a e)=HD (wk0 s a e):=by unfold Q1;rw [show (wk0 s a e).e.Kind=8 from hk];rfl
 rw [he] at h2;rw [hw] at h3 h4;have ht:(NY (wk0 s a e)).s={ s with Doors:=Yn s.Doors e.Lst.l e.Lst.l.length }:=rfl
 rw [ht] at h3 h4;rw [h4];have hn:(ZZ e.Id&&(ZD e.Lst.l.length 1 40&&(Xi e.Lst.l []&&Vk e.Lst.l true)))=true:=by have:=ZcV p3;rw [ZcW hk] at this;exact this
 simp only [Zj2] at hn;have hnL:(e.Lst.l.map (·.Id)).Nodup:=by
  have h:=hn.2.2.1;unfold Xi at h;simp only [Zj2] at h;exact ((Zdg _).1 h.2.1).1
 have ws:(wk0 s a e).s=s:=rfl;have we:(wk0 s a e).e=e:=rfl;unfold HD at h2;rw [ws,we] at h2;cases c1:decide (ZL s e.Id < 0) with
 | true=>rw [c1] at h2;cases h2
 | false=>
 cases c2:e.Lst.l.any (Kj s) with
 | true=>rw [c1,c2] at h2;cases h2
 | false=>
 rw [c1,c2,Bool.or_false,cond_false] at h2;cases c3:e.Lst.l.any (Hz (wk0 s a e)) with
 | true=>rw [c3,Zjw] at h2;cases h2
 | false=>
 have hb1:∀ x∈e.Lst.l,decide (Zn s x.Id < 0)=false:=fun x hx=>by
  have b1:Kj s x=false:=by simpa using ZjG.1 c2 x hx
  exact b1
 have hgood:∀ x∈e.Lst.l,∀ (i:Nat) (d:Door),s.Doors[i]? = some d→x.Id=d.Id→d.Street=e.Id∧d.Ended=-1:=by
  intro x hx i d hd hxd;have b2:Hz (wk0 s a e) x=false:=by simpa using ZjG.1 c3 x hx
  unfold Hz at b2;rw [Bool.or_eq_false_iff,ws,we,hxd] at b2;have hl:Zn s d.Id=(i:Int):=Zi1 (f:=fun d:Door=>d.Id) hnD hd
  rw [hl] at b2;have q1:QN s (i:Int)=d.Ended:=by simp [QN,hd]
  have q2:XP s (i:Int)=d.Street:=by simp [XP,hd]
  rw [q1,q2] at b2;refine ⟨(Ky _ _).1 (by simpa using b2.2),Zah b2.1⟩
 have hin:∀ d:Door,inL e.Lst.l d=true↔d.Id∈e.Lst.l.map (·.Id):=by
  intro d;unfold inL;constructor
  ·intro hq;have hq':decide (look (fun x:Ent=>x.Id) e.Lst.l d.Id < 0)=false:=by
    have:=of_decide_eq_true hq;exact decide_eq_false (by show ¬ (Zih e.Lst.l d.Id < 0);omega)
   obtain ⟨k,z,_,g2,g3⟩:=ZcU (f:=fun x:Ent=>x.Id) hq'
   exact ZjN.2 ⟨z,Zje g2,g3⟩
  ·intro hq;obtain ⟨z,g1,g2⟩:=ZjN.1 hq;have hq':=Ze8 (f:=fun x:Ent=>x.Id) g1
   have:=of_decide_eq_false hq';rw [g2] at this;exact decide_eq_true (by show Zih e.Lst.l d.Id ≥ 0;have h6:Zih e.Lst.l d.Id=look (fun x:Ent=>x.Id) e.Lst.l d.Id:=rfl;omega)
 refine ⟨rfl,FL _ _ _,h3,fun i x hx=>?_,?_⟩
 ·have hr:=Zin hnD hb1 e.Lst.l.length (Zjr _) i x hx;rw [Zjh] at hr;rcases hr with ⟨g1,g2⟩ | ⟨_,_,_,z,g3,g4,g5⟩
  ·refine Or.inl ⟨?_,g2⟩;refine Ze7 (f:=fun x:Ent=>x.Id) ?_
   cases hq:decide (look (fun x:Ent=>x.Id) e.Lst.l x.Id < 0) with
   | true=>rfl
   | false=>
    obtain ⟨k,z,_,q2,q3⟩:=ZcU (f:=fun x:Ent=>x.Id) hq
    exact absurd q3 (g1 z (Zje q2))
  ·obtain ⟨k,hkz⟩:=Zk5.1 g3;have hl:=Zi1 (f:=fun x:Ent=>x.Id) hnL hkz
   obtain ⟨q1,q2⟩:=hgood z g3 i x hx g4;refine Or.inr ⟨k,z,?_,hkz,g5,q1,q2⟩;rw [←g4];exact hl
 ·have hA:((s.Doors.filter (inL e.Lst.l)).map (·.Id)).Nodup:=hnD.sublist (List.filter_sublist.map _);have h5:=Zik hA (m:=e.Lst.l.map (·.Id)) (fun id hid=>by
   obtain ⟨d,g1,g2⟩:=ZjN.1 hid;have:=(hin d).1 (List.mem_filter.1 g1).2;rw [←g2];exact this)
  have h6:=Zik hnL (m:=(s.Doors.filter (inL e.Lst.l)).map (·.Id)) (fun id hid=>by
   obtain ⟨x,g1,g2⟩:=ZjN.1 hid;obtain ⟨j,dj,k1,k2,k3⟩:=ZcU (f:=fun d:Door=>d.Id) (hb1 x g1)
   refine ZjN.2 ⟨dj,List.mem_filter.2 ⟨Zje k2,(hin dj).2 (by rw [k3,g2];exact hid)⟩,?_⟩
   rw [k3];exact g2)
  rw [Zj6,Zj6] at h5;rw [Zj6,Zj6] at h6;omega
end Go.AM
namespace Go.AM
open Go
def Zig {α:Type} (A B:List α) (i:Nat):List α:=A.take i++B.drop i
theorem Zir {α:Type} {A B:List α} (h:A.length=B.length) {i:Nat} (hi:i≤B.length):(Zig A B i).length=B.length:=by
 unfold Zig;rw [Zjj,Zjx,List.length_drop];omega
theorem Zis {α:Type} {A B:List α} (h:A.length=B.length) {i:Nat} (hi:i < B.length):(Zig A B i)[i]? = B[i]?:=by
 unfold Zig;rw [Zk0 (by rw [Zjx];omega),Zjx,ZjT]
 congr 1;omega
theorem Zit {α:Type} {A B:List α} (h:A.length=B.length) {i:Nat} {x:α} (hx:A[i]? = some x):Zig A B (i+1)=(Zig A B i).set i x:=by
 have hi:=Z7 hx;apply List.ext_getElem?;intro j;unfold Zig;rw [List.getElem?_set];have hl1:(A.take (i+1)).length=i+1:=by rw [Zjx];omega
 have hl0:(A.take i).length=i:=by rw [Zjx];omega
 by_cases hj:i=j
 ·subst hj;rw [if_pos rfl,if_pos (by rw [Zjj,List.length_drop,hl0];omega),Zk1 (by omega),ZjS,if_pos (by omega),hx]
 ·rw [if_neg hj];by_cases hlt:j < i
  ·rw [Zk1 (by omega),Zk1 (by omega),ZjS,ZjS,if_pos (by omega),if_pos hlt]
  ·rw [Zk0 (by omega),Zk0 (by omega),hl1,hl0,ZjT,ZjT]
   congr 1;omega
theorem Ziu {α:Type} (A B:List α):Zig A B 0=B:=by unfold Zig;simp
theorem Ziv {α:Type} {A B:List α} (h:A.length=B.length):Zig A B B.length=A:=by unfold Zig;rw [←h,Zjh,h,List.drop_length,Zj5]
end Go.AM
namespace Go.AM
open Go
theorem Zad (x:Str):Z3 x x=true:=by unfold Z3;exact beq_self_eq_true _
theorem Zat (ex:Bool) (l:List Pt) (hl:l.length≤1000):pfn rE 51 [.isl false ex 2 (l.map Pt.enc),.isl false ex 2 (l.map Pt.enc)]=some (.bool true):=by
 rw [Z5 (f:=51) rfl rfl];have L:=Y8 (E:=rE) (live:=[0,1,5]) (b:=c51L0b) l.length (fun i=>[(0,.isl false ex 2 (l.map Pt.enc)),(1,.isl false ex 2 (l.map Pt.enc)),(5,I i)]) (fun i=>[]) (fun i=>rfl)
  (fun i hi=>by
   obtain ⟨x,hx⟩:∃ x,l[i]? = some x:=⟨_,Zj4 hi⟩;have hg:=Z6 (f:=Pt.enc) hx;have hi':=Zh hi;have hwr:=Zx (n:=i) (by omega)
   refine ⟨[(0,.isl false ex 2 (l.map Pt.enc)),(1,.isl false ex 2 (l.map Pt.enc)),(4,.bot),(5,I (i+1:Nat))],?_,rfl⟩;simp only [go_sem,Nat.reduceBEq,reduceAdd,reduceLT,reduceLeDiff,reduceIte,c51L0b,hg,hi',hwr,Pt.enc,beq_self_eq_true])
  (e:=.exit 0) (fr:=[(0,.isl false ex 2 (l.map Pt.enc)),(1,.isl false ex 2 (l.map Pt.enc)),(4,.bot),(5,I l.length)]) (h:=[]) (by simp only [go_sem,Nat.reduceBEq,reduceAdd,reduceLT,reduceLeDiff,reduceIte,c51L0b,ZG]) (by simp)
 have hne:((l.length:Int) != (l.length:Int))=false:=by simp
 have L':Zg rE [0,1,5] c51L0b [(0,.isl false ex 2 (l.map Pt.enc)),(1,.isl false ex 2 (l.map Pt.enc)),(5,.int .i64 0)] []=_:=L;simp only [go_sem,Nat.reduceBEq,reduceAdd,reduceLT,reduceLeDiff,reduceIte,c51,c51L0,L',hne]
theorem ZaD (ex:Bool) (l:List Nm) (hl:l.length≤1000):pfn rE 110 [.isl false ex 3 (l.map Nm.enc),.isl false ex 3 (l.map Nm.enc)]=some (.bool true):=by
 rw [Z5 (f:=110) rfl rfl];have L:=Y8 (E:=rE) (live:=[0,1,5]) (b:=c110L0b) l.length (fun i=>[(0,.isl false ex 3 (l.map Nm.enc)),(1,.isl false ex 3 (l.map Nm.enc)),(5,I i)]) (fun i=>[]) (fun i=>rfl)
  (fun i hi=>by
   obtain ⟨x,hx⟩:∃ x,l[i]? = some x:=⟨_,Zj4 hi⟩;have hg:=Z6 (f:=Nm.enc) hx;have hi':=Zh hi;have hwr:=Zx (n:=i) (by omega)
   refine ⟨[(0,.isl false ex 3 (l.map Nm.enc)),(1,.isl false ex 3 (l.map Nm.enc)),(4,.bot),(5,I (i+1:Nat))],?_,rfl⟩;simp only [go_sem,Nat.reduceBEq,reduceAdd,reduceLT,reduceLeDiff,reduceIte,c110L0b,hg,hi',hwr,Nm.enc,Zad,beq_self_eq_true])
  (e:=.exit 0) (fr:=[(0,.isl false ex 3 (l.map Nm.enc)),(1,.isl false ex 3 (l.map Nm.enc)),(4,.bot),(5,I l.length)]) (h:=[]) (by simp only [go_sem,Nat.reduceBEq,reduceAdd,reduceLT,reduceLeDiff,reduceIte,c110L0b,ZG]) (by simp)
 have hne:((l.length:Int) != (l.length:Int))=false:=by simp
 have L':Zg rE [0,1,5] c110L0b [(0,.isl false ex 3 (l.map Nm.enc)),(1,.isl false ex 3 (l.map Nm.enc)),(5,.int .i64 0)] []=_:=L;simp only [go_sem,Nat.reduceBEq,reduceAdd,reduceLT,reduceLeDiff,reduceIte,c110,c110L0,L',hne]
theorem ZaU (x:Region) (h1:x.Ring.l.length≤1000) (h2:x.Names.l.length≤1000):pfn rE 36 [x.enc,x.enc]=some (.bool true):=by
 have hp:=Zat x.Ring.ex x.Ring.l h1;have hn:=ZaD x.Names.ex x.Names.l h2;rw [Z5 (f:=36) rfl rfl];simp only [go_sem,Nat.reduceBEq,reduceAdd,reduceIte,c36,Region.enc,NL.enc,Zad,beq_self_eq_true,hp,hn]
theorem ZaV (x:Street) (h1:x.Line.l.length≤1000) (h2:x.Names.l.length≤1000):pfn rE 37 [x.enc,x.enc]=some (.bool true):=by
 have hp:=Zat x.Line.ex x.Line.l h1;have hn:=ZaD x.Names.ex x.Names.l h2;rw [Z5 (f:=37) rfl rfl];simp only [go_sem,Nat.reduceBEq,reduceAdd,reduceIte,c37,Street.enc,NL.enc,Zad,beq_self_eq_true,hp,hn]
theorem ZaW (x:Building) (h1:x.Ring.l.length≤1000):pfn rE 38 [x.enc,x.enc]=some (.bool true):=by
 have hp:=Zat x.Ring.ex x.Ring.l h1;rw [Z5 (f:=38) rfl rfl];simp only [go_sem,Nat.reduceBEq,reduceAdd,reduceIte,c38,Building.enc,NL.enc,Zad,beq_self_eq_true,hp]
theorem ZaX (l:List Str):HK l l=true:=by
 unfold HK;rw [beq_self_eq_true,Zjl];have:∀ (m:List Str) (i:Nat),(∀ j x,m[j]? = some x→l[i+j]? = some x)→Zu (fun i x=>match l[i]? with | some y=>Z3 x y | none=>false) i m=true:=by
  intro m;induction m with
  | nil=>intro i h;rfl
  | cons x r ih=>
   intro i h;have h0:=h 0 x rfl;rw [Nat.add_zero] at h0;unfold Zu;rw [h0];simp only [Zad,Zjl];exact ih (i+1) (fun j y hy=>by rw [ZjF,Nat.add_comm 1 j];exact h (j+1) y hy)
 exact this l 0 (fun j x h=>by rw [Zjo];exact h)
theorem ZaY (x:Door) (h:x.After.l.length≤1000):pfn rE 39 [x.enc,x.enc]=some (.bool true):=by
 rw [Z4M x x h];unfold HL FU QL QK;simp only [Zad,ZaX,beq_self_eq_true,bne_self_eq_false,Bool.not_true,Bool.or_false,Bool.not_false,Zjn]
end Go.AM
namespace Go.AM
open Go
theorem ZbL (ex:Bool) (l:List Pair) (hl:l.length≤1000):pfn rE 109 [.isl false ex 2 (l.map Pair.enc),.isl false ex 2 (l.map Pair.enc)]=some (.bool true):=by
 rw [Z5 (f:=109) rfl rfl];have L:=Y8 (E:=rE) (live:=[0,1,5]) (b:=c109L0b) l.length (fun i=>[(0,.isl false ex 2 (l.map Pair.enc)),(1,.isl false ex 2 (l.map Pair.enc)),(5,I i)]) (fun i=>[]) (fun i=>rfl)
  (fun i hi=>by
   obtain ⟨x,hx⟩:∃ x,l[i]? = some x:=⟨_,Zj4 hi⟩;have hg:=Z6 (f:=Pair.enc) hx;have hi':=Zh hi;have hwr:=Zx (n:=i) (by omega)
   refine ⟨[(0,.isl false ex 2 (l.map Pair.enc)),(1,.isl false ex 2 (l.map Pair.enc)),(4,.bot),(5,I (i+1:Nat))],?_,rfl⟩;simp only [go_sem,Nat.reduceBEq,reduceAdd,reduceLT,reduceLeDiff,reduceIte,c109L0b,hg,hi',hwr,Pair.enc,beq_self_eq_true])
  (e:=.exit 0) (fr:=[(0,.isl false ex 2 (l.map Pair.enc)),(1,.isl false ex 2 (l.map Pair.enc)),(4,.bot),(5,I l.length)]) (h:=[]) (by simp only [go_sem,Nat.reduceBEq,reduceAdd,reduceLT,reduceLeDiff,reduceIte,c109L0b,ZG]) (by simp)
 have hne:((l.length:Int) != (l.length:Int))=false:=by simp
 have L':Zg rE [0,1,5] c109L0b [(0,.isl false ex 2 (l.map Pair.enc)),(1,.isl false ex 2 (l.map Pair.enc)),(5,.int .i64 0)] []=_:=L;simp only [go_sem,Nat.reduceBEq,reduceAdd,reduceLT,reduceLeDiff,reduceIte,c109,c109L0,L',hne]
end Go.AM
namespace Go.AM
open Go
theorem Ziw (l:List Ent) (ex:Bool) (hl:l.length≤1000) (id:Str):pfn rE 41 [.isl false ex 7 (l.map Ent.enc),.str id]=some (I (Zih l id)):=by
 have L:=Dr (E:=rE) (live:=[0,1,5]) (b:=c41L0b) (h:=[]) l (fun x:Ent=>Z3 x.Id id) (fun i=>[(0,.isl false ex 7 (l.map Ent.enc)),(1,.str id),(5,I i)]) 0 (fun i fr=>get fr 4=I i) (fun i=>rfl)
  (fun i x hx hP=>by
   have hg:=Z6 (f:=Ent.enc) hx;have hi:=Zh (Z7 hx);have hw:=Zx (n:=i) (by have:=Z7 hx;omega)
   refine ⟨_,by simp only [go_sem,Nat.reduceBEq,reduceAdd,reduceIte,c41L0b,hg,hi,hw,hP,Ent.enc];rfl,?_⟩
   simp only [go_sem,Nat.reduceBEq,reduceAdd,reduceIte])
  (fun i x hx hP=>by
   have hg:=Z6 (f:=Ent.enc) hx;have hi:=Zh (Z7 hx);refine ⟨_,by simp only [go_sem,Nat.reduceBEq,reduceAdd,reduceIte,c41L0b,hg,hi,hP,Ent.enc];rfl,?_⟩
   simp only [go_sem,Nat.reduceBEq,reduceAdd,reduceIte])
  (⟨_,by simp only [go_sem,Nat.reduceBEq,reduceAdd,reduceIte,c41L0b,ZG];rfl⟩)
 obtain ⟨fr',h1,h2⟩:=L;have h1':Zg rE [0,1,5] c41L0b [(0,.isl false ex 7 (l.map Ent.enc)),(1,.str id),(5,.int .i64 0)] []=_:=h1;rw [Z5 (f:=41) rfl rfl];unfold Zih;by_cases hc:Zp (fun x:Ent=>Z3 x.Id id) l 0=-1
 ·rw [hc] at h1' ⊢;simp only [go_sem,Nat.reduceBEq,reduceAdd,reduceIte,c41,c41L0,h1']
 ·obtain ⟨i,hi,hq⟩:=h2 hc;rw [if_neg hc] at h1';simp only [go_sem,Nat.reduceBEq,reduceAdd,reduceIte,c41,c41L0,h1',hq,hi]
abbrev rnA (s:Sta):AV:=.agg [.isl false false 6 (s.Regions.map Region.enc),.isl false false 5 (s.Streets.map Street.enc),.isl false false 4 (s.Buildings.map Building.enc),.sl 4 s.Doors.length 0 s.Doors.length false,.isl false false 6 (s.Units.map Unit'.enc),.isl false false 2 (s.Merged.map Pair.enc),.isl false false 2 (s.Rulings.map Pair.enc)]
abbrev rnH (e:Event) (t:Sta) (D:List Door):Hp:=[.row 18 [evA e],.row 7 [stA t],.row 7 [rnA t],.row 16 [],.row 16 (D.map Door.enc)]
abbrev rnF (s:Sta) (n i:Nat):Fr:=[(3,stI s),(5,.ptr 0 0 0 1),(7,.bool true),(8,.ptr 1 0 0 1),(10,.ptr 2 0 0 1),(11,I n),(12,I i)]
abbrev rnG (s:Sta) (n i:Nat):Fr:=[(3,stI s),(5,.ptr 0 0 0 1),(6,.bot),(7,.bool true),(8,.ptr 1 0 0 1),(10,.ptr 2 0 0 1),(11,I n),(12,I i)]
theorem Zix (s t:Sta) (e:Event) (D:List Door) (n i:Nat) (hi1:i < t.Doors.length) (hDl:D.length=t.Doors.length) (hl:t.Doors.length≤1000) (hN:Wh t.Doors=true):
 Zg rE [3,5,7,8,10,11,12,13] c9L0b (rnF s n i++[(13,.int .i64 0)]) (rnH e t D)=some (.exit 2,rnG s n i++[(13,I i)],rnH e t D):=by
 obtain ⟨x,hx⟩:∃ x,t.Doors[i]? = some x:=⟨_,Zj4 hi1⟩;have gx:=Z6 (f:=Door.enc) hx;have hbD:∀ n,Zd n (D.map Door.enc)=true:=fun n=>ZN _ (Zw (fun t=>rfl) D)
 have L:=Y8 (E:=rE) (live:=[3,5,7,8,10,11,12,13]) (b:=c9L0b) i (fun k=>rnF s n i++[(13,I k)]) (fun k=>rnH e t D) (fun i=>rfl)
  (fun k hk=>by
   obtain ⟨y,hy⟩:∃ y,t.Doors[k]? = some y:=⟨_,Zj4 (by omega)⟩
   have gy:=Z6 (f:=Door.enc) hy;have hk':=Zh hk;have hwr:=Zx (n:=k) (by omega)
   have hcl:=Zip hN hk hx hy;unfold clash Zij at hcl;refine ⟨rnG s n i++[(13,I (k+1:Nat))],?_,rfl⟩;cases c1:x.Ended==-1 with
   | false=>simp only [go_sem,Nat.reduceBEq,reduceAdd,reduceLT,reduceLeDiff,reduceIte,c9L0b,hDl,beq_self_eq_true,gx,gy,hk',hwr,hbD,Door.enc,NL.enc,c1]
   | true=>
   cases c2:y.Ended==-1 with
   | false=>simp only [go_sem,Nat.reduceBEq,reduceAdd,reduceLT,reduceLeDiff,reduceIte,c9L0b,hDl,beq_self_eq_true,gx,gy,hk',hwr,hbD,Door.enc,NL.enc,c1,c2]
   | true=>
   cases c3:Z3 x.Veil emp with
   | false=>simp only [go_sem,Nat.reduceBEq,reduceAdd,reduceLT,reduceLeDiff,reduceIte,c9L0b,hDl,beq_self_eq_true,gx,gy,hk',hwr,hbD,Door.enc,NL.enc,c1,c2,c3]
   | true=>
   cases c4:Z3 y.Veil emp with
   | false=>simp only [go_sem,Nat.reduceBEq,reduceAdd,reduceLT,reduceLeDiff,reduceIte,c9L0b,hDl,beq_self_eq_true,gx,gy,hk',hwr,hbD,Door.enc,NL.enc,c1,c2,c3,c4]
   | true=>
   cases c5:Z3 x.Street y.Street with
   | false=>simp only [go_sem,Nat.reduceBEq,reduceAdd,reduceLT,reduceLeDiff,reduceIte,c9L0b,hDl,beq_self_eq_true,gx,gy,hk',hwr,hbD,Door.enc,NL.enc,c1,c2,c3,c4,c5]
   | true=>
   rw [c1,c2,c3,c4,c5] at hcl;simp only [Zjl] at hcl;simp only [go_sem,Nat.reduceBEq,reduceAdd,reduceLT,reduceLeDiff,reduceIte,c9L0b,hDl,beq_self_eq_true,gx,gy,hk',hwr,hbD,Door.enc,NL.enc,c1,c2,c3,c4,c5,hcl])
  (e:=.exit 2) (fr:=rnG s n i++[(13,I i)]) (h:=rnH e t D) (by simp only [go_sem,Nat.reduceBEq,reduceAdd,reduceLT,reduceLeDiff,reduceIte,c9L0b,hDl,beq_self_eq_true,ZG,hbD]) (by simp)
 exact L
theorem Ziy (s t:Sta) (e:Event) (hE:e.Lst.l.length≤1000) (hl:t.Doors.length≤1000) (hlen:t.Doors.length=s.Doors.length) (hN:Wh t.Doors=true)
 (hD:∀ (i:Nat) (x:Door),s.Doors[i]? = some x→(Zih e.Lst.l x.Id=-1∧t.Doors[i]? = some x)∨
  (∃ (k:Nat) (z:Ent),Zih e.Lst.l x.Id=(k:Int)∧e.Lst.l[k]? = some z∧t.Doors[i]? = some (UP z.Number x)∧x.Street=e.Id∧x.Ended=-1)):
 Zg rE [3,5,7,8,10,11,12] c9L1b (rnF s 0 0) (rnH e t t.Doors)=some (.exit 0,rnG s (s.Doors.filter (inL e.Lst.l)).length t.Doors.length,rnH e t s.Doors):=by
 have hM:=Ziv hlen.symm;have hbD:∀ (D:List Door) n,Zd n (D.map Door.enc)=true:=fun D n=>ZN _ (Zw (fun t=>rfl) D)
 have L:=Y8 (E:=rE) (live:=[3,5,7,8,10,11,12]) (b:=c9L1b) t.Doors.length (fun i=>rnF s ((s.Doors.take i).filter (inL e.Lst.l)).length i) (fun i=>rnH e t (Zig s.Doors t.Doors i)) (fun i=>rfl)
  (fun i hi=>by
   obtain ⟨x,hx⟩:∃ x,s.Doors[i]? = some x:=⟨_,Zj4 (by omega)⟩
   have hml:=Zir hlen.symm (i:=i) (by omega)
   have hma:=Zis hlen.symm hi;have hms:=Zit hlen.symm hx;have hP:=fun n=>Zix s t e (Zig s.Doors t.Doors i) n i hi hml hl hN
   simp only [rnF,rnG,rnH,rnA,Zjc,Zj7] at hP;have gs:=Z6 (f:=Door.enc) hx;have hi':=Zh hi;have hi2:=fun es=>VT 4 t.Doors.length 0 16 (i:Int) t.Doors.length es ⟨by omega,by omega⟩
   have hin:((i:Int)).toNat=i:=rfl;have hwr:=Zx (n:=i) (by omega)
   have hen:=fun id=>Ziw e.Lst.l e.Lst.ex hE id
   have htk:(s.Doors.take (i+1)).filter (inL e.Lst.l)=(s.Doors.take i).filter (inL e.Lst.l)++(bif inL e.Lst.l x then [x] else []):=by
    rw [ZjR,hx,List.filter_append];show _++[x].filter _=_
    cases hc:inL e.Lst.l x<;>simp [hc]
   have hnl:((s.Doors.take i).filter (inL e.Lst.l)).length≤1000:=ZjH (List.length_filter_le _ _) (by rw [Zjx];omega)
   have hw2:=Zx (n:=((s.Doors.take i).filter (inL e.Lst.l)).length) (by omega)
   rw [htk,Zjj,hms];generalize ((s.Doors.take i).filter (inL e.Lst.l)).length=n at *;rcases hD i x hx with ⟨d1,d2⟩ | ⟨k,z,d1,d2,d3,d4,d5⟩
   ·have hf:inL e.Lst.l x=false:=decide_eq_false (by rw [d1];decide)
    rw [d2] at hma;have gm:((Zig s.Doors t.Doors i).map Door.enc)[i]? = some x.enc:=Z6 (f:=Door.enc) hma;have hset:(Zig s.Doors t.Doors i).set i x=Zig s.Doors t.Doors i:=by
     apply List.ext_getElem?;intro j;rw [List.getElem?_set];by_cases hj:i=j
     ·subst hj;rw [if_pos rfl,if_pos (by omega),hma]
     ·rw [if_neg hj]
    rw [hset,hf,cond_false,Zjt,Nat.add_zero];generalize Zig s.Doors t.Doors i=D at *;refine ⟨rnG s n (i+1),?_,rfl⟩;have hge:decide ((-1:Int) ≥ 0)=false:=rfl;simp only [go_sem,Nat.reduceBEq,reduceAdd,reduceLT,reduceLeDiff,reduceIte,c9L1b,c9L0,hP,hml,gm,hi',hi2,hin,hwr,hbD,if_true,beq_self_eq_true,Zjo,Door.enc,NL.enc,hen,d1,hge]
   ·have hf:inL e.Lst.l x=true:=decide_eq_true (by rw [d1];omega)
    rw [d3] at hma;have gm:((Zig s.Doors t.Doors i).map Door.enc)[i]? = some (UP z.Number x).enc:=Z6 (f:=Door.enc) hma;have gz:=Z6 (f:=Ent.enc) d2;have hset:((Zig s.Doors t.Doors i).set i x).map Door.enc=((Zig s.Doors t.Doors i).map Door.enc).set i x.enc:=Zja;have hsl:((Zig s.Doors t.Doors i).set i x).length=t.Doors.length:=by rw [ZjU,hml]
    rw [hf,cond_true,ZjQ];simp only [rnH];rw [hset];generalize Zig s.Doors t.Doors i=D at *;have hge:decide ((k:Int) ≥ 0)=true:=decide_eq_true (by omega)
    have hbs:∀ n,Zd n ((D.map Door.enc).set i x.enc)=true:=fun n=>by rw [←Zja];exact hbD _ n
    refine ⟨rnG s (n+1) (i+1),?_,rfl⟩;simp only [UP] at gm;simp only [Door.enc,NL.enc] at hbs;have hm1:((-1:Int) != -1)=false:=rfl;simp only [go_sem,Nat.reduceBEq,reduceAdd,reduceLT,reduceLeDiff,reduceIte,c9L1b,c9L0,hP,hml,gm,gs,gz,hi',hi2,hin,hwr,hw2,hbD,hbs,if_true,beq_self_eq_true,Zjo,Door.enc,NL.enc,Ent.enc,hen,d1,d4,d5,hge,hm1,Zad])
  (e:=.exit 0) (fr:=rnG s ((s.Doors.take t.Doors.length).filter (inL e.Lst.l)).length t.Doors.length) (h:=rnH e t (Zig s.Doors t.Doors t.Doors.length)) (by rw [hM];simp only [go_sem,Nat.reduceBEq,reduceAdd,reduceLT,reduceLeDiff,reduceIte,c9L1b,ZG,hbD,hlen,beq_self_eq_true]) (by simp)
 have hT:s.Doors.take t.Doors.length=s.Doors:=by rw [hlen,Zjh]
 rw [hT,hM] at L;simpa only [Ziu,List.take_zero,List.filter_nil,Zjt] using L
end Go.AM
namespace Go.AM
open Go
abbrev stB (c:Bool) (s:Sta):AV:=.agg [.isl false false 6 (s.Regions.map Region.enc),.isl false false 5 (s.Streets.map Street.enc),.isl c false 4 (s.Buildings.map Building.enc),.isl true false 16 (s.Doors.map Door.enc),.isl c false 6 (s.Units.map Unit'.enc),.isl false false 2 (s.Merged.map Pair.enc),.isl false false 2 (s.Rulings.map Pair.enc)]
abbrev stJ (c:Bool) (s:Sta):AV:=.iptr true [.isl false false 6 (s.Regions.map Region.enc),.isl false false 5 (s.Streets.map Street.enc),.isl c false 4 (s.Buildings.map Building.enc),.isl true false 16 (s.Doors.map Door.enc),.isl c false 6 (s.Units.map Unit'.enc),.isl false false 2 (s.Merged.map Pair.enc),.isl false false 2 (s.Rulings.map Pair.enc)]
theorem Ziz (c:Bool) (s:Sta) (hE:StE s):Zg rE [2,3,5] c35L0b [(2,stJ c s),(3,stI s),(5,.int .i64 0)] []=some (.exit 0,[(2,stJ c s),(3,stI s),(4,.bot),(5,I s.Regions.length)],[]):=by
 have hn:=hE.sizes.regions;have L:=Y8 (E:=rE) (live:=[2,3,5]) (b:=c35L0b) s.Regions.length (fun i=>[(2,stJ c s),(3,stI s),(5,I i)]) (fun i=>[]) (fun i=>rfl)
  (fun i hi=>by
   obtain ⟨x,hx⟩:∃ x,s.Regions[i]? = some x:=⟨_,Zj4 hi⟩;have hg:=Z6 (f:=Region.enc) hx;have hi':=Zh hi;have hwr:=Zx (n:=i) (by omega)
   have hlt:((i:Int) < (s.Regions.length:Int)):=by omega
   have hm:=Zje hx;refine ⟨[(2,stJ c s),(3,stI s),(4,.bot),(5,I (i+1:Nat))],?_,rfl⟩;have hS:=ZaU x (ZjH (hE.regions x hm).2.1 (by omega)) (ZjH (hE.regions x hm).1 (by omega))
   simp only [Region.enc,NL.enc] at hS;simp only [go_sem,Nat.reduceBEq,reduceAdd,reduceLT,reduceLeDiff,reduceIte,c35L0b,hg,hi',hwr,hlt,if_true,Region.enc,NL.enc,hS])
  (e:=.exit 0) (fr:=[(2,stJ c s),(3,stI s),(4,.bot),(5,I s.Regions.length)]) (h:=[]) (by simp only [go_sem,Nat.reduceBEq,reduceAdd,reduceLT,reduceLeDiff,reduceIte,c35L0b,ZG]) (by simp)
 exact L
theorem ZiA (c:Bool) (s:Sta) (hE:StE s):Zg rE [2,3,6] c35L1b [(2,stJ c s),(3,stI s),(6,.int .i64 0)] []=some (.exit 2,[(2,stJ c s),(3,stI s),(4,.bot),(6,I s.Streets.length)],[]):=by
 have hn:=hE.sizes.streets;have L:=Y8 (E:=rE) (live:=[2,3,6]) (b:=c35L1b) s.Streets.length (fun i=>[(2,stJ c s),(3,stI s),(6,I i)]) (fun i=>[]) (fun i=>rfl)
  (fun i hi=>by
   obtain ⟨x,hx⟩:∃ x,s.Streets[i]? = some x:=⟨_,Zj4 hi⟩;have hg:=Z6 (f:=Street.enc) hx;have hi':=Zh hi;have hwr:=Zx (n:=i) (by omega)
   have hlt:((i:Int) < (s.Streets.length:Int)):=by omega
   have hm:=Zje hx;refine ⟨[(2,stJ c s),(3,stI s),(4,.bot),(6,I (i+1:Nat))],?_,rfl⟩;have hS:=ZaV x (ZjH (hE.streets x hm).2.1 (by omega)) (ZjH (hE.streets x hm).1 (by omega))
   simp only [Street.enc,NL.enc] at hS;simp only [go_sem,Nat.reduceBEq,reduceAdd,reduceLT,reduceLeDiff,reduceIte,c35L1b,hg,hi',hwr,hlt,if_true,Street.enc,NL.enc,hS])
  (e:=.exit 2) (fr:=[(2,stJ c s),(3,stI s),(4,.bot),(6,I s.Streets.length)]) (h:=[]) (by simp only [go_sem,Nat.reduceBEq,reduceAdd,reduceLT,reduceLeDiff,reduceIte,c35L1b,ZG]) (by simp)
 exact L
theorem ZiB (c:Bool) (s:Sta) (hE:StE s):Zg rE [2,3,7] c35L2b [(2,stJ c s),(3,stI s),(7,.int .i64 0)] []=some (.exit 4,[(2,stJ c s),(3,stI s),(4,.bot),(7,I s.Buildings.length)],[]):=by
 have hn:=hE.sizes.buildings;have L:=Y8 (E:=rE) (live:=[2,3,7]) (b:=c35L2b) s.Buildings.length (fun i=>[(2,stJ c s),(3,stI s),(7,I i)]) (fun i=>[]) (fun i=>rfl)
  (fun i hi=>by
   obtain ⟨x,hx⟩:∃ x,s.Buildings[i]? = some x:=⟨_,Zj4 hi⟩;have hg:=Z6 (f:=Building.enc) hx;have hi':=Zh hi;have hwr:=Zx (n:=i) (by omega)
   have hlt:((i:Int) < (s.Buildings.length:Int)):=by omega
   have hm:=Zje hx;refine ⟨[(2,stJ c s),(3,stI s),(4,.bot),(7,I (i+1:Nat))],?_,rfl⟩;have hS:=ZaW x (ZjH (hE.buildings x hm).1 (by omega))
   simp only [Building.enc,NL.enc] at hS;simp only [go_sem,Nat.reduceBEq,reduceAdd,reduceLT,reduceLeDiff,reduceIte,c35L2b,hg,hi',hwr,hlt,if_true,Building.enc,NL.enc,hS])
  (e:=.exit 4) (fr:=[(2,stJ c s),(3,stI s),(4,.bot),(7,I s.Buildings.length)]) (h:=[]) (by simp only [go_sem,Nat.reduceBEq,reduceAdd,reduceLT,reduceLeDiff,reduceIte,c35L2b,ZG]) (by simp)
 exact L
theorem ZiC (c:Bool) (s:Sta) (hE:StE s):Zg rE [2,3,8] c35L3b [(2,stJ c s),(3,stI s),(8,.int .i64 0)] []=some (.exit 6,[(2,stJ c s),(3,stI s),(4,.bot),(8,I s.Doors.length)],[]):=by
 have hn:=hE.sizes.doors;have L:=Y8 (E:=rE) (live:=[2,3,8]) (b:=c35L3b) s.Doors.length (fun i=>[(2,stJ c s),(3,stI s),(8,I i)]) (fun i=>[]) (fun i=>rfl)
  (fun i hi=>by
   obtain ⟨x,hx⟩:∃ x,s.Doors[i]? = some x:=⟨_,Zj4 hi⟩;have hg:=Z6 (f:=Door.enc) hx;have hi':=Zh hi;have hwr:=Zx (n:=i) (by omega)
   have hlt:((i:Int) < (s.Doors.length:Int)):=by omega
   have hm:=Zje hx;refine ⟨[(2,stJ c s),(3,stI s),(4,.bot),(8,I (i+1:Nat))],?_,rfl⟩;have hS:=ZaY x (by have:=(hE.doors x hm).after;omega)
   simp only [Door.enc,NL.enc] at hS;simp only [go_sem,Nat.reduceBEq,reduceAdd,reduceLT,reduceLeDiff,reduceIte,c35L3b,hg,hi',hwr,hlt,if_true,Door.enc,NL.enc,hS])
  (e:=.exit 6) (fr:=[(2,stJ c s),(3,stI s),(4,.bot),(8,I s.Doors.length)]) (h:=[]) (by simp only [go_sem,Nat.reduceBEq,reduceAdd,reduceLT,reduceLeDiff,reduceIte,c35L3b,ZG]) (by simp)
 exact L
theorem ZiD (c:Bool) (s:Sta) (hE:StE s):Zg rE [2,3,9] c35L4b [(2,stJ c s),(3,stI s),(9,.int .i64 0)] []=some (.exit 8,[(2,stJ c s),(3,stI s),(4,.bot),(9,I s.Units.length)],[]):=by
 have hn:=hE.sizes.units;have L:=Y8 (E:=rE) (live:=[2,3,9]) (b:=c35L4b) s.Units.length (fun i=>[(2,stJ c s),(3,stI s),(9,I i)]) (fun i=>[]) (fun i=>rfl)
  (fun i hi=>by
   obtain ⟨x,hx⟩:∃ x,s.Units[i]? = some x:=⟨_,Zj4 hi⟩;have hg:=Z6 (f:=Unit'.enc) hx;have hi':=Zh hi;have hwr:=Zx (n:=i) (by omega)
   have hlt:((i:Int) < (s.Units.length:Int)):=by omega
   have hm:=Zje hx;refine ⟨[(2,stJ c s),(3,stI s),(4,.bot),(9,I (i+1:Nat))],?_,rfl⟩;simp only [go_sem,Nat.reduceBEq,reduceAdd,reduceLT,reduceLeDiff,reduceIte,c35L4b,hg,hi',hwr,hlt,if_true,Unit'.enc,NL.enc,Zad,beq_self_eq_true])
  (e:=.exit 8) (fr:=[(2,stJ c s),(3,stI s),(4,.bot),(9,I s.Units.length)]) (h:=[]) (by simp only [go_sem,Nat.reduceBEq,reduceAdd,reduceLT,reduceLeDiff,reduceIte,c35L4b,ZG]) (by simp)
 exact L
theorem ZiE (c:Bool) (s:Sta) (hE:StE s):pfn rE 35 [stB c s,stA s]=some (.bool true):=by
 have l0:=Ziz c s hE;have l1:=ZiA c s hE;have l2:=ZiB c s hE;have l3:=ZiC c s hE;have l4:=ZiD c s hE;have p1:=ZbL false s.Merged hE.sizes.merged;have p2:=ZbL false s.Rulings hE.sizes.rulings;have hne:∀ n:Nat,((n:Int) != (n:Int))=false:=fun n=>by simp
 simp only [stI,stJ] at l0 l1 l2 l3 l4;rw [Z5 (f:=35) rfl rfl];simp only [go_sem,Nat.reduceBEq,reduceAdd,reduceIte,c35,c35L0,c35L1,c35L2,c35L3,c35L4,hne,l0,l1,l2,l3,l4,p1,p2]
end Go.AM
namespace Go.AM
open Go
theorem c9_eq:c9=.seq s9p0 (.seq s9p1 (.seq s9p2 (.seq s9p3 (.seq s9p4 (.seq s9p5 (.seq s9p6 (.seq s9p7 (.seq s9p8 (.seq s9p9 (.seq s9p10 (.seq s9p11 .ret))))))))))):=rfl
theorem ZiF (s:Sta) (a:Int) (e:Event):pfn rE 9 [stA s,I a,evA e]=some (.bool true):=by
 have hH:=Z4U;have hF:=Z4G s { e with Kind:=8 }
 rw [Z5 (f:=9) (c:=c9) rfl rfl,c9_eq];simp only [evA] at hF;cases c:YQ s&&Xn { e with Kind:=8 } with
 | false=>
  rw [c] at hF;simp only [go_sem,Nat.reduceBEq,reduceAdd,reduceLT,reduceLeDiff,reduceIte,s9p0,s9p1,s9p2,s9p3,hH,hF]
 | true=>
 rw [c] at hF;rw [Zj2] at c;have hs:=Kl s c.1;have he:=JL _ c.2;have hA:=JJ s hs a { e with Kind:=8 } he
 cases c1:Qk s a { e with Kind:=8 }==0 with
 | false=>
  have n1:(Qk s a { e with Kind:=8 } != 0)=true:=by simpa using c1
  generalize Qk s a { e with Kind:=8 }=er at *
  generalize ZP s a { e with Kind:=8 }=t at *
  simp only [evA] at hA;simp only [go_sem,Nat.reduceBEq,reduceAdd,reduceLT,reduceLeDiff,reduceIte,s9p0,s9p1,s9p2,s9p3,s9p4,s9p5,hH,hF,hA,n1]
 | true=>
 have e0:Qk s a { e with Kind:=8 }=0:=by simpa using c1
 have n1:((0:Int) != 0)=false:=rfl;obtain ⟨r1,r2,r3,r4,r5⟩:=Ziq e0 rfl;rw [e0,r1] at hA;generalize (ZP s a { e with Kind:=8 }).Doors=D at r2 r3 r4 hA
 have hDl:=hs.doors;have hLl:=he.lst;have l1:=Ziy s { s with Doors:=D } { e with Kind:=8 } (ZjH hLl (by omega)) (by show D.length≤1000;omega) r2 r3 r4
 have hS:=ZiE false s hs.e;have z0:((0:Nat):Int)=0:=rfl;simp only [rnF,rnG,rnH,rnA,evA,stI,r5,z0] at l1;have hpos:0 < D.length:=by
  cases hD:D with
  | cons _ _=>simp
  | nil=>
   exfalso;rw [hD] at r2;have h0:s.Doors=[]:=List.length_eq_zero_iff.1 r2.symm;rw [h0] at r5;have h1:=(ZbX (ZbV e0).1).2.2;have h2:=ZcV h1;have h3:(ZZ e.Id&&(ZD e.Lst.l.length 1 40&&(Xi e.Lst.l []&&Vk e.Lst.l true)))=true:=h2;simp only [Zj2] at h3;have h4:=h3.2.1;unfold ZD at h4;rw [Zj2] at h4;have h5:=of_decide_eq_true h4.1;have h6:(0:Nat)=e.Lst.l.length:=r5;omega
 have hemp:(D.map Door.enc).isEmpty=false:=by
  cases D with
  | cons _ _=>rfl
  | nil=>exact absurd hpos (by decide)
 have hap:=fun (x0 x1 x2:AObj)=>Z2q (h:=[x0,x1,x2,.row 16 []]) (aid:=4) (b:=3) (g:=0) (sz:=16) (bytes:=184) (es:=[]) (ys:=D.map Door.enc) (bw:=false) (ex:=false) rfl hemp (by omega) (by omega) (by rw [Zj6];omega)
 have hbD:∀ (D:List Door) n,Zd n (D.map Door.enc)=true:=fun D n=>ZN _ (Zw (fun t=>rfl) D)
 have hcD:Z4 (s.Doors.map Door.enc)=true:=Zw (fun t=>rfl) _
 have hne:((s.Doors.length:Int) != (s.Doors.length:Int))=false:=by simp
 have hqe:(((s.Doors.filter (inL e.Lst.l)).length:Int)==(e.Lst.l.length:Int))=true:=by simp [r5]
 have htk:List.take s.Doors.length (s.Doors.map Door.enc)=s.Doors.map Door.enc:=Zjg (by simp)
 simp only [evA] at hA;simp only [r2] at l1;simp only [Zj7,Zj6,r2] at hap;simp only [go_sem,Nat.reduceBEq,reduceAdd,reduceLT,reduceLeDiff,reduceIte,s9p0,s9p1,s9p2,s9p3,s9p4,s9p5,s9p6,s9p7,s9p8,s9p9,s9p10,s9p11,c9L1,hH,hF,hA,n1,hne,appW,hap,ZM,ZH,F5,beq_self_eq_true,l1,hbD,r2,hcD,htk,ZjP,hS,hqe]
end Go.AM
